import Derived.Test.YtchngbjpjbahiaaGreatDoorHSailz0
import Derived.Test.YtchngbjpjbahiaaGreatDoorHSailza
import Derived.Test.YtchngbjpjbahiaaGreatDoorHSailzc
import Derived.Test.YtchngbjpjbahiaaGreatDoorHSailze
namespace Go.Proofs.YtchngbjpjbahiaaGreatDoor.PSailz
noncomputable section
open Go.RowKit Go.Proofs.YtchngbjpjbahiaaGreatDoorW.PrintWords Go.Proofs.YtchngbjpjbahiaaGreatDoorW.PrintLast Go.Proofs.YtchngbjpjbahiaaGreatDoorW.PrintMore
attribute [local go_sem] max2_int min2_int max_two min_two max_three min_three max_four min_four   -- for this text's walks alone
set_option linter.unusedVariables false
set_option linter.unusedSimpArgs false
set_option maxHeartbeats 8000000
set_option maxRecDepth 100000
attribute [local go_sem high] eqA47

mutual
def impl_MoveSail.j0 : Nat → List (S47) → Int → Int → Bool → Option ((List (S47)) × Int)
 | 0, _, _, _, _ => none
 | k + 1, x0, x1, x2, x21 => if x21 = true then (some (([] : List (S47)), 2)) else (impl_MoveSail.l0 k x1 x2 (([] : List (S47))) x0 (x0.length : Int) 0)
def impl_MoveSail.l0 : Nat → Int → Int → List (S47) → List (S47) → Int → Int → Option ((List (S47)) × Int)
 | 0, _, _, _, _, _, _ => none
 | k + 1, x1, x2, x8, x23, x24, x25 => if x25 < x24 then (if 0 ≤ x25 then (if x25 < (x23.length : Int) then (if x8.length < 8796093022208 then (impl_MoveSail.l0 k x1 x2 (x8 ++ [(⟨wrap64 (((rd_T47 x23 x25).f0) + x1), wrap64 (((rd_T47 x23 x25).f1) + x2)⟩ : S47)]) x23 x24 (wrap64 (x25 + 1))) else (none)) else (none)) else (none)) else ((impl_ValidSail.f k x8).bind fun t294 => (if t294 = true then (some (x8, 0)) else (some (([] : List (S47)), 5))))
end
def impl_MoveSail.f (k : Nat) (l0 : List (S47)) (a1 : Int) (a2 : Int) : Option ((List (S47)) × Int) := (impl_ValidSail.f k l0).bind fun t283 => (if t283 = true then ((impl_within.f a1 (-2000) 2000).bind fun t284 => (if t284 = true then ((impl_within.f a2 (-2000) 2000).bind fun t285 => (impl_MoveSail.j0 k l0 a1 a2 (!t285))) else (impl_MoveSail.j0 k l0 a1 a2 true))) else (some (([] : List (S47)), 1)))
theorem impl_MoveSail.calls (k : Nat) (A0 : Option Addr) (c0 : Nat) (l0 : List (S47)) (a1 : Int) (a2 : Int) (r1 : List (S47)) (r2 : Int) (w : World) (hr0 : Kd.C k47 w A0 l0.length l0) (hc0 : l0.length ≤ c0) (h : impl_MoveSail.f k l0 a1 a2 = some (r1, r2)) :
  Calls Tryz.prog 6 #[.slice A0 l0.length c0, .int .i64 a1, .int .i64 a2] w fun e w' => ∃ v0_ : Value, e = .returned (.tuple #[v0_, .int .i64 r2]) ∧ Kd.R k47 47 w' w.heap.size (fun _ => True) v0_ r1 ∧ Below w.heap.size w w' := by
 have hu47 := Tryz.underlying47
 have HR0 := zQ hr0
 have HC0 := zQ hc0
 clear hr0 hc0
 have HB := zQ (Below.refl w.heap.size w)
 have H := h; unfold impl_MoveSail.f at H
 clear h
 replace H := zob H; obtain ⟨t283, A4, H⟩ := H
 by_cases c5 : t283 = true
 ·subst c5
  rw [if_pos rfl] at H; have HC6 := zQ H; clear H
  go_enter Tryz.func6, Tryz.ntmps6
  go_upto_region 3 with (first | ((with_reducible refine zgc 23 ?_); refine goesL_ (some 12) rfl rfl Tryz.func23 (by kernel_rfl) rfl #[.slice A0 l0.length c0] rfl zM ?_; (with_reducible refine (impl_ValidSail.calls k _ _ l0 true _ ?side1 HC0.out A4.out).mono ?_); (case side1 => repeat (first | exact HR0.out | (with_reducible refine Kd.C_alloc ?_ _) | (with_reducible refine Kd.C_drewN ?_ _) | (with_reducible refine Kd.C_drew ?_))); rintro e w7 ⟨rfl, hb⟩; refine ⟨_, rfl, ?_⟩; replace HB := zbs HB.out hb; (try clear hb)))
  (try simp only [Act.put, List.setIfInBounds_toArray, List.set_cons_zero, List.set_cons_succ])
  go_cut [21] (fun v21 wc => ∃ (kq : Nat) (x21_5 : Bool), v21 = .bool x21_5 ∧ Aside0 (impl_MoveSail.j0 kq l0 a1 a2 x21_5 = some (r1, r2)) ∧ Aside0 (kq ≤ k) ∧ Aside0 (Below w.heap.size w wc))
  case first =>
   have H := HC6.out; clear HC6; replace H := zob H; obtain ⟨t284, A8, H⟩ := H
   by_cases c9 : t284 = true
   ·subst c9
    rw [if_pos rfl] at H; replace H := zob H; obtain ⟨t285, A10, H⟩ := H; have H' := zQ H; clear H
    go_wp2_with (first | ((with_reducible refine zgc 30 ?_); refine goesL_ (some 15) rfl rfl Tryz.func30 (by kernel_rfl) rfl #[.int .i64 a1, .int .i64 (-2000), .int .i64 2000] rfl zM ?_; (with_reducible refine (impl_within.calls a1 (-2000) 2000 true _ A8.out).mono ?_); rintro e w' ⟨rfl, ⟨nd, rfl⟩⟩; refine ⟨_, rfl, ?_⟩) | (go_at_call 30; (with_reducible refine (impl_within.calls a2 (-2000) 2000 t285 _ A10.out).mono ?_); rintro e w' ⟨rfl, ⟨nd, rfl⟩⟩))
    go_meet
    case rel => exact ⟨_, (!t285), (zF), H', ⟨by first | omega | exact Nat.le_refl _⟩, ⟨zB HB.out⟩⟩
   ·replace c9 := Bool.eq_false_iff.mpr c9
    subst c9
    rw [if_neg Bool.false_ne_true] at H; have H' := zQ H; clear H
    go_wp2_with (first | ((with_reducible refine zgc 30 ?_); refine goesL_ (some 15) rfl rfl Tryz.func30 (by kernel_rfl) rfl #[.int .i64 a1, .int .i64 (-2000), .int .i64 2000] rfl zM ?_; (with_reducible refine (impl_within.calls a1 (-2000) 2000 false _ A8.out).mono ?_); rintro e w' ⟨rfl, ⟨nd, rfl⟩⟩; refine ⟨_, rfl, ?_⟩))
    go_meet
    case rel => exact ⟨_, (true), (zF), H', ⟨by first | omega | exact Nat.le_refl _⟩, ⟨zB HB.out⟩⟩
  case rest =>
   clear HC6; (try clear c2); (try clear p2); (try clear c3); (try clear c5); (try clear c6); (try clear c9); obtain ⟨kq, x21_5, rfl, HA, HJ5, HB⟩ := hcut
   cases kq with
   | zero => exact absurd HA.out (by simp [impl_MoveSail.j0])
   | succ kj5 =>
    have H := HA.out; clear HA
    simp only [impl_MoveSail.j0] at H
    by_cases c11 : x21_5 = true
    ·subst c11
     rw [if_pos rfl] at H
     simp only [Option.some.injEq, Prod.mk.injEq] at H
     obtain ⟨rfl, rfl⟩ := H
     go_wp2
     go_ret2
     exact ⟨_, zE, by first | exact Kd.R_nil _ _ _ _ _ | exact Kd.N_nil _ _ _ _ _ | exact Kd.V_nil _ _ _ _ _ | exact Kd.Q_nil _ _ _ _ _ | exact Kd.S_nil _ _ _ _ _, zB HB.out⟩
    ·replace c11 := Bool.eq_false_iff.mpr c11
     subst c11
     rw [if_neg Bool.false_ne_true] at H; obtain ⟨y286, hy286⟩ : ∃ y_ : List (S47), y_ = (([] : List (S47))) := ⟨_, rfl⟩; replace H : (impl_MoveSail.l0 kj5 a1 a2 y286 l0 (l0.length : Int) 0) = some (r1, r2) := zh H; have Ny286 := zQ hy286; clear hy286; have H' := zQ H; clear H
     go_wp2_with (first | ((with_reducible refine zd 22 ?_); refine Kd.R_lit k47 _ 47 ?hg (N := 22) ?hd (xs := ([] : List (S47))) (inner := []) (ok := fun _ => True) (okp := fun _ => True) ?hr ?hp (fun _ hk => hk) trivial (Below.refl _ _) (Nat.le_refl _) (by simp) ?_; (case hd => rfl); (case hg => rfl); (case hr => first | (go_simp; done) | (go_simp; rfl)); (case hp => exact (Reps.none _ _)); intro v287 w12 ho13 hb hg_ hnew_; clear hg_ hnew_; (first | rw [← Ny286.out] at ho13 | (simp only [Int.reduceToNat] at ho13; rw [← Ny286.out] at ho13)); have HO288 := zQ (Kd.R_lower ho13 (below_size (zB HB.out))); replace HB := zbs HB.out hb; clear hb ho13))
     go_loopg [8, 25] kj5 (fun kq v8 v25 w' => ∃ (x8_2 : List (S47)) (x25_2 : Int), v25 = .int .i64 x25_2 ∧ Aside0 (impl_MoveSail.l0 kq a1 a2 x8_2 l0 (l0.length : Int) x25_2 = some (r1, r2)) ∧ Aside0 (kq ≤ kj5) ∧ Aside0 (Kd.R k47 47 w' w.heap.size (fun _ => True) v8 x8_2) ∧ Aside0 (Below w.heap.size w w'))
     case atStart => exact ⟨(y286), (0), (zF), H', ⟨Nat.le_refl _⟩, ⟨zR HO288.out⟩, ⟨zB HB.out⟩⟩
     case round =>
      clear H'; (try clear c1); (try clear c2); (try clear p2); (try clear c3); (try clear c5); (try clear c6); (try clear c9); (try clear c11); (try clear p2); obtain ⟨x8_2, x25_2, rfl, HA, HK2, HO_8, HB⟩ := hrel
      cases gk with
      | zero => exact absurd HA.out (by simp [impl_MoveSail.l0])
      | succ k2 =>
       have H := HA.out; clear HA
       simp only [impl_MoveSail.l0] at H
       by_cases c14 : x25_2 < (l0.length : Int)
       ·rw [if_pos c14] at H
        have c14b0 := decide_eq_true c14; clear c14
        by_cases c15 : 0 ≤ x25_2
        ·rw [if_pos c15] at H
         have c15b0 := decide_eq_true c15; clear c15
         by_cases c16 : x25_2 < (l0.length : Int)
         ·rw [if_pos c16] at H
          have c16b0 := decide_eq_true c16; clear c16
          by_cases c17 : x8_2.length < 8796093022208
          ·rw [if_pos c17] at H
           have LMc17 := zQ c17; clear c17; obtain ⟨y291, hy291⟩ : ∃ y_ : List (S47), y_ = (x8_2 ++ [(⟨wrap64 (((rd_T47 l0 x25_2).f0) + a1), wrap64 (((rd_T47 l0 x25_2).f1) + a2)⟩ : S47)]) := ⟨_, rfl⟩; replace H : (impl_MoveSail.l0 k2 a1 a2 y291 l0 (l0.length : Int) (wrap64 (x25_2 + 1))) = some (r1, r2) := zh H; have Ny291 := zQ hy291; clear hy291; have H' := zQ H; clear H; have p289 : 0 ≤ (x25_2 : Int) := zD; have q289 : x25_2 < (l0.length : Int) := zD; obtain ⟨ad289, e289, hx289_0, hx289_1⟩ := at_T47 HR0.out x25_2 p289 q289
           cases e289
           replace hx289_0 := zw HB.out hx289_0; replace hx289_1 := zw HB.out hx289_1; replace p289 := eq_true p289; replace q289 := eq_true q289
           go_wp2_with (first | ((with_reducible refine zd 10 ?_); refine zbx (N := 10) (cs := #[.int .i64 0, .int .i64 0]) (t := 47) ?_; intro gb290 hg w18 hbox hb; have BK290 := zQ (hbox); have GW290 := zgz hg HB.out; have GE290 := GW290; replace HO_8 := zQ (Kd.R_below (Kd.R_elderB (zR HO_8.out) gb290 (Nat.le_of_eq hg.symm)) hb); replace HB := zbs HB.out hb; clear hb hbox hg; obtain ⟨hcz19_0, hcz19_1, hfz19_0, hfz19_1⟩ := zy2 BK290.out) | ((with_reducible refine gate_builtin (b := .append) (xs := #[.tmp 29, .tmp 39]) rfl ?_); at_builtin; refine Kd.R_append k47 (w0 := w) w.heap.size rfl (.tmp 29) (.tmp 39) 24 47 (.agg #[(.int .i64 0), (.int .i64 0)]) 16 rfl Tryz.underlying24 info47 rfl (by decide) (by omega) u8 x8_2 (⟨wrap64 (((rd_T47 l0 x25_2).f0) + a1), wrap64 (((rd_T47 l0 x25_2).f1) + a2)⟩ : S47) [.int .i64 (wrap64 (((rd_T47 l0 x25_2).f0) + a1)), .int .i64 (wrap64 (((rd_T47 l0 x25_2).f1) + a2))] (fun k_ => k_ ≠ gb290) (fun _ => False) rfl (by first | (go_simp; done) | (go_simp; rfl)) ?aP (fun _ hk => hk.elim) ?aF ?aO ?aB ?aS ?aL ?_; (case aP => exact k47_mkM _ _ _ (⟨wrap64 (((rd_T47 l0 x25_2).f0) + a1), wrap64 (((rd_T47 l0 x25_2).f1) + a2)⟩ : S47)); (case aB => exact (zB2 HB.out GE290.out)); (case aF => exact (fun k_ hk => Kd.freshB (g := gb290) (o := .cells #[.int .i64 ((rd_T47 l0 x25_2).f0), .int .i64 ((rd_T47 l0 x25_2).f1)] 47 (0, 0)) (by refine zb ?_; refine blk_put (cs := #[.int .i64 ((rd_T47 l0 x25_2).f0), .int .i64 0]) ?_ 1 _ rfl; refine zb ?_; refine blk_put (cs := #[.int .i64 0, .int .i64 0]) ?_ 0 _ rfl; refine zb ?_; exact BK290.out) k_ hk)); (case aO => exact (by (with_reducible repeat (first | apply Kd.R_alloc | apply Kd.R_drewN | apply Kd.R_drew)); exact Kd.R_mono (Kd.R_far (p := ⟨gb290, 1, none⟩) (Kd.R_far (p := ⟨gb290, 0, none⟩) (Kd.R_mono HO_8.out (fun k_ hk => (⟨hk, hk.2⟩ : _ ∧ k_ ≠ gb290))) (fun _ hk => hk.2) (.int .i64 ((rd_T47 l0 x25_2).f0))) (fun _ hk => hk.2) (.int .i64 ((rd_T47 l0 x25_2).f1))) (fun _ hk => hk.1.2))); (case aS => exact (below_size (zB2 HB.out GE290.out))); (case aL => have := LMc17.out; omega); intro v292 w20 ho hb hg hat; rw [← Ny291.out] at ho; have HO293 := zQ (ho); replace BK290 := zQ (blk_grown (g := gb290) (o := .cells #[.int .i64 ((rd_T47 l0 x25_2).f0), .int .i64 ((rd_T47 l0 x25_2).f1)] 47 (0, 0)) (by refine zb ?_; refine blk_put (cs := #[.int .i64 ((rd_T47 l0 x25_2).f0), .int .i64 0]) ?_ 1 _ rfl; refine zb ?_; refine blk_put (cs := #[.int .i64 0, .int .i64 0]) ?_ 0 _ rfl; refine zb ?_; exact BK290.out) hg (Kd.R_away HO_8.out (fun _ hk => hk.2))); replace HB := zQ (hb); clear HO_8 ho hb hg hat))
           go_roundg k2
           case measure => have := HJ5.out; have := HK2.out; omega
           case rel => exact ⟨(y291), (wrap64 (x25_2 + 1)), (zF), H', ⟨by have := HJ5.out; have := HK2.out; omega⟩, ⟨by (with_reducible repeat (first | apply Kd.R_alloc | apply Kd.R_drewN | apply Kd.R_drew)); exact Kd.R_mono HO293.out (fun _ hk => trivial)⟩, ⟨zB2 HB.out GE290.out⟩⟩
          ·rw [if_neg c17] at H
           exact absurd H (by simp)
         ·rw [if_neg c16] at H
          exact absurd H (by simp)
        ·rw [if_neg c15] at H
         exact absurd H (by simp)
       ·rw [if_neg c14] at H
        have c14b0 := decide_eq_false c14; clear c14; replace H := zob H; obtain ⟨t294, A21, H⟩ := H
        by_cases c22 : t294 = true
        ·subst c22
         rw [if_pos rfl] at H
         simp only [Option.some.injEq, Prod.mk.injEq] at H
         obtain ⟨rfl, rfl⟩ := H; obtain ⟨Ao23, co23, eo23⟩ := Kd.R_slice HO_8.out; subst eo23
         go_wp2_with (first | ((with_reducible refine zgc 23 ?_); refine goesL_ (some 43) rfl rfl Tryz.func23 (by kernel_rfl) rfl #[.slice Ao23 x8_2.length co23] rfl zM ?_; (with_reducible refine (impl_ValidSail.calls k2 _ _ x8_2 true _ ?side1 ((Kd.R_reads' HO_8.out).2.1) A21.out).mono ?_); (case side1 => exact zk (Kd.R_reads' HO_8.out).2.2); rintro e w24 ⟨rfl, hb⟩; refine ⟨_, rfl, ?_⟩; replace HO_8 := zRb HO_8.out hb; replace HB := zbs HB.out hb; (try clear hb)))
         go_ret2
         exact ⟨_, zE, zR HO_8.out, zB HB.out⟩
        ·replace c22 := Bool.eq_false_iff.mpr c22
         subst c22
         rw [if_neg Bool.false_ne_true] at H
         simp only [Option.some.injEq, Prod.mk.injEq] at H
         obtain ⟨rfl, rfl⟩ := H; obtain ⟨Ao25, co25, eo25⟩ := Kd.R_slice HO_8.out; subst eo25
         go_wp2_with (first | ((with_reducible refine zgc 23 ?_); refine goesL_ (some 43) rfl rfl Tryz.func23 (by kernel_rfl) rfl #[.slice Ao25 x8_2.length co25] rfl zM ?_; (with_reducible refine (impl_ValidSail.calls k2 _ _ x8_2 false _ ?side1 ((Kd.R_reads' HO_8.out).2.1) A21.out).mono ?_); (case side1 => exact zk (Kd.R_reads' HO_8.out).2.2); rintro e w26 ⟨rfl, hb⟩; refine ⟨_, rfl, ?_⟩; replace HO_8 := zRb HO_8.out hb; replace HB := zbs HB.out hb; (try clear hb)))
         go_ret2
         exact ⟨_, zE, by first | exact Kd.R_nil _ _ _ _ _ | exact Kd.N_nil _ _ _ _ _ | exact Kd.V_nil _ _ _ _ _ | exact Kd.Q_nil _ _ _ _ _ | exact Kd.S_nil _ _ _ _ _, zB HB.out⟩
 ·replace c5 := Bool.eq_false_iff.mpr c5
  subst c5
  rw [if_neg Bool.false_ne_true] at H
  simp only [Option.some.injEq, Prod.mk.injEq] at H
  obtain ⟨rfl, rfl⟩ := H
  go_enter Tryz.func6, Tryz.ntmps6
  go_wp2_with (first | ((with_reducible refine zgc 23 ?_); refine goesL_ (some 12) rfl rfl Tryz.func23 (by kernel_rfl) rfl #[.slice A0 l0.length c0] rfl zM ?_; (with_reducible refine (impl_ValidSail.calls k _ _ l0 false _ ?side1 HC0.out A4.out).mono ?_); (case side1 => repeat (first | exact HR0.out | (with_reducible refine Kd.C_alloc ?_ _) | (with_reducible refine Kd.C_drewN ?_ _) | (with_reducible refine Kd.C_drew ?_))); rintro e w27 ⟨rfl, hb⟩; refine ⟨_, rfl, ?_⟩; replace HB := zbs HB.out hb; (try clear hb)))
  go_ret2
  exact ⟨_, zE, by first | exact Kd.R_nil _ _ _ _ _ | exact Kd.N_nil _ _ _ _ _ | exact Kd.V_nil _ _ _ _ _ | exact Kd.Q_nil _ _ _ _ _ | exact Kd.S_nil _ _ _ _ _, zB HB.out⟩

def impl_TwiceSail.f (k : Nat) (l0 : List (S47)) : Option (Int × Int) := (impl_ValidSail.f k l0).bind fun t358 => (if t358 = true then ((impl_twiceSail.f k l0).bind fun t359 => (some (t359, 0))) else (some (0, 1)))
theorem impl_TwiceSail.calls (k : Nat) (A0 : Option Addr) (c0 : Nat) (l0 : List (S47)) (r1 : Int) (r2 : Int) (w : World) (hr0 : Kd.C k47 w A0 l0.length l0) (hc0 : l0.length ≤ c0) (h : impl_TwiceSail.f k l0 = some (r1, r2)) :
  Calls Tryz.prog 8 #[.slice A0 l0.length c0] w fun e w' => e = .returned (.tuple #[.int .i64 r1, .int .i64 r2]) ∧ Below w.heap.size w w' := by
 have HR0 := zQ hr0
 have HC0 := zQ hc0
 clear hr0 hc0
 have HB := zQ (Below.refl w.heap.size w)
 have H := h; unfold impl_TwiceSail.f at H
 clear h
 replace H := zob H; obtain ⟨t358, A2, H⟩ := H
 by_cases c3 : t358 = true
 ·subst c3
  rw [if_pos rfl] at H; replace H := zob H; obtain ⟨t359, A4, H⟩ := H
  simp only [Option.some.injEq, Prod.mk.injEq] at H
  obtain ⟨rfl, rfl⟩ := H
  go_enter Tryz.func8, Tryz.ntmps8
  go_wp2_with (first | ((with_reducible refine zgc 23 ?_); refine goesL_ (some 5) rfl rfl Tryz.func23 (by kernel_rfl) rfl #[.slice A0 l0.length c0] rfl zM ?_; (with_reducible refine (impl_ValidSail.calls k _ _ l0 true _ ?side1 HC0.out A2.out).mono ?_); (case side1 => repeat (first | exact HR0.out | (with_reducible refine Kd.C_alloc ?_ _) | (with_reducible refine Kd.C_drewN ?_ _) | (with_reducible refine Kd.C_drew ?_))); rintro e w5 ⟨rfl, hb⟩; refine ⟨_, rfl, ?_⟩; replace HB := zbs HB.out hb; (try clear hb)) | ((with_reducible refine zgc 33 ?_); refine goesL_ (some 8) rfl rfl Tryz.func33 (by kernel_rfl) rfl #[.slice A0 l0.length c0] rfl zM ?_; (with_reducible refine (impl_twiceSail.calls k _ _ l0 t359 _ (zC HR0.out HB.out) HC0.out A4.out).mono ?_); rintro e w6 ⟨rfl, hb⟩; refine ⟨_, rfl, ?_⟩; replace HB := zbs HB.out hb; (try clear hb)))
  go_ret2
  exact ⟨zE, zB HB.out⟩
 ·replace c3 := Bool.eq_false_iff.mpr c3
  subst c3
  rw [if_neg Bool.false_ne_true] at H
  simp only [Option.some.injEq, Prod.mk.injEq] at H
  obtain ⟨rfl, rfl⟩ := H
  go_enter Tryz.func8, Tryz.ntmps8
  go_wp2_with (first | ((with_reducible refine zgc 23 ?_); refine goesL_ (some 5) rfl rfl Tryz.func23 (by kernel_rfl) rfl #[.slice A0 l0.length c0] rfl zM ?_; (with_reducible refine (impl_ValidSail.calls k _ _ l0 false _ ?side1 HC0.out A2.out).mono ?_); (case side1 => repeat (first | exact HR0.out | (with_reducible refine Kd.C_alloc ?_ _) | (with_reducible refine Kd.C_drewN ?_ _) | (with_reducible refine Kd.C_drew ?_))); rintro e w7 ⟨rfl, hb⟩; refine ⟨_, rfl, ?_⟩; replace HB := zbs HB.out hb; (try clear hb)))
  go_ret2
  exact ⟨zE, zB HB.out⟩

def impl_IsTriangle.f (k : Nat) (l0 : List (S47)) : Option (Bool × Int) := (impl_ValidSail.f k l0).bind fun t563 => (if t563 = true then (some (((l0.length : Int) == 3), 0)) else (some (false, 1)))
theorem impl_IsTriangle.calls (k : Nat) (A0 : Option Addr) (c0 : Nat) (l0 : List (S47)) (r1 : Bool) (r2 : Int) (w : World) (hr0 : Kd.C k47 w A0 l0.length l0) (hc0 : l0.length ≤ c0) (h : impl_IsTriangle.f k l0 = some (r1, r2)) :
  Calls Tryz.prog 18 #[.slice A0 l0.length c0] w fun e w' => e = .returned (.tuple #[.bool r1, .int .i64 r2]) ∧ Below w.heap.size w w' := by
 have HR0 := zQ hr0
 have HC0 := zQ hc0
 clear hr0 hc0
 have HB := zQ (Below.refl w.heap.size w)
 have H := h; unfold impl_IsTriangle.f at H
 clear h
 replace H := zob H; obtain ⟨t563, A2, H⟩ := H
 by_cases c3 : t563 = true
 ·subst c3
  rw [if_pos rfl] at H
  simp only [Option.some.injEq, Prod.mk.injEq] at H
  obtain ⟨rfl, rfl⟩ := H
  go_enter Tryz.func18, Tryz.ntmps18
  go_wp2_with (first | ((with_reducible refine zgc 23 ?_); refine goesL_ (some 5) rfl rfl Tryz.func23 (by kernel_rfl) rfl #[.slice A0 l0.length c0] rfl zM ?_; (with_reducible refine (impl_ValidSail.calls k _ _ l0 true _ ?side1 HC0.out A2.out).mono ?_); (case side1 => repeat (first | exact HR0.out | (with_reducible refine Kd.C_alloc ?_ _) | (with_reducible refine Kd.C_drewN ?_ _) | (with_reducible refine Kd.C_drew ?_))); rintro e w4 ⟨rfl, hb⟩; refine ⟨_, rfl, ?_⟩; replace HB := zbs HB.out hb; (try clear hb)))
  go_ret2
  exact ⟨zE, zB HB.out⟩
 ·replace c3 := Bool.eq_false_iff.mpr c3
  subst c3
  rw [if_neg Bool.false_ne_true] at H
  simp only [Option.some.injEq, Prod.mk.injEq] at H
  obtain ⟨rfl, rfl⟩ := H
  go_enter Tryz.func18, Tryz.ntmps18
  go_wp2_with (first | ((with_reducible refine zgc 23 ?_); refine goesL_ (some 5) rfl rfl Tryz.func23 (by kernel_rfl) rfl #[.slice A0 l0.length c0] rfl zM ?_; (with_reducible refine (impl_ValidSail.calls k _ _ l0 false _ ?side1 HC0.out A2.out).mono ?_); (case side1 => repeat (first | exact HR0.out | (with_reducible refine Kd.C_alloc ?_ _) | (with_reducible refine Kd.C_drewN ?_ _) | (with_reducible refine Kd.C_drew ?_))); rintro e w5 ⟨rfl, hb⟩; refine ⟨_, rfl, ?_⟩; replace HB := zbs HB.out hb; (try clear hb)))
  go_ret2
  exact ⟨zE, zB HB.out⟩

end
end Go.Proofs.YtchngbjpjbahiaaGreatDoor.PSailz

