import Derived.Test.YtchngbjpjbahiaaGreatDoorHSailz0
import Derived.Test.YtchngbjpjbahiaaGreatDoorHSailza
import Derived.Test.YtchngbjpjbahiaaGreatDoorHSailzg
import Derived.Test.YtchngbjpjbahiaaGreatDoorHSailzi
namespace Go.Proofs.YtchngbjpjbahiaaGreatDoor.PSailz
noncomputable section
open Go.RowKit Go.Proofs.YtchngbjpjbahiaaGreatDoorW.PrintWords Go.Proofs.YtchngbjpjbahiaaGreatDoorW.PrintLast Go.Proofs.YtchngbjpjbahiaaGreatDoorW.PrintMore
attribute [local go_sem] max2_int min2_int max_two min_two max_three min_three max_four min_four   -- for this text's walks alone
set_option linter.unusedVariables false
set_option linter.unusedSimpArgs false
set_option maxHeartbeats 8000000
set_option maxRecDepth 100000
attribute [local go_sem high] eqA47

mutual
def spec_MoveSail.j0 : Nat → List (S47) → Int → Int → Bool → Option ((List (S47)) × Int)
 | 0, _, _, _, _ => none
 | k + 1, x0, x1, x2, x20 => if x20 = true then (some (([] : List (S47)), 2)) else (spec_MoveSail.l0 k x0 x1 x2 (([] : List (S47))) 0)
def spec_MoveSail.l0 : Nat → List (S47) → Int → Int → List (S47) → Int → Option ((List (S47)) × Int)
 | 0, _, _, _, _, _ => none
 | k + 1, x0, x1, x2, x8, x9 => if x9 < (x0.length : Int) then (if 0 ≤ x9 then (if x8.length < 8796093022208 then (spec_MoveSail.l0 k x0 x1 x2 (x8 ++ [(⟨wrap64 (((rd_T47 x0 x9).f0) + x1), wrap64 (((rd_T47 x0 x9).f1) + x2)⟩ : S47)]) (wrap64 (x9 + 1))) else (none)) else (none)) else ((spec_l13Ok.f k x8).bind fun t357 => (if t357 = true then (some (x8, 0)) else (some (([] : List (S47)), 5))))
end
def spec_MoveSail.f (k : Nat) (l0 : List (S47)) (a1 : Int) (a2 : Int) : Option ((List (S47)) × Int) := (spec_l13Ok.f k l0).bind fun t346 => (if t346 = true then ((spec_l00In.f a1 (-2000) 2000).bind fun t347 => (if t347 = true then ((spec_l00In.f a2 (-2000) 2000).bind fun t348 => (spec_MoveSail.j0 k l0 a1 a2 (!t348))) else (spec_MoveSail.j0 k l0 a1 a2 true))) else (some (([] : List (S47)), 1)))
def spec_MoveSail.T9 : Bool × List (List Nat × List Nat) := (true, [([], []), ([], []), ([], []), ([1, 2], [1, 2]), ([3], [3]), ([4], [4]), ([], []), ([5, 6], [5, 6]), ([], []), ([], []), ([8, 9], [8, 9]), ([10], [10]), ([11], [11]), ([], []), ([12, 13], [12, 13]), ([7, 14], [7, 14]), ([15], [15]), ([0, 16], [0, 16]), ([17, 17, 0, 1, 2, 3, 4, 5, 6, 7, 8, 9, 10, 11, 12, 13, 14, 15, 16, 17], [0, 17])])
def spec_MoveSail.B9 : List Nat := [0, 0, 0, 6, 14, 30, 0, 126, 0, 0, 768, 1792, 3840, 0, 16128, 32766, 65534, 131071, 262143]
theorem spec_MoveSail.tab9 : rtab .any (opsOf Tryz.f7 9) = spec_MoveSail.T9 := by kernel_rfl
theorem spec_MoveSail.bits9 : waitsOk spec_MoveSail.T9.2 spec_MoveSail.B9 = true := by kernel_rfl
theorem spec_MoveSail.calls (k : Nat) (A0 : Option Addr) (c0 : Nat) (l0 : List (S47)) (a1 : Int) (a2 : Int) (r1 : List (S47)) (r2 : Int) (w : World) (hr0 : Kd.C k47 w A0 l0.length l0) (hc0 : l0.length ≤ c0) (h : spec_MoveSail.f k l0 a1 a2 = some (r1, r2)) :
  Calls Tryz.prog 7 #[.slice A0 l0.length c0, .int .i64 a1, .int .i64 a2] w fun e w' => ∃ v0_ : Value, e = .returned (.tuple #[v0_, .int .i64 r2]) ∧ Kd.R k47 47 w' w.heap.size (fun _ => True) v0_ r1 ∧ Below w.heap.size w w' := by
 have hu47 := Tryz.underlying47
 have HR0 := zQ hr0
 have HC0 := zQ hc0
 clear hr0 hc0
 have HB := zQ (Below.refl w.heap.size w)
 have H := h; unfold spec_MoveSail.f at H
 clear h
 replace H := zob H; obtain ⟨t346, A4, H⟩ := H
 by_cases c5 : t346 = true
 ·subst c5
  rw [if_pos rfl] at H; have HC6 := zQ H; clear H
  go_enter Tryz.func7, Tryz.ntmps7
  go_upto_region 3 with (first | ((with_reducible refine zgc 31 ?_); refine goesL_ (some 11) rfl rfl Tryz.func31 (by kernel_rfl) rfl #[.slice A0 l0.length c0] rfl zM ?_; (with_reducible refine (spec_l13Ok.calls k _ _ l0 true _ ?side1 HC0.out A4.out).mono ?_); (case side1 => repeat (first | exact HR0.out | (with_reducible refine Kd.C_alloc ?_ _) | (with_reducible refine Kd.C_drewN ?_ _) | (with_reducible refine Kd.C_drew ?_))); rintro e w7 ⟨rfl, hb⟩; refine ⟨_, rfl, ?_⟩; replace HB := zbs HB.out hb; (try clear hb)))
  (try simp only [Act.put, List.setIfInBounds_toArray, List.set_cons_zero, List.set_cons_succ])
  go_cut [20] (fun v20 wc => ∃ (kq : Nat) (x20_5 : Bool), v20 = .bool x20_5 ∧ Aside0 (spec_MoveSail.j0 kq l0 a1 a2 x20_5 = some (r1, r2)) ∧ Aside0 (kq ≤ k) ∧ Aside0 (Below w.heap.size w wc))
  case first =>
   have H := HC6.out; clear HC6; replace H := zob H; obtain ⟨t347, A8, H⟩ := H
   by_cases c9 : t347 = true
   ·subst c9
    rw [if_pos rfl] at H; replace H := zob H; obtain ⟨t348, A10, H⟩ := H; have H' := zQ H; clear H
    go_wp2_with (first | ((with_reducible refine zgc 32 ?_); refine goesL_ (some 14) rfl rfl Tryz.func32 (by kernel_rfl) rfl #[.int .i64 a1, .int .i64 (-2000), .int .i64 2000] rfl zM ?_; (with_reducible refine (spec_l00In.calls a1 (-2000) 2000 true _ A8.out).mono ?_); rintro e w' ⟨rfl, ⟨nd, rfl⟩⟩; refine ⟨_, rfl, ?_⟩) | (go_at_call 32; (with_reducible refine (spec_l00In.calls a2 (-2000) 2000 t348 _ A10.out).mono ?_); rintro e w' ⟨rfl, ⟨nd, rfl⟩⟩))
    go_meet
    case rel => exact ⟨_, (!t348), (zF), H', ⟨by first | omega | exact Nat.le_refl _⟩, ⟨zB HB.out⟩⟩
   ·replace c9 := Bool.eq_false_iff.mpr c9
    subst c9
    rw [if_neg Bool.false_ne_true] at H; have H' := zQ H; clear H
    go_wp2_with (first | ((with_reducible refine zgc 32 ?_); refine goesL_ (some 14) rfl rfl Tryz.func32 (by kernel_rfl) rfl #[.int .i64 a1, .int .i64 (-2000), .int .i64 2000] rfl zM ?_; (with_reducible refine (spec_l00In.calls a1 (-2000) 2000 false _ A8.out).mono ?_); rintro e w' ⟨rfl, ⟨nd, rfl⟩⟩; refine ⟨_, rfl, ?_⟩))
    go_meet
    case rel => exact ⟨_, (true), (zF), H', ⟨by first | omega | exact Nat.le_refl _⟩, ⟨zB HB.out⟩⟩
  case rest =>
   clear HC6; (try clear p2); (try clear c3); (try clear c5); (try clear c7); (try clear c9); obtain ⟨kq, x20_5, rfl, HA, HJ5, HB⟩ := hcut
   cases kq with
   | zero => exact absurd HA.out (by simp [spec_MoveSail.j0])
   | succ kj5 =>
    have H := HA.out; clear HA
    simp only [spec_MoveSail.j0] at H
    by_cases c11 : x20_5 = true
    ·subst c11
     rw [if_pos rfl] at H
     simp only [Option.some.injEq, Prod.mk.injEq] at H
     obtain ⟨rfl, rfl⟩ := H
     go_wp2
     go_ret2
     exact ⟨_, zE, by first | exact Kd.R_nil _ _ _ _ _ | exact Kd.N_nil _ _ _ _ _ | exact Kd.V_nil _ _ _ _ _ | exact Kd.Q_nil _ _ _ _ _ | exact Kd.S_nil _ _ _ _ _, zB HB.out⟩
    ·replace c11 := Bool.eq_false_iff.mpr c11
     subst c11
     rw [if_neg Bool.false_ne_true] at H; obtain ⟨y349, hy349⟩ : ∃ y_ : List (S47), y_ = (([] : List (S47))) := ⟨_, rfl⟩; replace H : (spec_MoveSail.l0 kj5 l0 a1 a2 y349 0) = some (r1, r2) := zh H; have Ny349 := zQ hy349; clear hy349; have H' := zQ H; clear H
     go_wp2_with (first | ((with_reducible refine zd 21 ?_); refine Kd.R_lit k47 _ 47 ?hg (N := 21) ?hd (xs := ([] : List (S47))) (inner := []) (ok := fun _ => True) (okp := fun _ => True) ?hr ?hp (fun _ hk => hk) trivial (Below.refl _ _) (Nat.le_refl _) (by simp) ?_; (case hd => rfl); (case hg => rfl); (case hr => first | (go_simp; done) | (go_simp; rfl)); (case hp => exact (Reps.none _ _)); intro v350 w12 ho13 hb hg_ hnew_; clear hg_ hnew_; (first | rw [← Ny349.out] at ho13 | (simp only [Int.reduceToNat] at ho13; rw [← Ny349.out] at ho13)); have HO351 := zQ (Kd.R_lower ho13 (below_size (zB HB.out))); replace HB := zbs HB.out hb; clear hb ho13))
     go_loopg [8, 9] kj5 (fun kq v8 v9 w' => ∃ (x8_2 : List (S47)) (x9_2 : Int), v9 = .int .i64 x9_2 ∧ Aside0 (spec_MoveSail.l0 kq l0 a1 a2 x8_2 x9_2 = some (r1, r2)) ∧ Aside0 (kq ≤ kj5) ∧ Aside0 (Kd.R k47 47 w' w.heap.size (fun _ => True) v8 x8_2) ∧ Aside0 (Below w.heap.size w w'))
     case atStart => exact ⟨(y349), (0), (zF), H', ⟨Nat.le_refl _⟩, ⟨zR HO351.out⟩, ⟨zB HB.out⟩⟩
     case round =>
      clear H'; (try clear c1); (try clear p2); (try clear c3); (try clear c5); (try clear c7); (try clear c9); (try clear c11); (try clear p2); obtain ⟨x8_2, x9_2, rfl, HA, HK2, HO_8, HB⟩ := hrel
      cases gk with
      | zero => exact absurd HA.out (by simp [spec_MoveSail.l0])
      | succ k2 =>
       have H := HA.out; clear HA
       simp only [spec_MoveSail.l0] at H
       by_cases c14 : x9_2 < (l0.length : Int)
       ·rw [if_pos c14] at H
        have c14b0 := decide_eq_true c14; clear c14
        by_cases c15 : 0 ≤ x9_2
        ·rw [if_pos c15] at H
         have c15b0 := decide_eq_true c15; clear c15
         by_cases c16 : x8_2.length < 8796093022208
         ·rw [if_pos c16] at H
          have LMc16 := zQ c16; clear c16; obtain ⟨y354, hy354⟩ : ∃ y_ : List (S47), y_ = (x8_2 ++ [(⟨wrap64 (((rd_T47 l0 x9_2).f0) + a1), wrap64 (((rd_T47 l0 x9_2).f1) + a2)⟩ : S47)]) := ⟨_, rfl⟩; replace H : (spec_MoveSail.l0 k2 l0 a1 a2 y354 (wrap64 (x9_2 + 1))) = some (r1, r2) := zh H; have Ny354 := zQ hy354; clear hy354; have H' := zQ H; clear H
          try go_wp2
          have n0_ := zQ (Kd.R_drew HO_8.out); have n1_ := zQ (below_drew1 HB.out); clear HO_8; clear HB; have HO_8 := n0_; have HB := n1_; clear n0_ n1_; have p352 : 0 ≤ (x9_2 : Int) := zD; have q352 : x9_2 < (l0.length : Int) := zD; obtain ⟨ad352, e352, hx352_0, hx352_1⟩ := at_T47 HR0.out x9_2 p352 q352; have hw352_1 := hx352_1; have hw352_0 := hx352_0
          cases e352
          replace hx352_0 := zw HB.out hx352_0; replace hx352_1 := zw HB.out hx352_1; replace p352 := eq_true p352; replace q352 := eq_true q352; have p353 : 0 ≤ (x9_2 : Int) := zD; have q353 : x9_2 < (l0.length : Int) := zD; obtain ⟨ad353, e353, hx353_0, hx353_1⟩ := at_T47 HR0.out x9_2 p353 q353; have hw353_1 := hx353_1; have hw353_0 := hx353_0; obtain rfl : ad352 = ad353 := (by injection e353); replace hx353_0 := zw HB.out hx353_0; replace hx353_1 := zw HB.out hx353_1; replace p353 := eq_true p353; replace q353 := eq_true q353
          refine zs (fun w' => w'.cell? (ad352.add ((x9_2).toNat * 2)) = some (.int .i64 ((rd_T47 l0 x9_2).f0)) ∧ w'.cell? ⟨(ad352.add ((x9_2).toNat * 2)).block, (ad352.add ((x9_2).toNat * 2)).off + 1, none⟩ = some (.int .i64 ((rd_T47 l0 x9_2).f1)) ∧ w'.cell? (ad352.add ((x9_2).toNat * 2)) = some (.int .i64 ((rd_T47 l0 x9_2).f0)) ∧ w'.cell? ⟨(ad352.add ((x9_2).toNat * 2)).block, (ad352.add ((x9_2).toNat * 2)).off + 1, none⟩ = some (.int .i64 ((rd_T47 l0 x9_2).f1))) [] 19 ⟨((HB.out.cell (World.block_lt_of_cell? w _ hw352_0)).trans hw352_0), ((HB.out.cell (World.block_lt_of_cell? w _ hw352_1)).trans hw352_1), ((HB.out.cell (World.block_lt_of_cell? w _ hw353_0)).trans hw353_0), ((HB.out.cell (World.block_lt_of_cell? w _ hw353_1)).trans hw353_1)⟩ (fun hHeld => ?_); refine with_tabW spec_MoveSail.tab9 spec_MoveSail.bits9 (fun HT_ HW_ => ?_)
          generalize wr.drew = w17 at HO_8 HB hx352_0 hx352_1 hx353_0 hx353_1 hHeld ⊢
          refine zp 0 28 ?_
          refine zp 1 29 ?_
          refine zp 2 30 ?_
          refine zp 3 31 ?_
          refine zp 4 32 ?_
          refine zp 6 34 ?_
          refine zp 8 36 ?_
          refine zp 9 37 ?_
          refine zp 10 38 ?_
          refine zp 11 39 ?_
          refine zp 13 41 ?_
          refine zt 5 33 hHeld ?_
          refine zp 7 35 ?_
          refine zt 12 40 hHeld ?_
          refine zp 14 42 ?_
          refine zp 15 43 ?_
          refine zo 16 (some 44) (fun K hK => ?_)
          refine value_ (w1 := ?_) (v := ?_) (by rfl) rfl ?_ ?_
          rotate_left 2
          ·go_simp
           constructor
           ·rfl
           ·rfl
          refine hK.out _ _ ⟨(World.cell?_alloc_lt _ _ _ (World.block_lt_of_cell? _ _ (((HB.out.cell (World.block_lt_of_cell? w _ hw352_0)).trans hw352_0)))).trans (((HB.out.cell (World.block_lt_of_cell? w _ hw352_0)).trans hw352_0)), (World.cell?_alloc_lt _ _ _ (World.block_lt_of_cell? _ _ (((HB.out.cell (World.block_lt_of_cell? w _ hw352_1)).trans hw352_1)))).trans (((HB.out.cell (World.block_lt_of_cell? w _ hw352_1)).trans hw352_1)), (World.cell?_alloc_lt _ _ _ (World.block_lt_of_cell? _ _ (((HB.out.cell (World.block_lt_of_cell? w _ hw353_0)).trans hw353_0)))).trans (((HB.out.cell (World.block_lt_of_cell? w _ hw353_0)).trans hw353_0)), (World.cell?_alloc_lt _ _ _ (World.block_lt_of_cell? _ _ (((HB.out.cell (World.block_lt_of_cell? w _ hw353_1)).trans hw353_1)))).trans (((HB.out.cell (World.block_lt_of_cell? w _ hw353_1)).trans hw353_1))⟩ (fun hHeld => ?_)
          clear hK K
          refine zn 44 ?_
          refine zo 17 (some 45) (fun K hK => ?_)
          refine Kd.R_append_step k47 (w0 := w) w.heap.size (by rfl) (.tmp 28) (.tmp 44) 24 47 (.agg #[(.int .i64 0), (.int .i64 0)]) 16 rfl Tryz.underlying24 info47 rfl (by decide) (by omega) u8 x8_2 (⟨wrap64 (((rd_T47 l0 x9_2).f0) + a1), wrap64 (((rd_T47 l0 x9_2).f1) + a2)⟩ : S47) [.int .i64 (wrap64 (((rd_T47 l0 x9_2).f0) + a1)), .int .i64 (wrap64 (((rd_T47 l0 x9_2).f1) + a2))] (fun _ => True) (fun _ => False) rfl rfl ?aP (fun _ hk => hk.elim) ?aF ?aO ?aB ?aS ?aL ?_
          (case aP => exact k47_mkM _ _ _ (⟨wrap64 (((rd_T47 l0 x9_2).f0) + a1), wrap64 (((rd_T47 l0 x9_2).f1) + a2)⟩ : S47))
          (case aB => exact (zB HB.out))
          (case aF => exact (fun _ _ => trivial))
          (case aO => exact (zR HO_8.out))
          (case aS => exact (below_size (zB HB.out)))
          (case aL => have := LMc16.out; omega)
          intro v355 w18 ho hb hg hat
          rw [← Ny354.out] at ho; have n0_ := zQ (hb); have n1_ := zQ (ho); clear HB; clear HO_8; have HB := n0_; have HO356 := n1_; clear n0_ n1_; clear ho hb hg hat
          refine hK.out _ _ ⟨((HB.out.cell (World.block_lt_of_cell? w _ hw352_0)).trans hw352_0), ((HB.out.cell (World.block_lt_of_cell? w _ hw352_1)).trans hw352_1), ((HB.out.cell (World.block_lt_of_cell? w _ hw353_0)).trans hw353_0), ((HB.out.cell (World.block_lt_of_cell? w _ hw353_1)).trans hw353_1)⟩ (fun hHeld => ?_)
          clear hK K
          refine zn 45 ?_
          refine zp 18 8 ?_
          refine done_ (done_of HT_.out (by kernel_rfl)) ?_
          try go_wp2
          go_roundg k2
          case measure => have := HJ5.out; have := HK2.out; omega
          case rel => exact ⟨(y354), (wrap64 (x9_2 + 1)), (zF), H', ⟨by have := HJ5.out; have := HK2.out; omega⟩, ⟨zR HO356.out⟩, ⟨zB HB.out⟩⟩
         ·rw [if_neg c16] at H
          exact absurd H (by simp)
        ·rw [if_neg c15] at H
         exact absurd H (by simp)
       ·rw [if_neg c14] at H
        have c14b0 := decide_eq_false c14; clear c14; replace H := zob H; obtain ⟨t357, A19, H⟩ := H
        by_cases c20 : t357 = true
        ·subst c20
         rw [if_pos rfl] at H
         simp only [Option.some.injEq, Prod.mk.injEq] at H
         obtain ⟨rfl, rfl⟩ := H; obtain ⟨Ao21, co21, eo21⟩ := Kd.R_slice HO_8.out; subst eo21
         go_wp2_with (first | ((with_reducible refine zgc 31 ?_); refine goesL_ (some 47) rfl rfl Tryz.func31 (by kernel_rfl) rfl #[.slice Ao21 x8_2.length co21] rfl zM ?_; (with_reducible refine (spec_l13Ok.calls k2 _ _ x8_2 true _ ?side1 ((Kd.R_reads' HO_8.out).2.1) A19.out).mono ?_); (case side1 => exact zk (Kd.R_reads' HO_8.out).2.2); rintro e w22 ⟨rfl, hb⟩; refine ⟨_, rfl, ?_⟩; replace HO_8 := zRb HO_8.out hb; replace HB := zbs HB.out hb; (try clear hb)))
         go_ret2
         exact ⟨_, zE, zR HO_8.out, zB HB.out⟩
        ·replace c20 := Bool.eq_false_iff.mpr c20
         subst c20
         rw [if_neg Bool.false_ne_true] at H
         simp only [Option.some.injEq, Prod.mk.injEq] at H
         obtain ⟨rfl, rfl⟩ := H; obtain ⟨Ao23, co23, eo23⟩ := Kd.R_slice HO_8.out; subst eo23
         go_wp2_with (first | ((with_reducible refine zgc 31 ?_); refine goesL_ (some 47) rfl rfl Tryz.func31 (by kernel_rfl) rfl #[.slice Ao23 x8_2.length co23] rfl zM ?_; (with_reducible refine (spec_l13Ok.calls k2 _ _ x8_2 false _ ?side1 ((Kd.R_reads' HO_8.out).2.1) A19.out).mono ?_); (case side1 => exact zk (Kd.R_reads' HO_8.out).2.2); rintro e w24 ⟨rfl, hb⟩; refine ⟨_, rfl, ?_⟩; replace HO_8 := zRb HO_8.out hb; replace HB := zbs HB.out hb; (try clear hb)))
         go_ret2
         exact ⟨_, zE, by first | exact Kd.R_nil _ _ _ _ _ | exact Kd.N_nil _ _ _ _ _ | exact Kd.V_nil _ _ _ _ _ | exact Kd.Q_nil _ _ _ _ _ | exact Kd.S_nil _ _ _ _ _, zB HB.out⟩
 ·replace c5 := Bool.eq_false_iff.mpr c5
  subst c5
  rw [if_neg Bool.false_ne_true] at H
  simp only [Option.some.injEq, Prod.mk.injEq] at H
  obtain ⟨rfl, rfl⟩ := H
  go_enter Tryz.func7, Tryz.ntmps7
  go_wp2_with (first | ((with_reducible refine zgc 31 ?_); refine goesL_ (some 11) rfl rfl Tryz.func31 (by kernel_rfl) rfl #[.slice A0 l0.length c0] rfl zM ?_; (with_reducible refine (spec_l13Ok.calls k _ _ l0 false _ ?side1 HC0.out A4.out).mono ?_); (case side1 => repeat (first | exact HR0.out | (with_reducible refine Kd.C_alloc ?_ _) | (with_reducible refine Kd.C_drewN ?_ _) | (with_reducible refine Kd.C_drew ?_))); rintro e w25 ⟨rfl, hb⟩; refine ⟨_, rfl, ?_⟩; replace HB := zbs HB.out hb; (try clear hb)))
  go_ret2
  exact ⟨_, zE, by first | exact Kd.R_nil _ _ _ _ _ | exact Kd.N_nil _ _ _ _ _ | exact Kd.V_nil _ _ _ _ _ | exact Kd.Q_nil _ _ _ _ _ | exact Kd.S_nil _ _ _ _ _, zB HB.out⟩

def spec_TwiceSail.f (k : Nat) (l0 : List (S47)) : Option (Int × Int) := (spec_l13Ok.f k l0).bind fun t360 => (if t360 = true then ((spec_l13Twice.f k l0).bind fun t361 => (some (t361, 0))) else (some (0, 1)))
theorem spec_TwiceSail.calls (k : Nat) (A0 : Option Addr) (c0 : Nat) (l0 : List (S47)) (r1 : Int) (r2 : Int) (w : World) (hr0 : Kd.C k47 w A0 l0.length l0) (hc0 : l0.length ≤ c0) (h : spec_TwiceSail.f k l0 = some (r1, r2)) :
  Calls Tryz.prog 9 #[.slice A0 l0.length c0] w fun e w' => e = .returned (.tuple #[.int .i64 r1, .int .i64 r2]) ∧ Below w.heap.size w w' := by
 have HR0 := zQ hr0
 have HC0 := zQ hc0
 clear hr0 hc0
 have HB := zQ (Below.refl w.heap.size w)
 have H := h; unfold spec_TwiceSail.f at H
 clear h
 replace H := zob H; obtain ⟨t360, A2, H⟩ := H
 by_cases c3 : t360 = true
 ·subst c3
  rw [if_pos rfl] at H; replace H := zob H; obtain ⟨t361, A4, H⟩ := H
  simp only [Option.some.injEq, Prod.mk.injEq] at H
  obtain ⟨rfl, rfl⟩ := H
  go_enter Tryz.func9, Tryz.ntmps9
  go_wp2_with (first | ((with_reducible refine zgc 31 ?_); refine goesL_ (some 5) rfl rfl Tryz.func31 (by kernel_rfl) rfl #[.slice A0 l0.length c0] rfl zM ?_; (with_reducible refine (spec_l13Ok.calls k _ _ l0 true _ ?side1 HC0.out A2.out).mono ?_); (case side1 => repeat (first | exact HR0.out | (with_reducible refine Kd.C_alloc ?_ _) | (with_reducible refine Kd.C_drewN ?_ _) | (with_reducible refine Kd.C_drew ?_))); rintro e w5 ⟨rfl, hb⟩; refine ⟨_, rfl, ?_⟩; replace HB := zbs HB.out hb; (try clear hb)) | ((with_reducible refine zgc 34 ?_); refine goesL_ (some 8) rfl rfl Tryz.func34 (by kernel_rfl) rfl #[.slice A0 l0.length c0] rfl zM ?_; (with_reducible refine (spec_l13Twice.calls k _ _ l0 t361 _ (zC HR0.out HB.out) HC0.out A4.out).mono ?_); rintro e w6 ⟨rfl, hb⟩; refine ⟨_, rfl, ?_⟩; replace HB := zbs HB.out hb; (try clear hb)))
  go_ret2
  exact ⟨zE, zB HB.out⟩
 ·replace c3 := Bool.eq_false_iff.mpr c3
  subst c3
  rw [if_neg Bool.false_ne_true] at H
  simp only [Option.some.injEq, Prod.mk.injEq] at H
  obtain ⟨rfl, rfl⟩ := H
  go_enter Tryz.func9, Tryz.ntmps9
  go_wp2_with (first | ((with_reducible refine zgc 31 ?_); refine goesL_ (some 5) rfl rfl Tryz.func31 (by kernel_rfl) rfl #[.slice A0 l0.length c0] rfl zM ?_; (with_reducible refine (spec_l13Ok.calls k _ _ l0 false _ ?side1 HC0.out A2.out).mono ?_); (case side1 => repeat (first | exact HR0.out | (with_reducible refine Kd.C_alloc ?_ _) | (with_reducible refine Kd.C_drewN ?_ _) | (with_reducible refine Kd.C_drew ?_))); rintro e w7 ⟨rfl, hb⟩; refine ⟨_, rfl, ?_⟩; replace HB := zbs HB.out hb; (try clear hb)))
  go_ret2
  exact ⟨zE, zB HB.out⟩

def spec_IsTriangle.f (k : Nat) (l0 : List (S47)) : Option (Bool × Int) := (spec_l13Ok.f k l0).bind fun t564 => (if t564 = true then (some (((l0.length : Int) == 3), 0)) else (some (false, 1)))
theorem spec_IsTriangle.calls (k : Nat) (A0 : Option Addr) (c0 : Nat) (l0 : List (S47)) (r1 : Bool) (r2 : Int) (w : World) (hr0 : Kd.C k47 w A0 l0.length l0) (hc0 : l0.length ≤ c0) (h : spec_IsTriangle.f k l0 = some (r1, r2)) :
  Calls Tryz.prog 19 #[.slice A0 l0.length c0] w fun e w' => e = .returned (.tuple #[.bool r1, .int .i64 r2]) ∧ Below w.heap.size w w' := by
 have HR0 := zQ hr0
 have HC0 := zQ hc0
 clear hr0 hc0
 have HB := zQ (Below.refl w.heap.size w)
 have H := h; unfold spec_IsTriangle.f at H
 clear h
 replace H := zob H; obtain ⟨t564, A2, H⟩ := H
 by_cases c3 : t564 = true
 ·subst c3
  rw [if_pos rfl] at H
  simp only [Option.some.injEq, Prod.mk.injEq] at H
  obtain ⟨rfl, rfl⟩ := H
  go_enter Tryz.func19, Tryz.ntmps19
  go_wp2_with (first | ((with_reducible refine zgc 31 ?_); refine goesL_ (some 5) rfl rfl Tryz.func31 (by kernel_rfl) rfl #[.slice A0 l0.length c0] rfl zM ?_; (with_reducible refine (spec_l13Ok.calls k _ _ l0 true _ ?side1 HC0.out A2.out).mono ?_); (case side1 => repeat (first | exact HR0.out | (with_reducible refine Kd.C_alloc ?_ _) | (with_reducible refine Kd.C_drewN ?_ _) | (with_reducible refine Kd.C_drew ?_))); rintro e w4 ⟨rfl, hb⟩; refine ⟨_, rfl, ?_⟩; replace HB := zbs HB.out hb; (try clear hb)))
  go_ret2
  exact ⟨zE, zB HB.out⟩
 ·replace c3 := Bool.eq_false_iff.mpr c3
  subst c3
  rw [if_neg Bool.false_ne_true] at H
  simp only [Option.some.injEq, Prod.mk.injEq] at H
  obtain ⟨rfl, rfl⟩ := H
  go_enter Tryz.func19, Tryz.ntmps19
  go_wp2_with (first | ((with_reducible refine zgc 31 ?_); refine goesL_ (some 5) rfl rfl Tryz.func31 (by kernel_rfl) rfl #[.slice A0 l0.length c0] rfl zM ?_; (with_reducible refine (spec_l13Ok.calls k _ _ l0 false _ ?side1 HC0.out A2.out).mono ?_); (case side1 => repeat (first | exact HR0.out | (with_reducible refine Kd.C_alloc ?_ _) | (with_reducible refine Kd.C_drewN ?_ _) | (with_reducible refine Kd.C_drew ?_))); rintro e w5 ⟨rfl, hb⟩; refine ⟨_, rfl, ?_⟩; replace HB := zbs HB.out hb; (try clear hb)))
  go_ret2
  exact ⟨zE, zB HB.out⟩

def spec_SameSail.l0 : Nat → List (S47) → List (S47) → Int → Option (Bool)
 | 0, _, _, _ => none
 | k + 1, x0, x1, x5 => if x5 < (x0.length : Int) then (if 0 ≤ x5 then (if x5 < (x1.length : Int) then (if (!(((rd_T47 x0 x5).f0) == ((rd_T47 x1 x5).f0)) || (!(((rd_T47 x0 x5).f1) == ((rd_T47 x1 x5).f1)))) = true then (some false) else (spec_SameSail.l0 k x0 x1 (wrap64 (x5 + 1)))) else (none)) else (none)) else (some true)
def spec_SameSail.f (k : Nat) (l0 : List (S47)) (l1 : List (S47)) : Option (Bool) := if (l0.length : Int) = (l1.length : Int) then (spec_SameSail.l0 k l0 l1 0) else (some false)
theorem spec_SameSail.calls (k : Nat) (A0 : Option Addr) (c0 : Nat) (l0 : List (S47)) (A1 : Option Addr) (c1 : Nat) (l1 : List (S47)) (r : Bool) (w : World) (hr0 : Kd.C k47 w A0 l0.length l0) (hc0 : l0.length ≤ c0) (hr1 : Kd.C k47 w A1 l1.length l1) (hc1 : l1.length ≤ c1) (h : spec_SameSail.f k l0 l1 = some r) :
  Calls Tryz.prog 20 #[.slice A0 l0.length c0, .slice A1 l1.length c1] w fun e w' => e = .returned (.bool r) ∧ Drawn0 w w' := by
 have hu47 := Tryz.underlying47
 have HR0 := zQ hr0
 have HC0 := zQ hc0
 clear hr0 hc0
 have HR1 := zQ hr1
 have HC1 := zQ hc1
 clear hr1 hc1
 have H := h; unfold spec_SameSail.f at H
 clear h
 by_cases c3 : (l0.length : Int) = (l1.length : Int)
 ·rw [if_pos c3] at H
  have c3b0 : ((l0.length : Int) == (l1.length : Int)) = true := beq_iff_eq.mpr c3; have c3b1 : ((l0.length : Int) != (l1.length : Int)) = false := bne_eq_false_iff_eq.mpr c3
  have c3b2 : (l0.length == l1.length) = true := by first | simpa using c3 | (simp at c3 ⊢; omega)
  clear c3; have H' := zQ H; clear H
  go_enter Tryz.func20, Tryz.ntmps20
  go_wp2
  repeat (go_quiet (fail); try go_wp2)
  go_loopg [5] k (fun kq v5 w' => ∃ (x5_1 : Int), v5 = .int .i64 x5_1 ∧ Aside0 (spec_SameSail.l0 kq l0 l1 x5_1 = some r) ∧ Aside0 (kq ≤ k) ∧ Drawn0 w w')
  case atStart => exact ⟨(0), (zF), H', ⟨Nat.le_refl _⟩, by repeat (first | exact Drawn0.refl _ | apply Drawn0.step)⟩
  case round =>
   clear H'; (try clear c1); (try clear c2); (try clear p2); (try clear c3); (try clear c3b0); (try clear c3b1); (try clear c3b2); obtain ⟨x5_1, rfl, HA, HK1, ⟨m1, rfl⟩⟩ := hrel
   cases gk with
   | zero => exact absurd HA.out (by simp [spec_SameSail.l0])
   | succ k1 =>
    have H := HA.out; clear HA
    simp only [spec_SameSail.l0] at H
    by_cases c4 : x5_1 < (l0.length : Int)
    ·rw [if_pos c4] at H
     have c4b0 := decide_eq_true c4; clear c4
     by_cases c5 : 0 ≤ x5_1
     ·rw [if_pos c5] at H
      have c5b0 := decide_eq_true c5; clear c5
      by_cases c6 : x5_1 < (l1.length : Int)
      ·rw [if_pos c6] at H
       have c6b0 := decide_eq_true c6; clear c6
       by_cases c7 : (!(((rd_T47 l0 x5_1).f0) == ((rd_T47 l1 x5_1).f0)) || (!(((rd_T47 l0 x5_1).f1) == ((rd_T47 l1 x5_1).f1)))) = true
       ·rw [if_pos c7] at H
        have c7b0 : (!(((rd_T47 l0 x5_1).f0) == ((rd_T47 l1 x5_1).f0)) || (!(((rd_T47 l0 x5_1).f1) == ((rd_T47 l1 x5_1).f1)))) = true := c7; clear c7; obtain rfl := Option.some.inj H; have p565 : 0 ≤ (x5_1 : Int) := zD; have q565 : x5_1 < (l0.length : Int) := zD; obtain ⟨ad565, e565, hx565_0, hx565_1⟩ := at_T47 HR0.out x5_1 p565 q565
        cases e565
        replace p565 := eq_true p565; replace q565 := eq_true q565; have p566 : 0 ≤ (x5_1 : Int) := zD; have q566 : x5_1 < (l1.length : Int) := zD; obtain ⟨ad566, e566, hx566_0, hx566_1⟩ := at_T47 HR1.out x5_1 p566 q566
        cases e566
        replace p566 := eq_true p566; replace q566 := eq_true q566
        go_wp2
        repeat (go_quiet (fail); try go_wp2)
        go_ret
        exact ⟨zF, by repeat (first | exact Drawn0.refl _ | apply Drawn0.step)⟩
       ·rw [if_neg c7] at H
        have c7b0 : (!(((rd_T47 l0 x5_1).f0) == ((rd_T47 l1 x5_1).f0)) || (!(((rd_T47 l0 x5_1).f1) == ((rd_T47 l1 x5_1).f1)))) = false := by simpa using c7
        clear c7; have H' := zQ H; clear H; have p565 : 0 ≤ (x5_1 : Int) := zD; have q565 : x5_1 < (l0.length : Int) := zD; obtain ⟨ad565, e565, hx565_0, hx565_1⟩ := at_T47 HR0.out x5_1 p565 q565
        cases e565
        replace p565 := eq_true p565; replace q565 := eq_true q565; have p566 : 0 ≤ (x5_1 : Int) := zD; have q566 : x5_1 < (l1.length : Int) := zD; obtain ⟨ad566, e566, hx566_0, hx566_1⟩ := at_T47 HR1.out x5_1 p566 q566
        cases e566
        replace p566 := eq_true p566; replace q566 := eq_true q566
        go_wp2
        repeat (go_quiet (fail); try go_wp2)
        go_roundg k1
        case measure => have := HK1.out; omega
        case rel => exact ⟨(wrap64 (x5_1 + 1)), (zF), H', ⟨by have := HK1.out; omega⟩, by repeat (first | exact Drawn0.refl _ | apply Drawn0.step)⟩
      ·rw [if_neg c6] at H
       exact absurd H (by simp)
     ·rw [if_neg c5] at H
      exact absurd H (by simp)
    ·rw [if_neg c4] at H
     have c4b0 := decide_eq_false c4; clear c4; obtain rfl := Option.some.inj H
     go_wp2
     repeat (go_quiet (fail); try go_wp2)
     go_ret
     exact ⟨zF, by repeat (first | exact Drawn0.refl _ | apply Drawn0.step)⟩
 ·rw [if_neg c3] at H
  have c3b0 : ((l0.length : Int) == (l1.length : Int)) = false := beq_eq_false_iff_ne.mpr c3; have c3b1 : ((l0.length : Int) != (l1.length : Int)) = true := bne_iff_ne.mpr c3
  have c3b2 : (l0.length == l1.length) = false := by first | simpa using c3 | (simp at c3 ⊢; omega)
  obtain rfl := Option.some.inj H
  go_enter Tryz.func20, Tryz.ntmps20
  go_wp2
  repeat (go_quiet (fail); try go_wp2)
  go_ret
  exact ⟨zF, by repeat (first | exact Drawn0.refl _ | apply Drawn0.step)⟩

def spec_ValidSail.f (k : Nat) (l0 : List (S47)) : Option (Bool) := (spec_l13Ok.f k l0).bind fun t572 => (some t572)
theorem spec_ValidSail.calls (k : Nat) (A0 : Option Addr) (c0 : Nat) (l0 : List (S47)) (r : Bool) (w : World) (hr0 : Kd.C k47 w A0 l0.length l0) (hc0 : l0.length ≤ c0) (h : spec_ValidSail.f k l0 = some r) :
  Calls Tryz.prog 24 #[.slice A0 l0.length c0] w fun e w' => e = .returned (.bool r) ∧ Below w.heap.size w w' := by
 have HR0 := zQ hr0
 have HC0 := zQ hc0
 clear hr0 hc0
 have HB := zQ (Below.refl w.heap.size w)
 have H : ((spec_l13Ok.f k l0).bind fun t572 => (some t572)) = some r := h
 clear h
 replace H := zob H; obtain ⟨t572, A2, H⟩ := H
 obtain rfl := Option.some.inj H
 go_enter Tryz.func24, Tryz.ntmps24
 go_wp2_with (first | ((with_reducible refine zgc 31 ?_); refine goesL_ (some 4) rfl rfl Tryz.func31 (by kernel_rfl) rfl #[.slice A0 l0.length c0] rfl zM ?_; (with_reducible refine (spec_l13Ok.calls k _ _ l0 t572 _ ?side1 HC0.out A2.out).mono ?_); (case side1 => repeat (first | exact HR0.out | (with_reducible refine Kd.C_alloc ?_ _) | (with_reducible refine Kd.C_drewN ?_ _) | (with_reducible refine Kd.C_drew ?_))); rintro e w3 ⟨rfl, hb⟩; refine ⟨_, rfl, ?_⟩; replace HB := zbs HB.out hb; (try clear hb)))
 go_ret
 exact ⟨zE, zB HB.out⟩

end
end Go.Proofs.YtchngbjpjbahiaaGreatDoor.PSailz

