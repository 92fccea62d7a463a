import Derived.Test.YtchngbjpjbahiaaGreatDoorHSailz0
import Derived.Test.YtchngbjpjbahiaaGreatDoorHSailzc
import Derived.Test.YtchngbjpjbahiaaGreatDoorHSailze
namespace Go.Proofs.YtchngbjpjbahiaaGreatDoor.PSailz
noncomputable section
open Go.RowKit Go.Proofs.YtchngbjpjbahiaaGreatDoorW.PrintWords Go.Proofs.YtchngbjpjbahiaaGreatDoorW.PrintLast Go.Proofs.YtchngbjpjbahiaaGreatDoorW.PrintMore
attribute [local go_sem] max2_int min2_int max_two min_two max_three min_three max_four min_four   -- for this text's walks alone
set_option linter.unusedVariables false
set_option linter.unusedSimpArgs false
set_option maxHeartbeats 8000000
set_option maxRecDepth 100000

mutual
def impl_gcd.j0 : Nat → Int → Int → Option (Int)
 | 0, _, _ => none
 | k + 1, x0, x1 => impl_gcd.l0 k x0 x1
def impl_gcd.l0 : Nat → Int → Int → Option (Int)
 | 0, _, _ => none
 | k + 1, x0, x1 => if x1 = 0 then (some x0) else (impl_gcd.l0 k x1 (Int.tmod x0 x1))
end
def impl_gcd.f (k : Nat) (a0 : Int) (a1 : Int) : Option (Int) := if a0 < 0 then (impl_gcd.j0 k (wrap64 (-a0)) a1) else (impl_gcd.j0 k a0 a1)
theorem impl_gcd.calls (k : Nat) (a0 : Int) (a1 : Int) (r : Int) (w : World) (h : impl_gcd.f k a0 a1 = some r) :
  Calls Tryz.prog 54 #[.int .i64 a0, .int .i64 a1] w fun e w' => e = .returned (.int .i64 r) ∧ Drawn0 w w' := by
 have H := h; unfold impl_gcd.f at H
 clear h
 have HC3 := zQ H
 clear H
 go_enter Tryz.func54, Tryz.ntmps54
 go_upto_if 6 with (fail)
 repeat (go_quiet (fail); go_upto_if 6 with (fail); try go_upto_if 6 with (fail))
 go_cut [0] (fun v0 wc => ∃ (kq : Nat) (x0_2 : Int), v0 = .int .i64 x0_2 ∧ Aside0 (impl_gcd.j0 kq x0_2 a1 = some r) ∧ Aside0 (kq ≤ k) ∧ Drawn0 w wc)
 case first =>
  have H := HC3.out; clear HC3
  by_cases c4 : a0 < 0
  ·rw [if_pos c4] at H
   have c4b0 := decide_eq_true c4; clear c4
   (first | rw [c4b0] | (simp only [i64_w, i32_w]; rw [c4b0]) | skip)
   have H' := zQ H; clear H
   go_wp2
   repeat (go_quiet (fail); try go_wp2)
   go_meet
   case rel => exact ⟨_, (wrap64 (-a0)), (zF), H', ⟨by first | omega | exact Nat.le_refl _⟩, by repeat (first | exact Drawn0.refl _ | apply Drawn0.step)⟩
  ·rw [if_neg c4] at H
   have c4b0 := decide_eq_false c4; clear c4
   (first | rw [c4b0] | (simp only [i64_w, i32_w]; rw [c4b0]) | skip)
   have H' := zQ H; clear H
   go_wp2
   repeat (go_quiet (fail); try go_wp2)
   go_meet
   case rel => exact ⟨_, (a0), (zF), H', ⟨by first | omega | exact Nat.le_refl _⟩, by repeat (first | exact Drawn0.refl _ | apply Drawn0.step)⟩
 case rest =>
  clear HC3; (try clear p2); (try clear c4); (try clear c4b0); obtain ⟨kq, x0_2, rfl, HA, HJ2, ⟨mc2, rfl⟩⟩ := hcut
  cases kq with
  | zero => exact absurd HA.out (by simp [impl_gcd.j0])
  | succ kj2 =>
   have H := HA.out; clear HA
   simp only [impl_gcd.j0] at H
   have H' := zQ H; clear H
   go_wp2
   repeat (go_quiet (fail); try go_wp2)
   go_loopg [0, 1] kj2 (fun kq v0 v1 w' => ∃ (x0_2 : Int) (x1_2 : Int), v0 = .int .i64 x0_2 ∧ v1 = .int .i64 x1_2 ∧ Aside0 (impl_gcd.l0 kq x0_2 x1_2 = some r) ∧ Aside0 (kq ≤ kj2) ∧ Drawn0 w w')
   case atStart => exact ⟨(x0_2), (a1), (zF), (zF), H', ⟨Nat.le_refl _⟩, by repeat (first | exact Drawn0.refl _ | apply Drawn0.step)⟩
   case round =>
    clear H'; (try clear c2); (try clear p2); (try clear c4); (try clear c4b0); (try clear p2); obtain ⟨x0_2, x1_2, rfl, rfl, HA, HK2, ⟨m2, rfl⟩⟩ := hrel
    cases gk with
    | zero => exact absurd HA.out (by simp [impl_gcd.l0])
    | succ k2 =>
     have H := HA.out; clear HA
     simp only [impl_gcd.l0] at H
     by_cases c5 : x1_2 = 0
     ·rw [if_pos c5] at H
      have c5b0 : (x1_2 == 0) = true := beq_iff_eq.mpr c5; have c5b1 : (x1_2 != 0) = false := bne_eq_false_iff_eq.mpr c5; clear c5; obtain rfl := Option.some.inj H
      go_wp2
      repeat (go_quiet (fail); try go_wp2)
      go_ret
      exact ⟨zF, by repeat (first | exact Drawn0.refl _ | apply Drawn0.step)⟩
     ·rw [if_neg c5] at H
      have c5b0 : (x1_2 == 0) = false := beq_eq_false_iff_ne.mpr c5; have c5b1 : (x1_2 != 0) = true := bne_iff_ne.mpr c5; have H' := zQ H; clear H
      go_wp2
      repeat (go_quiet (fail); try go_wp2)
      go_roundg k2
      case measure => have := HJ2.out; have := HK2.out; omega
      case rel => exact ⟨(x1_2), (Int.tmod x0_2 x1_2), (zF), (zF), H', ⟨by have := HJ2.out; have := HK2.out; omega⟩, by repeat (first | exact Drawn0.refl _ | apply Drawn0.step)⟩

def impl_fraction.f (k : Nat) (a0 : Int) (a1 : Int) : Option (Int × Int) := if a1 < 0 then ((impl_gcd.f k (wrap64 (-a0)) (wrap64 (-a1))).bind fun t363 => (if t363 = 0 then (none) else (some (wrap64 (Int.tdiv (wrap64 (-a0)) t363), wrap64 (Int.tdiv (wrap64 (-a1)) t363))))) else ((impl_gcd.f k a0 a1).bind fun t364 => (if t364 = 0 then (none) else (some (wrap64 (Int.tdiv a0 t364), wrap64 (Int.tdiv a1 t364)))))
def impl_fraction.T4 : Bool × List (List Nat × List Nat) := (true, [([], []), ([], []), ([0, 1], [0, 1]), ([], []), ([], []), ([3, 4], [3, 4]), ([2, 5], [2, 5]), ([6, 0, 1, 2, 3, 4, 5, 6], [6])])
def impl_fraction.B4 : List Nat := [0, 0, 3, 0, 0, 24, 63, 127]
theorem impl_fraction.tab4 : rtab .any (opsOf Tryz.f35 4) = impl_fraction.T4 := by kernel_rfl
theorem impl_fraction.bits4 : waitsOk impl_fraction.T4.2 impl_fraction.B4 = true := by kernel_rfl
theorem impl_fraction.calls (k : Nat) (a0 : Int) (a1 : Int) (r1 : Int) (r2 : Int) (w : World) (h : impl_fraction.f k a0 a1 = some (r1, r2)) :
  Calls Tryz.prog 35 #[.int .i64 a0, .int .i64 a1] w fun e w' => e = .returned (.agg #[.int .i64 r1, .int .i64 r2]) ∧ Below w.heap.size w w' := by
 have hu32 := Tryz.underlying32
 have HB := zQ (Below.refl w.heap.size w)
 have H := h; unfold impl_fraction.f at H
 clear h
 by_cases c3 : a1 < 0
 ·rw [if_pos c3] at H
  have c3b0 := decide_eq_true c3; clear c3; replace H := zob H; obtain ⟨t363, A4, H⟩ := H
  by_cases c5 : t363 = 0
  ·rw [if_pos c5] at H
   exact absurd H (by simp)
  ·rw [if_neg c5] at H
   have c5b0 : (t363 == 0) = false := beq_eq_false_iff_ne.mpr c5; have c5b1 : (t363 != 0) = true := bne_iff_ne.mpr c5
   simp only [Option.some.injEq, Prod.mk.injEq] at H
   obtain ⟨rfl, rfl⟩ := H
   go_enter Tryz.func35, Tryz.ntmps35
   try go_wp2_with (first | ((with_reducible refine zd 4 ?_); refine zbx (N := 4) (cs := #[.int .i64 0, .int .i64 0]) (t := 32) ?_; intro gb362 hg w6 hbox hb; have BK362 := zQ (hbox); have GW362 := zgz hg HB.out; have GE362 := GW362; replace HB := zbs HB.out hb; clear hb hbox hg) | ((with_reducible refine zgc 54 ?_); refine goesL_ (some 14) rfl rfl Tryz.func54 (by kernel_rfl) rfl #[.int .i64 (wrap64 (-a0)), .int .i64 (wrap64 (-a1))] rfl zM ?_; (with_reducible refine (impl_gcd.calls k (wrap64 (-a0)) (wrap64 (-a1)) t363 _ A4.out).mono ?_); rintro e w' ⟨rfl, ⟨nd, rfl⟩⟩; refine ⟨_, rfl, ?_⟩; (try (rw [drewN_self w6]; generalize hq_ : World.drewN w6 _ = w6; have n0_ : Aside0 (w6.heap[gb362]? = some (.cells #[.int .i64 0, .int .i64 0] 32 (0, 0))) := ⟨by rw [← hq_]; exact (zb BK362.out)⟩; have n1_ : Aside0 (Below w.heap.size w w6) := ⟨by rw [← hq_]; exact (zB2 HB.out GE362.out)⟩; clear BK362 HB hq_; have BK362 := n0_; have HB := n1_; clear n0_ n1_)); (try (have hczrw6_gb362_0 := zc0 BK362.out)); (try (have hfzrw6_gb362_0 := zfz BK362.out 0)); (try (have hczrw6_gb362_1 := zc1 BK362.out)); (try (have hfzrw6_gb362_1 := zfz BK362.out 1))))
   have n0_ := zQ (blk_drew BK362.out); have n1_ := zQ (below_drew1 HB.out); clear BK362; clear HB; have BK362 := n0_; have HB := n1_; clear n0_ n1_
   refine zs (fun w' => True) [] 8 trivial (fun hHeld => ?_); refine with_tabW impl_fraction.tab4 impl_fraction.bits4 (fun HT_ HW_ => ?_)
   generalize w6.drew = w7 at BK362 HB hHeld ⊢
   refine zp 0 15 ?_
   refine zp 1 16 ?_
   refine zp 2 17 ?_
   refine zp 3 18 ?_
   refine zp 4 19 ?_
   refine zp 5 20 ?_
   refine zp 6 21 ?_
   refine zo 7 none (fun K hK => ?_)
   have hs8 : w7.cell? ⟨gb362, 0, none⟩ = some (.int .i64 0) := (blk_cell BK362.out 0).trans rfl; have hfs8 := zfz BK362.out 0; have hs9 : w7.cell? ⟨gb362, 1, none⟩ = some (.int .i64 0) := (blk_cell BK362.out 1).trans rfl; have hfs9 := zfz BK362.out 1
   refine skip_ (w1 := ?_) (by rfl) rfl ?_ ?_
   rotate_left
   ·go_simp
    rfl
   refine hK.out _ _ trivial (fun hHeld => ?_)
   clear hK K
   refine done_ (done_of HT_.out (by kernel_rfl)) ?_
   try go_wp2
   refine bodyPost_ret (results_cell_row rfl _ _ gb362 32 #[.int .i64 (wrap64 (Int.tdiv (wrap64 (-a0)) t363)), .int .i64 (wrap64 (Int.tdiv (wrap64 (-a1)) t363))] (0, 0) _ rfl (by refine zb ?_; refine blk_put (cs := #[.int .i64 (wrap64 (Int.tdiv (wrap64 (-a0)) t363)), .int .i64 0]) ?_ 1 _ rfl; refine zb ?_; refine blk_put (cs := #[.int .i64 0, .int .i64 0]) ?_ 0 _ rfl; refine zb ?_; exact BK362.out) Tryz.underlying32 rfl (by kernel_rfl)) rfl ?_
   exact ⟨zE, zB2 HB.out GE362.out⟩
 ·rw [if_neg c3] at H
  have c3b0 := decide_eq_false c3; clear c3; replace H := zob H; obtain ⟨t364, A10, H⟩ := H
  by_cases c11 : t364 = 0
  ·rw [if_pos c11] at H
   exact absurd H (by simp)
  ·rw [if_neg c11] at H
   have c11b0 : (t364 == 0) = false := beq_eq_false_iff_ne.mpr c11; have c11b1 : (t364 != 0) = true := bne_iff_ne.mpr c11
   simp only [Option.some.injEq, Prod.mk.injEq] at H
   obtain ⟨rfl, rfl⟩ := H
   go_enter Tryz.func35, Tryz.ntmps35
   try go_wp2_with (first | ((with_reducible refine zd 4 ?_); refine zbx (N := 4) (cs := #[.int .i64 0, .int .i64 0]) (t := 32) ?_; intro gb362 hg w12 hbox hb; have BK362 := zQ (hbox); have GW362 := zgz hg HB.out; have GE362 := GW362; replace HB := zbs HB.out hb; clear hb hbox hg) | ((with_reducible refine zgc 54 ?_); refine goesL_ (some 14) rfl rfl Tryz.func54 (by kernel_rfl) rfl #[.int .i64 a0, .int .i64 a1] rfl zM ?_; (with_reducible refine (impl_gcd.calls k a0 a1 t364 _ A10.out).mono ?_); rintro e w' ⟨rfl, ⟨nd, rfl⟩⟩; refine ⟨_, rfl, ?_⟩; (try (rw [drewN_self w12]; generalize hq_ : World.drewN w12 _ = w12; have n0_ : Aside0 (w12.heap[gb362]? = some (.cells #[.int .i64 0, .int .i64 0] 32 (0, 0))) := ⟨by rw [← hq_]; exact (zb BK362.out)⟩; have n1_ : Aside0 (Below w.heap.size w w12) := ⟨by rw [← hq_]; exact (zB2 HB.out GE362.out)⟩; clear BK362 HB hq_; have BK362 := n0_; have HB := n1_; clear n0_ n1_)); (try (have hczrw12_gb362_0 := zc0 BK362.out)); (try (have hfzrw12_gb362_0 := zfz BK362.out 0)); (try (have hczrw12_gb362_1 := zc1 BK362.out)); (try (have hfzrw12_gb362_1 := zfz BK362.out 1))))
   have n0_ := zQ (blk_drew BK362.out); have n1_ := zQ (below_drew1 HB.out); clear BK362; clear HB; have BK362 := n0_; have HB := n1_; clear n0_ n1_
   refine zs (fun w' => True) [] 8 trivial (fun hHeld => ?_); refine with_tabW impl_fraction.tab4 impl_fraction.bits4 (fun HT_ HW_ => ?_)
   generalize w12.drew = w13 at BK362 HB hHeld ⊢
   refine zp 0 15 ?_
   refine zp 1 16 ?_
   refine zp 2 17 ?_
   refine zp 3 18 ?_
   refine zp 4 19 ?_
   refine zp 5 20 ?_
   refine zp 6 21 ?_
   refine zo 7 none (fun K hK => ?_)
   have hs14 : w13.cell? ⟨gb362, 0, none⟩ = some (.int .i64 0) := (blk_cell BK362.out 0).trans rfl; have hfs14 := zfz BK362.out 0; have hs15 : w13.cell? ⟨gb362, 1, none⟩ = some (.int .i64 0) := (blk_cell BK362.out 1).trans rfl; have hfs15 := zfz BK362.out 1
   refine skip_ (w1 := ?_) (by rfl) rfl ?_ ?_
   rotate_left
   ·go_simp
    rfl
   refine hK.out _ _ trivial (fun hHeld => ?_)
   clear hK K
   refine done_ (done_of HT_.out (by kernel_rfl)) ?_
   try go_wp2
   refine bodyPost_ret (results_cell_row rfl _ _ gb362 32 #[.int .i64 (wrap64 (Int.tdiv a0 t364)), .int .i64 (wrap64 (Int.tdiv a1 t364))] (0, 0) _ rfl (by refine zb ?_; refine blk_put (cs := #[.int .i64 (wrap64 (Int.tdiv a0 t364)), .int .i64 0]) ?_ 1 _ rfl; refine zb ?_; refine blk_put (cs := #[.int .i64 0, .int .i64 0]) ?_ 0 _ rfl; refine zb ?_; exact BK362.out) Tryz.underlying32 rfl (by kernel_rfl)) rfl ?_
   exact ⟨zE, zB2 HB.out GE362.out⟩

def impl_CentreOf.l0 : Nat → List (S47) → Int → Int → List (S47) → Int → Int → Option (Int × Int × Int × Int × Int)
 | 0, _, _, _, _, _, _ => none
 | k + 1, x0, x5, x6, x17, x18, x19 => if x19 < x18 then (if 0 ≤ x19 then (if x19 < (x17.length : Int) then (if (x0.length : Int) = 0 then (none) else (if 0 ≤ (Int.tmod (wrap64 (x19 + 1)) (x0.length : Int)) then (if (Int.tmod (wrap64 (x19 + 1)) (x0.length : Int)) < (x0.length : Int) then (impl_CentreOf.l0 k x0 (wrap64 (x5 + (wrap64 ((wrap64 (((rd_T47 x17 x19).f0) + ((rd_T47 x0 (Int.tmod (wrap64 (x19 + 1)) (x0.length : Int))).f0))) * (wrap64 ((wrap64 (((rd_T47 x17 x19).f0) * ((rd_T47 x0 (Int.tmod (wrap64 (x19 + 1)) (x0.length : Int))).f1))) - (wrap64 (((rd_T47 x0 (Int.tmod (wrap64 (x19 + 1)) (x0.length : Int))).f0) * ((rd_T47 x17 x19).f1))))))))) (wrap64 (x6 + (wrap64 ((wrap64 (((rd_T47 x17 x19).f1) + ((rd_T47 x0 (Int.tmod (wrap64 (x19 + 1)) (x0.length : Int))).f1))) * (wrap64 ((wrap64 (((rd_T47 x17 x19).f0) * ((rd_T47 x0 (Int.tmod (wrap64 (x19 + 1)) (x0.length : Int))).f1))) - (wrap64 (((rd_T47 x0 (Int.tmod (wrap64 (x19 + 1)) (x0.length : Int))).f0) * ((rd_T47 x17 x19).f1))))))))) x17 x18 (wrap64 (x19 + 1))) else (none)) else (none))) else (none)) else (none)) else ((impl_twiceSail.f k x0).bind fun t372 => ((impl_fraction.f k x5 (wrap64 (3 * t372))).bind fun bt373 => ((impl_fraction.f k x6 (wrap64 (3 * t372))).bind fun bt375 => (some (bt373.1, bt373.2, bt375.1, bt375.2, 0)))))
def impl_CentreOf.f (k : Nat) (l0 : List (S47)) : Option (Int × Int × Int × Int × Int) := (impl_ValidSail.f k l0).bind fun t367 => (if t367 = true then (impl_CentreOf.l0 k l0 0 0 l0 (l0.length : Int) 0) else (some (0, 0, 0, 0, 1)))
theorem impl_CentreOf.calls (k : Nat) (A0 : Option Addr) (c0 : Nat) (l0 : List (S47)) (r1 : Int) (r2 : Int) (r3 : Int) (r4 : Int) (r5 : Int) (w : World) (hr0 : Kd.C k47 w A0 l0.length l0) (hc0 : l0.length ≤ c0) (h : impl_CentreOf.f k l0 = some (r1, r2, r3, r4, r5)) :
  Calls Tryz.prog 10 #[.slice A0 l0.length c0] w fun e w' => e = .returned (.tuple #[.agg #[.int .i64 r1, .int .i64 r2], .agg #[.int .i64 r3, .int .i64 r4], .int .i64 r5]) ∧ Below w.heap.size w w' := by
 have hu32 := Tryz.underlying32
 have hu47 := Tryz.underlying47
 have HR0 := zQ hr0
 have HC0 := zQ hc0
 clear hr0 hc0
 have HB := zQ (Below.refl w.heap.size w)
 have H := h; unfold impl_CentreOf.f at H
 clear h
 replace H := zob H; obtain ⟨t367, A2, H⟩ := H
 by_cases c3 : t367 = true
 ·subst c3
  rw [if_pos rfl] at H; have H' := zQ H; clear H
  go_enter Tryz.func10, Tryz.ntmps10
  go_wp2_with (first | ((with_reducible refine zd 2 ?_); refine zbx (N := 2) (cs := #[.int .i64 0, .int .i64 0]) (t := 32) ?_; intro gb365 hg w4 hbox hb; have BK365 := zQ (hbox); have GW365 := zgz hg HB.out; have GE365 := GW365; replace HB := zbs HB.out hb; clear hb hbox hg) | ((with_reducible refine zd 3 ?_); refine zbx (N := 3) (cs := #[.int .i64 0, .int .i64 0]) (t := 32) ?_; intro gb366 hg w5 hbox hb; have BK366 := zQ (hbox); have GW366 := zgz2 hg HB.out GE365.out; have GE366 := GW366; have NB365_366 := zn1 hg BK365.out; have NB366_365 := zn2 hg BK365.out; replace BK365 := zbl BK365.out hb; replace HB := zbs2 HB.out GE365.out hb; clear hb hbox hg) | ((with_reducible refine zgc 23 ?_); refine goesL_ (some 13) rfl rfl Tryz.func23 (by kernel_rfl) rfl #[.slice A0 l0.length c0] rfl zM ?_; (with_reducible refine (impl_ValidSail.calls k _ _ l0 true _ (zC HR0.out HB.out) HC0.out A2.out).mono ?_); rintro e w6 ⟨rfl, hb⟩; refine ⟨_, rfl, ?_⟩; replace BK365 := zbl BK365.out hb; replace BK366 := zbl BK366.out hb; replace HB := zQ (below_step (zB3 HB.out GE365.out GE366.out) hb); (try clear hb)))
  go_loopg [5, 6, 19] k (fun kq v5 v6 v19 w' => ∃ (x5_1 : Int) (x6_1 : Int) (x19_1 : Int), v5 = .int .i64 x5_1 ∧ v6 = .int .i64 x6_1 ∧ v19 = .int .i64 x19_1 ∧ Aside0 (impl_CentreOf.l0 kq l0 x5_1 x6_1 l0 (l0.length : Int) x19_1 = some (r1, r2, r3, r4, r5)) ∧ Aside0 (kq ≤ k) ∧ Aside0 (w'.heap[gb365]? = some (.cells #[.int .i64 0, .int .i64 0] 32 (0, 0))) ∧ Aside0 (w'.heap[gb366]? = some (.cells #[.int .i64 0, .int .i64 0] 32 (0, 0))) ∧ Aside0 (Below w.heap.size w w'))
  case atStart => exact ⟨(0), (0), (0), (zF), (zF), (zF), H', ⟨Nat.le_refl _⟩, ⟨zb BK365.out⟩, ⟨zb BK366.out⟩, ⟨zB3 HB.out GE365.out GE366.out⟩⟩
  case round =>
   clear H'; (try clear c1); (try clear c2); (try clear p2); (try clear c3); obtain ⟨x5_1, x6_1, x19_1, rfl, rfl, rfl, HA, HK1, BK365, BK366, HB⟩ := hrel
   cases gk with
   | zero => exact absurd HA.out (by simp [impl_CentreOf.l0])
   | succ k1 =>
    have H := HA.out; clear HA
    simp only [impl_CentreOf.l0] at H
    by_cases c7 : x19_1 < (l0.length : Int)
    ·rw [if_pos c7] at H
     have c7b0 := decide_eq_true c7; clear c7
     by_cases c8 : 0 ≤ x19_1
     ·rw [if_pos c8] at H
      have c8b0 := decide_eq_true c8; clear c8
      by_cases c9 : x19_1 < (l0.length : Int)
      ·rw [if_pos c9] at H
       have c9b0 := decide_eq_true c9; clear c9
       by_cases c10 : (l0.length : Int) = 0
       ·rw [if_pos c10] at H
        exact absurd H (by simp)
       ·rw [if_neg c10] at H
        have c10b0 : ((l0.length : Int) == 0) = false := beq_eq_false_iff_ne.mpr c10; have c10b1 : ((l0.length : Int) != 0) = true := bne_iff_ne.mpr c10
        have c10b2 : ¬ (l0 = []) := fun h_ => c10 (by rw [h_]; rfl)
        obtain ⟨ji11, hji11⟩ : ∃ j_ : Int, (Int.tmod (wrap64 (x19_1 + 1)) (l0.length : Int)) = j_ := ⟨_, rfl⟩
        replace H : (if 0 ≤ (ji11) then (if (ji11) < (l0.length : Int) then (impl_CentreOf.l0 k1 l0 (wrap64 (x5_1 + (wrap64 ((wrap64 (((rd_T47 l0 x19_1).f0) + ((rd_T47 l0 (ji11)).f0))) * (wrap64 ((wrap64 (((rd_T47 l0 x19_1).f0) * ((rd_T47 l0 (ji11)).f1))) - (wrap64 (((rd_T47 l0 (ji11)).f0) * ((rd_T47 l0 x19_1).f1))))))))) (wrap64 (x6_1 + (wrap64 ((wrap64 (((rd_T47 l0 x19_1).f1) + ((rd_T47 l0 (ji11)).f1))) * (wrap64 ((wrap64 (((rd_T47 l0 x19_1).f0) * ((rd_T47 l0 (ji11)).f1))) - (wrap64 (((rd_T47 l0 (ji11)).f0) * ((rd_T47 l0 x19_1).f1))))))))) l0 (l0.length : Int) (wrap64 (x19_1 + 1))) else (none)) else (none)) = some (r1, r2, r3, r4, r5) := by first | (rw [hji11] at H; exact H) | (simp only [hji11] at H ⊢; exact H)
        by_cases c12 : 0 ≤ (ji11)
        ·rw [if_pos c12] at H
         have c12b0 := decide_eq_true c12; clear c12
         by_cases c13 : (ji11) < (l0.length : Int)
         ·rw [if_pos c13] at H
          have c13b0 := decide_eq_true c13; clear c13; have H' := zQ H; clear H; have p368 : 0 ≤ (x19_1 : Int) := zD; have q368 : x19_1 < (l0.length : Int) := zD; obtain ⟨ad368, e368, hx368_0, hx368_1⟩ := at_T47 HR0.out x19_1 p368 q368
          cases e368
          replace hx368_0 := zw HB.out hx368_0; replace hx368_1 := zw HB.out hx368_1; replace p368 := eq_true p368; replace q368 := eq_true q368
          go_wp2_with (first | ((with_reducible refine zd 8 ?_); refine zbx (N := 8) (cs := #[.int .i64 0, .int .i64 0]) (t := 47) ?_; intro gb369 hg w14 hbox hb; have BK369 := zQ (hbox); have GW369 := zQ ((by rw [hg]; exact (below_size (zB3 HB.out GE365.out GE366.out)) : w.heap.size ≤ gb369)); have GE369 := zQ ((by rw [hg]; exact (below_size (zB3 HB.out GE365.out GE366.out)) : w.heap.size ≤ gb369)); have NB365_369 := zn1 hg BK365.out; have NB369_365 := zn2 hg BK365.out; have NB366_369 := zn1 hg BK366.out; have NB369_366 := zn2 hg BK366.out; replace BK365 := zbl BK365.out hb; replace BK366 := zbl BK366.out hb; replace HB := zQ (below_step (zB3 HB.out GE365.out GE366.out) hb); clear hb hbox hg; have hnb15 := NB369_365.out; have hnc15 := NB365_369.out; have hnb16 := NB369_366.out; have hnc16 := NB366_369.out; obtain ⟨hcz17_0, hcz17_1, hfz17_0, hfz17_1⟩ := zy2 BK369.out; have p370 : 0 ≤ ((ji11) : Int) := zD; have q370 : (ji11) < (l0.length : Int) := zD; obtain ⟨ad370, e370, hx370_0, hx370_1⟩ := at_T47 HR0.out (ji11) p370 q370; obtain rfl : ad368 = ad370 := (by injection e370); have hn370_0 : ad368.block ≠ gb369 := Nat.ne_of_lt (Nat.lt_of_lt_of_le (by have := World.block_lt_of_cell? _ _ hx370_0; first | rwa [add_block] at this | exact this) GW369.out); have hn370_1 : ad368.block ≠ gb369 := Nat.ne_of_lt (Nat.lt_of_lt_of_le (by have := World.block_lt_of_cell? _ _ hx370_0; first | rwa [add_block] at this | exact this) GW369.out); replace hx370_0 := zw HB.out hx370_0; replace hx370_1 := zw HB.out hx370_1; replace hx370_0 := (cell_far (p := ⟨gb369, 0, none⟩) (by first | (rw [add_block]; exact hn370_0) | (show (Addr.add _ _).block ≠ _; rw [add_block]; exact hn370_0) | exact hn370_0) (.int .i64 ((rd_T47 l0 x19_1).f0))).trans hx370_0; replace hx370_1 := (cell_far (p := ⟨gb369, 0, none⟩) (by first | (rw [add_block]; exact hn370_0) | (show (Addr.add _ _).block ≠ _; rw [add_block]; exact hn370_0) | exact hn370_0) (.int .i64 ((rd_T47 l0 x19_1).f0))).trans hx370_1; replace hx370_0 := (cell_far (p := ⟨gb369, 1, none⟩) (by first | (rw [add_block]; exact hn370_1) | (show (Addr.add _ _).block ≠ _; rw [add_block]; exact hn370_1) | exact hn370_1) (.int .i64 ((rd_T47 l0 x19_1).f1))).trans hx370_0; replace hx370_1 := (cell_far (p := ⟨gb369, 1, none⟩) (by first | (rw [add_block]; exact hn370_1) | (show (Addr.add _ _).block ≠ _; rw [add_block]; exact hn370_1) | exact hn370_1) (.int .i64 ((rd_T47 l0 x19_1).f1))).trans hx370_1; clear hn370_0; clear hn370_1; replace p370 := eq_true p370; replace q370 := eq_true q370) | ((with_reducible refine zd 9 ?_); refine zbx (N := 9) (cs := #[.int .i64 0, .int .i64 0]) (t := 47) ?_; intro gb371 hg w18 hbox hb; have BK371 := zQ (hbox); have GW371 := zQ ((by rw [hg]; exact (below_size (by repeat (first | (with_reducible first | exact HB.out | apply below_alloc | apply pw_below_drewN | apply below_drew1 | refine below_set ?_ GE365.out | refine below_set ?_ GE366.out | refine below_set ?_ GE369.out) | exact HB.out))) : w.heap.size ≤ gb371)); have GE371 := zQ ((by rw [hg]; exact (below_size (by repeat (first | (with_reducible first | exact HB.out | apply below_alloc | apply pw_below_drewN | apply below_drew1 | refine below_set ?_ GE365.out | refine below_set ?_ GE366.out | refine below_set ?_ GE369.out) | exact HB.out))) : w.heap.size ≤ gb371)); have NB365_371 := zQ ((by rw [hg]; exact Nat.ne_of_lt (blk_lt (g := gb365) (o := .cells #[.int .i64 0, .int .i64 0] 32 (0, 0)) (by refine zb ?_; refine blk_far ?_ NB365_369.out _; refine zb ?_; refine blk_far ?_ NB365_369.out _; refine zb ?_; exact BK365.out)) : gb365 ≠ gb371)); have NB371_365 := zQ ((by rw [hg]; exact Nat.ne_of_gt (blk_lt (g := gb365) (o := .cells #[.int .i64 0, .int .i64 0] 32 (0, 0)) (by refine zb ?_; refine blk_far ?_ NB365_369.out _; refine zb ?_; refine blk_far ?_ NB365_369.out _; refine zb ?_; exact BK365.out)) : gb371 ≠ gb365)); have NB366_371 := zQ ((by rw [hg]; exact Nat.ne_of_lt (blk_lt (g := gb366) (o := .cells #[.int .i64 0, .int .i64 0] 32 (0, 0)) (by refine zb ?_; refine blk_far ?_ NB366_369.out _; refine zb ?_; refine blk_far ?_ NB366_369.out _; refine zb ?_; exact BK366.out)) : gb366 ≠ gb371)); have NB371_366 := zQ ((by rw [hg]; exact Nat.ne_of_gt (blk_lt (g := gb366) (o := .cells #[.int .i64 0, .int .i64 0] 32 (0, 0)) (by refine zb ?_; refine blk_far ?_ NB366_369.out _; refine zb ?_; refine blk_far ?_ NB366_369.out _; refine zb ?_; exact BK366.out)) : gb371 ≠ gb366)); have NB369_371 := zQ ((by rw [hg]; exact Nat.ne_of_lt (blk_lt (g := gb369) (o := .cells #[.int .i64 ((rd_T47 l0 x19_1).f0), .int .i64 ((rd_T47 l0 x19_1).f1)] 47 (0, 0)) (by refine zb ?_; refine blk_put (cs := #[.int .i64 ((rd_T47 l0 x19_1).f0), .int .i64 0]) ?_ 1 _ rfl; refine zb ?_; refine blk_put (cs := #[.int .i64 0, .int .i64 0]) ?_ 0 _ rfl; refine zb ?_; exact BK369.out)) : gb369 ≠ gb371)); have NB371_369 := zQ ((by rw [hg]; exact Nat.ne_of_gt (blk_lt (g := gb369) (o := .cells #[.int .i64 ((rd_T47 l0 x19_1).f0), .int .i64 ((rd_T47 l0 x19_1).f1)] 47 (0, 0)) (by refine zb ?_; refine blk_put (cs := #[.int .i64 ((rd_T47 l0 x19_1).f0), .int .i64 0]) ?_ 1 _ rfl; refine zb ?_; refine blk_put (cs := #[.int .i64 0, .int .i64 0]) ?_ 0 _ rfl; refine zb ?_; exact BK369.out)) : gb371 ≠ gb369)); replace BK365 := zQ (blk_below (g := gb365) (o := .cells #[.int .i64 0, .int .i64 0] 32 (0, 0)) (by refine zb ?_; refine blk_far ?_ NB365_369.out _; refine zb ?_; refine blk_far ?_ NB365_369.out _; refine zb ?_; exact BK365.out) hb); replace BK366 := zQ (blk_below (g := gb366) (o := .cells #[.int .i64 0, .int .i64 0] 32 (0, 0)) (by refine zb ?_; refine blk_far ?_ NB366_369.out _; refine zb ?_; refine blk_far ?_ NB366_369.out _; refine zb ?_; exact BK366.out) hb); replace BK369 := zQ (blk_below (g := gb369) (o := .cells #[.int .i64 ((rd_T47 l0 x19_1).f0), .int .i64 ((rd_T47 l0 x19_1).f1)] 47 (0, 0)) (by refine zb ?_; refine blk_put (cs := #[.int .i64 ((rd_T47 l0 x19_1).f0), .int .i64 0]) ?_ 1 _ rfl; refine zb ?_; refine blk_put (cs := #[.int .i64 0, .int .i64 0]) ?_ 0 _ rfl; refine zb ?_; exact BK369.out) hb); replace HB := zQ (below_step (by repeat (first | (with_reducible first | exact HB.out | apply below_alloc | apply pw_below_drewN | apply below_drew1 | refine below_set ?_ GE365.out | refine below_set ?_ GE366.out | refine below_set ?_ GE369.out) | exact HB.out)) hb); clear hb hbox hg; have hnb19 := NB371_365.out; have hnc19 := NB365_371.out; have hnb20 := NB371_366.out; have hnc20 := NB366_371.out; have hnb21 := NB371_369.out; have hnc21 := NB369_371.out; obtain ⟨hcz22_0, hcz22_1, hfz22_0, hfz22_1⟩ := zy2 BK371.out; obtain ⟨hcz23_0, hcz23_1, hfz23_0, hfz23_1⟩ := zy2 BK369.out))
          go_roundg k1
          case measure => have := HK1.out; omega
          case rel => exact ⟨(wrap64 (x5_1 + (wrap64 ((wrap64 (((rd_T47 l0 x19_1).f0) + ((rd_T47 l0 (ji11)).f0))) * (wrap64 ((wrap64 (((rd_T47 l0 x19_1).f0) * ((rd_T47 l0 (ji11)).f1))) - (wrap64 (((rd_T47 l0 (ji11)).f0) * ((rd_T47 l0 x19_1).f1))))))))), (wrap64 (x6_1 + (wrap64 ((wrap64 (((rd_T47 l0 x19_1).f1) + ((rd_T47 l0 (ji11)).f1))) * (wrap64 ((wrap64 (((rd_T47 l0 x19_1).f0) * ((rd_T47 l0 (ji11)).f1))) - (wrap64 (((rd_T47 l0 (ji11)).f0) * ((rd_T47 l0 x19_1).f1))))))))), (wrap64 (x19_1 + 1)), (by first | rfl | (simp; done) | (simp only [← hji11] <;> (first | rfl | simp)) | (simp [*]; done)), (by first | rfl | (simp; done) | (simp only [← hji11] <;> (first | rfl | simp)) | (simp [*]; done)), (zF), H', ⟨by have := HK1.out; omega⟩, ⟨by refine zb ?_; refine blk_far ?_ NB365_371.out _; refine zb ?_; refine blk_far ?_ NB365_371.out _; refine zb ?_; exact BK365.out⟩, ⟨by refine zb ?_; refine blk_far ?_ NB366_371.out _; refine zb ?_; refine blk_far ?_ NB366_371.out _; refine zb ?_; exact BK366.out⟩, ⟨by repeat (first | (with_reducible first | exact HB.out | apply below_alloc | apply pw_below_drewN | apply below_drew1 | refine below_set ?_ GE365.out | refine below_set ?_ GE366.out | refine below_set ?_ GE369.out | refine below_set ?_ GE371.out) | exact HB.out)⟩⟩
         ·rw [if_neg c13] at H
          exact absurd H (by simp)
        ·rw [if_neg c12] at H
         exact absurd H (by simp)
      ·rw [if_neg c9] at H
       exact absurd H (by simp)
     ·rw [if_neg c8] at H
      exact absurd H (by simp)
    ·rw [if_neg c7] at H
     have c7b0 := decide_eq_false c7; clear c7; replace H := zob H; obtain ⟨t372, A24, H⟩ := H; replace H := zob H; obtain ⟨⟨t373, t374⟩, A25, H⟩ := H; replace H := zob H; obtain ⟨⟨t375, t376⟩, A26, H⟩ := H
     simp only [Option.some.injEq, Prod.mk.injEq] at H
     obtain ⟨rfl, rfl, rfl, rfl, rfl⟩ := H
     go_wp2_with (first | ((with_reducible refine zgc 33 ?_); refine goesL_ (some 63) rfl rfl Tryz.func33 (by kernel_rfl) rfl #[.slice A0 l0.length c0] rfl zM ?_; (with_reducible refine (impl_twiceSail.calls k1 _ _ l0 t372 _ (zC HR0.out HB.out) HC0.out A24.out).mono ?_); rintro e w27 ⟨rfl, hb⟩; refine ⟨_, rfl, ?_⟩; replace BK365 := zbl BK365.out hb; replace BK366 := zbl BK366.out hb; replace HB := zQ (below_step (zB3 HB.out GE365.out GE366.out) hb); (try clear hb)) | ((with_reducible refine zgc 35 ?_); refine goesL_ (some 67) rfl rfl Tryz.func35 (by kernel_rfl) rfl #[.int .i64 x5_1, .int .i64 (wrap64 (3 * t372))] rfl zM ?_; (with_reducible refine (impl_fraction.calls k1 x5_1 (wrap64 (3 * t372)) t373 t374 _ A25.out).mono ?_); rintro e w28 ⟨rfl, hb⟩; refine ⟨_, rfl, ?_⟩; replace BK365 := zbl BK365.out hb; replace BK366 := zbl BK366.out hb; replace HB := zQ (below_step (zB3 HB.out GE365.out GE366.out) hb); (try clear hb)) | ((with_reducible refine zgc 35 ?_); refine goesL_ (some 70) rfl rfl Tryz.func35 (by kernel_rfl) rfl #[.int .i64 x6_1, .int .i64 (wrap64 (3 * t372))] rfl zM ?_; (with_reducible refine (impl_fraction.calls k1 x6_1 (wrap64 (3 * t372)) t375 t376 _ A26.out).mono ?_); rintro e w29 ⟨rfl, hb⟩; refine ⟨_, rfl, ?_⟩; replace BK365 := zbl BK365.out hb; replace BK366 := zbl BK366.out hb; replace HB := zQ (below_step (zB3 HB.out GE365.out GE366.out) hb); (try clear hb); have hnb30 := NB365_366.out; have hnc30 := NB366_365.out; obtain ⟨hcz31_0, hcz31_1, hfz31_0, hfz31_1⟩ := zy2 BK365.out; obtain ⟨hcz32_0, hcz32_1, hfz32_0, hfz32_1⟩ := zy2 BK366.out))
     refine bodyPost_ret (results_list (rs := [.cell 2 32, .cell 3 32, .tmp 4]) rfl (by simp) (.cell gb365 32 #[.int .i64 t373, .int .i64 t374] (0, 0) _ rfl (by refine zb ?_; refine blk_far ?_ NB365_366.out _; refine zb ?_; refine blk_far ?_ NB365_366.out _; refine zb ?_; refine blk_put (cs := #[.int .i64 t373, .int .i64 0]) ?_ 1 _ rfl; refine zb ?_; refine blk_put (cs := #[.int .i64 0, .int .i64 0]) ?_ 0 _ rfl; refine zb ?_; exact BK365.out) Tryz.underlying32 rfl (by kernel_rfl) (.cell gb366 32 #[.int .i64 t375, .int .i64 t376] (0, 0) _ rfl (by refine zb ?_; refine blk_put (cs := #[.int .i64 t375, .int .i64 0]) ?_ 1 _ rfl; refine zb ?_; refine blk_put (cs := #[.int .i64 0, .int .i64 0]) ?_ 0 _ rfl; refine zb ?_; refine blk_far ?_ NB366_365.out _; refine zb ?_; refine blk_far ?_ NB366_365.out _; refine zb ?_; exact BK366.out) Tryz.underlying32 rfl (by kernel_rfl) (.tmp .nil)))) rfl ?_
     exact ⟨zE, zB3 HB.out GE365.out GE366.out⟩
 ·replace c3 := Bool.eq_false_iff.mpr c3
  subst c3
  rw [if_neg Bool.false_ne_true] at H
  simp only [Option.some.injEq, Prod.mk.injEq] at H
  obtain ⟨rfl, rfl, rfl, rfl, rfl⟩ := H
  go_enter Tryz.func10, Tryz.ntmps10
  go_wp2_with (first | ((with_reducible refine zd 2 ?_); refine zbx (N := 2) (cs := #[.int .i64 0, .int .i64 0]) (t := 32) ?_; intro gb365 hg w33 hbox hb; have BK365 := zQ (hbox); have GW365 := zgz hg HB.out; have GE365 := GW365; replace HB := zbs HB.out hb; clear hb hbox hg) | ((with_reducible refine zd 3 ?_); refine zbx (N := 3) (cs := #[.int .i64 0, .int .i64 0]) (t := 32) ?_; intro gb366 hg w34 hbox hb; have BK366 := zQ (hbox); have GW366 := zgz2 hg HB.out GE365.out; have GE366 := GW366; have NB365_366 := zn1 hg BK365.out; have NB366_365 := zn2 hg BK365.out; replace BK365 := zbl BK365.out hb; replace HB := zbs2 HB.out GE365.out hb; clear hb hbox hg) | ((with_reducible refine zgc 23 ?_); refine goesL_ (some 13) rfl rfl Tryz.func23 (by kernel_rfl) rfl #[.slice A0 l0.length c0] rfl zM ?_; (with_reducible refine (impl_ValidSail.calls k _ _ l0 false _ (zC HR0.out HB.out) HC0.out A2.out).mono ?_); rintro e w35 ⟨rfl, hb⟩; refine ⟨_, rfl, ?_⟩; replace BK365 := zbl BK365.out hb; replace BK366 := zbl BK366.out hb; replace HB := zQ (below_step (zB3 HB.out GE365.out GE366.out) hb); (try clear hb); have hnb36 := NB365_366.out; have hnc36 := NB366_365.out; obtain ⟨hcz37_0, hcz37_1, hfz37_0, hfz37_1⟩ := zy2 BK365.out; obtain ⟨hcz38_0, hcz38_1, hfz38_0, hfz38_1⟩ := zy2 BK366.out))
  refine bodyPost_ret (results_list (rs := [.cell 2 32, .cell 3 32, .tmp 4]) rfl (by simp) (.cell gb365 32 #[.int .i64 0, .int .i64 0] (0, 0) _ rfl (by refine zb ?_; refine blk_far ?_ NB365_366.out _; refine zb ?_; refine blk_far ?_ NB365_366.out _; refine zb ?_; refine blk_put (cs := #[.int .i64 0, .int .i64 0]) ?_ 1 _ rfl; refine zb ?_; refine blk_put (cs := #[.int .i64 0, .int .i64 0]) ?_ 0 _ rfl; refine zb ?_; exact BK365.out) Tryz.underlying32 rfl (by kernel_rfl) (.cell gb366 32 #[.int .i64 0, .int .i64 0] (0, 0) _ rfl (by refine zb ?_; refine blk_put (cs := #[.int .i64 0, .int .i64 0]) ?_ 1 _ rfl; refine zb ?_; refine blk_put (cs := #[.int .i64 0, .int .i64 0]) ?_ 0 _ rfl; refine zb ?_; refine blk_far ?_ NB366_365.out _; refine zb ?_; refine blk_far ?_ NB366_365.out _; refine zb ?_; exact BK366.out) Tryz.underlying32 rfl (by kernel_rfl) (.tmp .nil)))) rfl ?_
  exact ⟨zE, zB3 HB.out GE365.out GE366.out⟩

end
end Go.Proofs.YtchngbjpjbahiaaGreatDoor.PSailz

