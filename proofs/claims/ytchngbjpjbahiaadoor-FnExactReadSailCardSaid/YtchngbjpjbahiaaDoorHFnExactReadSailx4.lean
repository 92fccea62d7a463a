/- The walks of the functions that the law reaches: each computes what its Lean function says. No condition beyond each contract's own. -/
import Derived.Test.YtchngbjpjbahiaaDoorHFnExactReadSailx0
import Derived.Test.YtchngbjpjbahiaaDoorHFnExactReadSailx1
import Derived.Test.YtchngbjpjbahiaaDoorHFnExactReadSailx3
namespace Go.Proofs.YtchngbjpjbahiaaDoor.PFnExactReadSail
open Go.RowKit Go.Proofs.YtchngbjpjbahiaaDoorW.PrintWords Go.Proofs.YtchngbjpjbahiaaDoorW.PrintLast Go.Proofs.YtchngbjpjbahiaaDoorW.PrintMore
attribute [local go_sem] max2_int min2_int max_two min_two max_three min_three max_four min_four   -- for this text's walks alone
set_option linter.unusedVariables false
set_option linter.unusedSimpArgs false

/-! ### spec_l13Ok: function 14 -/
mutual
def spec_l13Ok.l0 : Nat → List (S35) → Int → Int → Option (Bool)
 | 0, _, _, _ => none
 | k + 1, x0, x3, x4 => if x4 < x3 then (if 0 ≤ x4 then (if x4 < (x0.length : Int) then ((spec_l00In.f ((rd_T35 x0 x4).f0) 0 2000).bind fun t141 => (if t141 = true then ((spec_l00In.f ((rd_T35 x0 x4).f1) 0 2000).bind fun t143 => (if t143 = true then (spec_l13Ok.l0 k x0 x3 (wrap64 (x4 + 1))) else (some false))) else (some false))) else (none)) else (none)) else (spec_l13Ok.l1 k x0 x3 0)
def spec_l13Ok.l1 : Nat → List (S35) → Int → Int → Option (Bool)
 | 0, _, _, _ => none
 | k + 1, x0, x3, x5 => if x5 < x3 then (if 0 ≤ x5 then (if x5 < (x0.length : Int) then (if x3 = 0 then (none) else (if 0 ≤ (Int.tmod (wrap64 (x5 + 1)) x3) then (if (Int.tmod (wrap64 (x5 + 1)) x3) < (x0.length : Int) then (if 0 ≤ (Int.tmod (wrap64 (x5 + 2)) x3) then (if (Int.tmod (wrap64 (x5 + 2)) x3) < (x0.length : Int) then ((spec_l13Cross.f ((rd_T35 x0 x5).f0) ((rd_T35 x0 x5).f1) ((rd_T35 x0 (Int.tmod (wrap64 (x5 + 1)) x3)).f0) ((rd_T35 x0 (Int.tmod (wrap64 (x5 + 1)) x3)).f1) ((rd_T35 x0 (Int.tmod (wrap64 (x5 + 2)) x3)).f0) ((rd_T35 x0 (Int.tmod (wrap64 (x5 + 2)) x3)).f1)).bind fun t150 => (if t150 = 0 then (some false) else (spec_l13Ok.l2 k x0 x3 x5 (wrap64 (x5 + 2)) ((rd_T35 x0 x5).f0) ((rd_T35 x0 x5).f1) ((rd_T35 x0 (Int.tmod (wrap64 (x5 + 1)) x3)).f0) ((rd_T35 x0 (Int.tmod (wrap64 (x5 + 1)) x3)).f1)))) else (none)) else (none)) else (none)) else (none))) else (none)) else (none)) else ((spec_l13Twice.f k x0).bind fun t144 => (some (decide (t144 > 0))))
def spec_l13Ok.l2 : Nat → List (S35) → Int → Int → Int → Int → Int → Int → Int → Option (Bool)
 | 0, _, _, _, _, _, _, _, _ => none
 | k + 1, x0, x3, x5, x8, x147000, x147001, x149000, x149001 => if x8 < x3 then (if x5 > 0 then (if 0 ≤ x8 then (if x8 < (x0.length : Int) then (if x3 = 0 then (none) else (if 0 ≤ (Int.tmod (wrap64 (x8 + 1)) x3) then (if (Int.tmod (wrap64 (x8 + 1)) x3) < (x0.length : Int) then ((spec_l13Meet.f k x147000 x147001 x149000 x149001 ((rd_T35 x0 x8).f0) ((rd_T35 x0 x8).f1) ((rd_T35 x0 (Int.tmod (wrap64 (x8 + 1)) x3)).f0) ((rd_T35 x0 (Int.tmod (wrap64 (x8 + 1)) x3)).f1)).bind fun t153 => (if t153 = true then (some false) else (spec_l13Ok.l2 k x0 x3 x5 (wrap64 (x8 + 1)) x147000 x147001 x149000 x149001))) else (none)) else (none))) else (none)) else (none)) else (if x8 < (wrap64 (x3 - 1)) then (if 0 ≤ x8 then (if x8 < (x0.length : Int) then (if x3 = 0 then (none) else (if 0 ≤ (Int.tmod (wrap64 (x8 + 1)) x3) then (if (Int.tmod (wrap64 (x8 + 1)) x3) < (x0.length : Int) then ((spec_l13Meet.f k x147000 x147001 x149000 x149001 ((rd_T35 x0 x8).f0) ((rd_T35 x0 x8).f1) ((rd_T35 x0 (Int.tmod (wrap64 (x8 + 1)) x3)).f0) ((rd_T35 x0 (Int.tmod (wrap64 (x8 + 1)) x3)).f1)).bind fun t156 => (if t156 = true then (some false) else (spec_l13Ok.l2 k x0 x3 x5 (wrap64 (x8 + 1)) x147000 x147001 x149000 x149001))) else (none)) else (none))) else (none)) else (none)) else (spec_l13Ok.l2 k x0 x3 x5 (wrap64 (x8 + 1)) x147000 x147001 x149000 x149001))) else (spec_l13Ok.l1 k x0 x3 (wrap64 (x5 + 1)))
end
def spec_l13Ok.f (k : Nat) (l0 : List (S35)) : Option (Bool) := (spec_l00In.f (l0.length : Int) 3 8).bind fun t139 => (if t139 = true then (spec_l13Ok.l0 k l0 (l0.length : Int) 0) else (some false))
theorem spec_l13Ok.mono_l : ∀ k, (∀ y0 y1 y2, LeO (spec_l13Ok.l0 k y0 y1 y2) (spec_l13Ok.l0 (k + 1) y0 y1 y2)) ∧ (∀ y0 y1 y2, LeO (spec_l13Ok.l1 k y0 y1 y2) (spec_l13Ok.l1 (k + 1) y0 y1 y2)) ∧ (∀ y0 y1 y2 y3 y4 y5 y6 y7, LeO (spec_l13Ok.l2 k y0 y1 y2 y3 y4 y5 y6 y7) (spec_l13Ok.l2 (k + 1) y0 y1 y2 y3 y4 y5 y6 y7))
 | 0 => ⟨fun _ _ _ r h => by simp [spec_l13Ok.l0] at h, fun _ _ _ r h => by simp [spec_l13Ok.l1] at h, fun _ _ _ _ _ _ _ _ r h => by simp [spec_l13Ok.l2] at h⟩
 | k + 1 => by
  obtain ⟨ih0, ih1, ih2⟩ := spec_l13Ok.mono_l k
  refine ⟨?_, ?_, ?_⟩
  ·intro y0 y1 y2
   unfold spec_l13Ok.l0
   (with_reducible repeat' first | apply ih0 | apply ih1 | apply ih2 | apply spec_l13Meet.mono | apply spec_l13Twice.mono | apply LeO.refl | apply LeO.none | refine LeO.ite ?_ ?_ | refine LeO.bind ?_ (fun _ => ?_))
   repeat' first | apply ih0 | apply ih1 | apply ih2 | apply spec_l13Meet.mono | apply spec_l13Twice.mono | apply LeO.none | refine LeO.ite ?_ ?_ | refine LeO.bind ?_ (fun _ => ?_)
  ·intro y0 y1 y2
   unfold spec_l13Ok.l1
   (with_reducible repeat' first | apply ih0 | apply ih1 | apply ih2 | apply spec_l13Meet.mono | apply spec_l13Twice.mono | apply LeO.refl | apply LeO.none | refine LeO.ite ?_ ?_ | refine LeO.bind ?_ (fun _ => ?_))
   repeat' first | apply ih0 | apply ih1 | apply ih2 | apply spec_l13Meet.mono | apply spec_l13Twice.mono | apply LeO.none | refine LeO.ite ?_ ?_ | refine LeO.bind ?_ (fun _ => ?_)
  ·intro y0 y1 y2 y3 y4 y5 y6 y7
   unfold spec_l13Ok.l2
   (with_reducible repeat' first | apply ih0 | apply ih1 | apply ih2 | apply spec_l13Meet.mono | apply spec_l13Twice.mono | apply LeO.refl | apply LeO.none | refine LeO.ite ?_ ?_ | refine LeO.bind ?_ (fun _ => ?_))
   repeat' first | apply ih0 | apply ih1 | apply ih2 | apply spec_l13Meet.mono | apply spec_l13Twice.mono | apply LeO.none | refine LeO.ite ?_ ?_ | refine LeO.bind ?_ (fun _ => ?_)
theorem spec_l13Ok.mono : ∀ a0 k, LeO (spec_l13Ok.f k a0) (spec_l13Ok.f (k + 1) a0) := by
 intro a0 k
 obtain ⟨ih0, ih1, ih2⟩ := spec_l13Ok.mono_l k
 unfold spec_l13Ok.f
 (with_reducible repeat' first | apply ih0 | apply ih1 | apply ih2 | apply spec_l13Meet.mono | apply spec_l13Twice.mono | apply LeO.refl | apply LeO.none | refine LeO.ite ?_ ?_ | refine LeO.bind ?_ (fun _ => ?_))
 repeat' first | apply ih0 | apply ih1 | apply ih2 | apply spec_l13Meet.mono | apply spec_l13Twice.mono | apply LeO.none | refine LeO.ite ?_ ?_ | refine LeO.bind ?_ (fun _ => ?_)
def spec_l13Ok.T14 : Bool × List (List Nat × List Nat) := (true, [([], []), ([], []), ([], []), ([], []), ([3], [3]), ([], []), ([4, 5], [4, 5]), ([2, 6], [2, 6]), ([7], [7]), ([0, 1, 8], [0, 1, 8]), ([9], [9])])
def spec_l13Ok.B14 : List Nat := [0, 0, 0, 0, 8, 0, 56, 124, 252, 511, 1023]
theorem spec_l13Ok.tab14 : rtab .any (opsOf Tryd.f14 14) = spec_l13Ok.T14 := by kernel_rfl
theorem spec_l13Ok.bits14 : waitsOk spec_l13Ok.T14.2 spec_l13Ok.B14 = true := by kernel_rfl
def spec_l13Ok.T19 : Bool × List (List Nat × List Nat) := (true, [([], []), ([0], [0]), ([1], [1]), ([2], [2]), ([2], [2]), ([4, 2], [2, 4]), ([3, 5, 2], [2, 3, 5]), ([2, 6], [2, 6]), ([7, 2], [7]), ([8], [8]), ([8], [8]), ([8], [8]), ([8], [8]), ([11, 12, 8], [8, 11, 12]), ([13, 8], [8, 13]), ([8], [8]), ([8], [8]), ([16, 8], [8, 16]), ([8], [8]), ([17, 18, 8], [8, 17, 18]), ([15, 19, 8], [8, 15, 19]), ([20, 8], [8, 20]), ([9, 10, 14, 21, 8, 8], [8, 9, 10, 14, 21]), ([8, 22], [8, 22])])
def spec_l13Ok.B19 : List Nat := [0, 1, 3, 7, 7, 23, 63, 127, 255, 511, 511, 511, 511, 6655, 14847, 511, 511, 66047, 511, 459263, 1016319, 2064895, 4194303, 8388607]
theorem spec_l13Ok.tab19 : rtab .any (opsOf Tryd.f14 19) = spec_l13Ok.T19 := by kernel_rfl
theorem spec_l13Ok.bits19 : waitsOk spec_l13Ok.T19.2 spec_l13Ok.B19 = true := by kernel_rfl
set_option maxHeartbeats 8000000 in
set_option maxRecDepth 100000 in
theorem spec_l13Ok.calls (k : Nat) (A0 : Option Addr) (c0 : Nat) (l0 : List (S35)) (r : Bool) (w : World) (hr0 : Kd.C k35 w A0 l0.length l0) (hc0 : l0.length ≤ c0) (h : spec_l13Ok.f k l0 = some r) :
  Calls Tryd.prog 14 #[.slice A0 l0.length c0] w fun e w' => e = .returned (.bool r) ∧ Below w.heap.size w w' := by
 have hu35 := Tryd.underlying35
 have HR0 := zQ hr0
 have HC0 := zQ hc0
 clear hr0 hc0
 have HB := zQ (Below.refl w.heap.size w)
 have H : ((spec_l00In.f (l0.length : Int) 3 8).bind fun t139 => (if t139 = true then (spec_l13Ok.l0 k l0 (l0.length : Int) 0) else (some false))) = some r := h
 clear h
 replace H := Option.bind_eq_some_iff.mp H
 obtain ⟨t139, A20, H⟩ := H
 replace H : (if t139 = true then (spec_l13Ok.l0 k l0 (l0.length : Int) 0) else (some false)) = some r := H
 have A2 := zQ A20
 clear A20
 by_cases c3 : t139 = true
 ·subst c3
  have H1 : (spec_l13Ok.l0 k l0 (l0.length : Int) 0) = some r := by rw [if_pos rfl] at H; exact H
  clear H; have H := H1; clear H1; have H' := zQ H; clear H
  go_enter Tryd.func14, Tryd.ntmps14
  go_wp2_with (first | ((with_reducible refine zgc 26 ?_); refine goesL_ (some 12) rfl rfl Tryd.func26 (by kernel_rfl) rfl #[.int .i64 (l0.length : Int), .int .i64 3, .int .i64 8] rfl zM ?_; (with_reducible refine (spec_l00In.calls (l0.length : Int) 3 8 true _ A2.out).mono ?_); rintro e w' ⟨rfl, ⟨nd, rfl⟩⟩; refine ⟨_, rfl, ?_⟩))
  go_loopg [4] k (fun kq v4 w' => ∃ (x4_1 : Int), v4 = .int .i64 x4_1 ∧ Aside0 (spec_l13Ok.l0 kq l0 (l0.length : Int) x4_1 = some r) ∧ Aside0 (kq ≤ k) ∧ Aside0 (Below w.heap.size w w'))
  case atStart => exact ⟨(0), (zF), H', ⟨Nat.le_refl _⟩, ⟨zB HB.out⟩⟩
  case round =>
   clear H'; (try clear c1); (try clear c2); (try clear p2); (try clear c3); obtain ⟨x4_1, rfl, HA, HK1, HB⟩ := hrel
   cases gk with
   | zero => exact absurd HA.out (by simp [spec_l13Ok.l0])
   | succ k1 =>
    have H := HA.out; clear HA
    simp only [spec_l13Ok.l0] at H
    by_cases c4 : x4_1 < (l0.length : Int)
    ·rw [if_pos c4] at H
     have c4b0 : decide (x4_1 < (l0.length : Int)) = true := decide_eq_true c4; clear c4
     by_cases c5 : 0 ≤ x4_1
     ·rw [if_pos c5] at H
      have c5b0 : decide (0 ≤ x4_1) = true := decide_eq_true c5; clear c5
      by_cases c6 : x4_1 < (l0.length : Int)
      ·rw [if_pos c6] at H
       have c6b0 : decide (x4_1 < (l0.length : Int)) = true := decide_eq_true c6; clear c6; replace H := Option.bind_eq_some_iff.mp H; obtain ⟨t141, A70, H⟩ := H; replace H : (if t141 = true then ((spec_l00In.f ((rd_T35 l0 x4_1).f1) 0 2000).bind fun t143 => (if t143 = true then (spec_l13Ok.l0 k1 l0 (l0.length : Int) (wrap64 (x4_1 + 1))) else (some false))) else (some false)) = some r := H; have A7 := zQ A70; clear A70
       by_cases c8 : t141 = true
       ·subst c8
        have H1 : ((spec_l00In.f ((rd_T35 l0 x4_1).f1) 0 2000).bind fun t143 => (if t143 = true then (spec_l13Ok.l0 k1 l0 (l0.length : Int) (wrap64 (x4_1 + 1))) else (some false))) = some r := by rw [if_pos rfl] at H; exact H
        clear H; have H := H1; clear H1; replace H := Option.bind_eq_some_iff.mp H; obtain ⟨t143, A90, H⟩ := H; replace H : (if t143 = true then (spec_l13Ok.l0 k1 l0 (l0.length : Int) (wrap64 (x4_1 + 1))) else (some false)) = some r := H; have A9 := zQ A90; clear A90
        by_cases c10 : t143 = true
        ·subst c10
         have H1 : (spec_l13Ok.l0 k1 l0 (l0.length : Int) (wrap64 (x4_1 + 1))) = some r := by rw [if_pos rfl] at H; exact H
         clear H; have H := H1; clear H1; have H' := zQ H; clear H; have p140 : 0 ≤ (x4_1 : Int) := of_decide_eq_true zA; have q140 : x4_1 < (l0.length : Int) := of_decide_eq_true zA; obtain ⟨ad140, e140, hx140_0, hx140_1⟩ := at_T35 HR0.out x4_1 p140 q140
         cases e140
         replace hx140_0 := zw HB.out hx140_0; replace hx140_1 := zw HB.out hx140_1; replace p140 := eq_true p140; replace q140 := eq_true q140
         go_wp2_with (first | ((with_reducible refine zgc 26 ?_); refine goesL_ (some 24) rfl rfl Tryd.func26 (by kernel_rfl) rfl #[.int .i64 ((rd_T35 l0 x4_1).f0), .int .i64 0, .int .i64 2000] rfl zM ?_; (with_reducible refine (spec_l00In.calls ((rd_T35 l0 x4_1).f0) 0 2000 true _ A7.out).mono ?_); rintro e w' ⟨rfl, ⟨nd, rfl⟩⟩; refine ⟨_, rfl, ?_⟩; have p142 : 0 ≤ (x4_1 : Int) := of_decide_eq_true zA; have q142 : x4_1 < (l0.length : Int) := of_decide_eq_true zA; obtain ⟨ad142, e142, hx142_0, hx142_1⟩ := at_T35 HR0.out x4_1 p142 q142; obtain rfl : ad140 = ad142 := (by injection e142); replace hx142_0 := zw HB.out hx142_0; replace hx142_1 := zw HB.out hx142_1; replace p142 := eq_true p142; replace q142 := eq_true q142) | (go_at_call 26; (with_reducible refine (spec_l00In.calls ((rd_T35 l0 x4_1).f1) 0 2000 true _ A9.out).mono ?_); rintro e w' ⟨rfl, ⟨nd, rfl⟩⟩))
         go_roundg k1
         case measure => have := HK1.out; omega
         case rel => exact ⟨(wrap64 (x4_1 + 1)), (zF), H', ⟨by have := HK1.out; omega⟩, ⟨zB HB.out⟩⟩
        ·replace c10 := Bool.eq_false_iff.mpr c10
         subst c10
         have H1 : (some false) = some r := by rw [if_neg (show ¬ (false = true) by decide)] at H; exact H
         clear H; have H := H1; clear H1; obtain rfl := Option.some.inj H; have p140 : 0 ≤ (x4_1 : Int) := of_decide_eq_true zA; have q140 : x4_1 < (l0.length : Int) := of_decide_eq_true zA; obtain ⟨ad140, e140, hx140_0, hx140_1⟩ := at_T35 HR0.out x4_1 p140 q140
         cases e140
         replace hx140_0 := zw HB.out hx140_0; replace hx140_1 := zw HB.out hx140_1; replace p140 := eq_true p140; replace q140 := eq_true q140
         go_wp2_with (first | ((with_reducible refine zgc 26 ?_); refine goesL_ (some 24) rfl rfl Tryd.func26 (by kernel_rfl) rfl #[.int .i64 ((rd_T35 l0 x4_1).f0), .int .i64 0, .int .i64 2000] rfl zM ?_; (with_reducible refine (spec_l00In.calls ((rd_T35 l0 x4_1).f0) 0 2000 true _ A7.out).mono ?_); rintro e w' ⟨rfl, ⟨nd, rfl⟩⟩; refine ⟨_, rfl, ?_⟩; have p142 : 0 ≤ (x4_1 : Int) := of_decide_eq_true zA; have q142 : x4_1 < (l0.length : Int) := of_decide_eq_true zA; obtain ⟨ad142, e142, hx142_0, hx142_1⟩ := at_T35 HR0.out x4_1 p142 q142; obtain rfl : ad140 = ad142 := (by injection e142); replace hx142_0 := zw HB.out hx142_0; replace hx142_1 := zw HB.out hx142_1; replace p142 := eq_true p142; replace q142 := eq_true q142) | (go_at_call 26; (with_reducible refine (spec_l00In.calls ((rd_T35 l0 x4_1).f1) 0 2000 false _ A9.out).mono ?_); rintro e w' ⟨rfl, ⟨nd, rfl⟩⟩))
         go_ret
         exact ⟨zE, zB HB.out⟩
       ·replace c8 := Bool.eq_false_iff.mpr c8
        subst c8
        have H1 : (some false) = some r := by rw [if_neg (show ¬ (false = true) by decide)] at H; exact H
        clear H; have H := H1; clear H1; obtain rfl := Option.some.inj H; have p140 : 0 ≤ (x4_1 : Int) := of_decide_eq_true zA; have q140 : x4_1 < (l0.length : Int) := of_decide_eq_true zA; obtain ⟨ad140, e140, hx140_0, hx140_1⟩ := at_T35 HR0.out x4_1 p140 q140
        cases e140
        replace hx140_0 := zw HB.out hx140_0; replace hx140_1 := zw HB.out hx140_1; replace p140 := eq_true p140; replace q140 := eq_true q140
        go_wp2_with (first | ((with_reducible refine zgc 26 ?_); refine goesL_ (some 24) rfl rfl Tryd.func26 (by kernel_rfl) rfl #[.int .i64 ((rd_T35 l0 x4_1).f0), .int .i64 0, .int .i64 2000] rfl zM ?_; (with_reducible refine (spec_l00In.calls ((rd_T35 l0 x4_1).f0) 0 2000 false _ A7.out).mono ?_); rintro e w' ⟨rfl, ⟨nd, rfl⟩⟩; refine ⟨_, rfl, ?_⟩))
        go_ret
        exact ⟨zE, zB HB.out⟩
      ·rw [if_neg c6] at H
       exact absurd H (by simp)
     ·rw [if_neg c5] at H
      exact absurd H (by simp)
    ·rw [if_neg c4] at H
     have c4b0 : decide (x4_1 < (l0.length : Int)) = false := decide_eq_false c4; clear c4; have H' := zQ H; clear H
     go_wp2
     go_loopg [5] k1 (fun kq v5 w' => ∃ (x5_2 : Int), v5 = .int .i64 x5_2 ∧ Aside0 (spec_l13Ok.l1 kq l0 (l0.length : Int) x5_2 = some r) ∧ Aside0 (kq ≤ k1) ∧ Aside0 (Below w.heap.size w w'))
     case atStart => exact ⟨(0), (zF), H', ⟨Nat.le_refl _⟩, ⟨zB HB.out⟩⟩
     case round =>
      clear H'; (try clear c1); (try clear p1); (try clear q1); (try clear hx1); (try clear c2); (try clear p2); (try clear c3); (try clear c4); (try clear c4b0); (try clear c5); (try clear c5b0); (try clear c6); (try clear c6b0); (try clear p6); (try clear c8); (try clear c10); (try clear hx140_0); (try clear hx140_1); (try clear hx142_0); (try clear hx142_1); (try clear p140); (try clear p142); (try clear p2); (try clear q140); (try clear q142); obtain ⟨x5_2, rfl, HA, HK2, HB⟩ := hrel
      cases gk with
      | zero => exact absurd HA.out (by simp [spec_l13Ok.l1])
      | succ k2 =>
       have H := HA.out; clear HA
       simp only [spec_l13Ok.l1] at H
       by_cases c11 : x5_2 < (l0.length : Int)
       ·rw [if_pos c11] at H
        have c11b0 : decide (x5_2 < (l0.length : Int)) = true := decide_eq_true c11; clear c11
        by_cases c12 : 0 ≤ x5_2
        ·rw [if_pos c12] at H
         have c12b0 : decide (0 ≤ x5_2) = true := decide_eq_true c12; clear c12
         by_cases c13 : x5_2 < (l0.length : Int)
         ·rw [if_pos c13] at H
          have c13b0 : decide (x5_2 < (l0.length : Int)) = true := decide_eq_true c13; clear c13
          by_cases c14 : (l0.length : Int) = 0
          ·rw [if_pos c14] at H
           exact absurd H (by simp)
          ·rw [if_neg c14] at H
           have c14b0 : ((l0.length : Int) == 0) = false := beq_eq_false_iff_ne.mpr c14; have c14b1 : ((l0.length : Int) != 0) = true := bne_iff_ne.mpr c14
           have c14b2 : ¬ (l0 = []) := fun h_ => c14 (by rw [h_]; rfl)
           obtain ⟨ji15, hji15⟩ : ∃ j_ : Int, (Int.tmod (wrap64 (x5_2 + 1)) (l0.length : Int)) = j_ := ⟨_, rfl⟩
           replace H : (if 0 ≤ (ji15) then (if (ji15) < (l0.length : Int) then (if 0 ≤ (Int.tmod (wrap64 (x5_2 + 2)) (l0.length : Int)) then (if (Int.tmod (wrap64 (x5_2 + 2)) (l0.length : Int)) < (l0.length : Int) then ((spec_l13Cross.f ((rd_T35 l0 x5_2).f0) ((rd_T35 l0 x5_2).f1) ((rd_T35 l0 (ji15)).f0) ((rd_T35 l0 (ji15)).f1) ((rd_T35 l0 (Int.tmod (wrap64 (x5_2 + 2)) (l0.length : Int))).f0) ((rd_T35 l0 (Int.tmod (wrap64 (x5_2 + 2)) (l0.length : Int))).f1)).bind fun t150 => (if t150 = 0 then (some false) else (spec_l13Ok.l2 k2 l0 (l0.length : Int) x5_2 (wrap64 (x5_2 + 2)) ((rd_T35 l0 x5_2).f0) ((rd_T35 l0 x5_2).f1) ((rd_T35 l0 (ji15)).f0) ((rd_T35 l0 (ji15)).f1)))) else (none)) else (none)) else (none)) else (none)) = some r := by first | (rw [hji15] at H; exact H) | (simp only [hji15] at H ⊢; exact H)
           by_cases c16 : 0 ≤ (ji15)
           ·rw [if_pos c16] at H
            have c16b0 : decide (0 ≤ (ji15)) = true := decide_eq_true c16; clear c16
            by_cases c17 : (ji15) < (l0.length : Int)
            ·rw [if_pos c17] at H
             have c17b0 : decide ((ji15) < (l0.length : Int)) = true := decide_eq_true c17; clear c17; obtain ⟨ji18, hji18⟩ : ∃ j_ : Int, (Int.tmod (wrap64 (x5_2 + 2)) (l0.length : Int)) = j_ := ⟨_, rfl⟩
             replace H : (if 0 ≤ (ji18) then (if (ji18) < (l0.length : Int) then ((spec_l13Cross.f ((rd_T35 l0 x5_2).f0) ((rd_T35 l0 x5_2).f1) ((rd_T35 l0 (ji15)).f0) ((rd_T35 l0 (ji15)).f1) ((rd_T35 l0 (ji18)).f0) ((rd_T35 l0 (ji18)).f1)).bind fun t150 => (if t150 = 0 then (some false) else (spec_l13Ok.l2 k2 l0 (l0.length : Int) x5_2 (wrap64 (x5_2 + 2)) ((rd_T35 l0 x5_2).f0) ((rd_T35 l0 x5_2).f1) ((rd_T35 l0 (ji15)).f0) ((rd_T35 l0 (ji15)).f1)))) else (none)) else (none)) = some r := by first | (rw [hji18] at H; exact H) | (simp only [hji18] at H ⊢; exact H)
             by_cases c19 : 0 ≤ (ji18)
             ·rw [if_pos c19] at H
              have c19b0 : decide (0 ≤ (ji18)) = true := decide_eq_true c19; clear c19
              by_cases c20 : (ji18) < (l0.length : Int)
              ·rw [if_pos c20] at H
               have c20b0 : decide ((ji18) < (l0.length : Int)) = true := decide_eq_true c20; clear c20; replace H := Option.bind_eq_some_iff.mp H; obtain ⟨t150, A210, H⟩ := H; replace H : (if t150 = 0 then (some false) else (spec_l13Ok.l2 k2 l0 (l0.length : Int) x5_2 (wrap64 (x5_2 + 2)) ((rd_T35 l0 x5_2).f0) ((rd_T35 l0 x5_2).f1) ((rd_T35 l0 (ji15)).f0) ((rd_T35 l0 (ji15)).f1))) = some r := H; have A21 := zQ A210; clear A210
               by_cases c22 : t150 = 0
               ·rw [if_pos c22] at H
                have c22b0 : (t150 == 0) = true := beq_iff_eq.mpr c22; have c22b1 : (t150 != 0) = false := bne_eq_false_iff_eq.mpr c22; clear c22; obtain rfl := Option.some.inj H; have p145 : 0 ≤ (x5_2 : Int) := of_decide_eq_true zA; have q145 : x5_2 < (l0.length : Int) := of_decide_eq_true zA; obtain ⟨ad145, e145, hx145_0, hx145_1⟩ := at_T35 HR0.out x5_2 p145 q145
                cases e145
                replace hx145_0 := zw HB.out hx145_0; replace hx145_1 := zw HB.out hx145_1; replace p145 := eq_true p145; replace q145 := eq_true q145
                try go_wp2_with (first | ((with_reducible refine zd 6 ?_); refine zbx (N := 6) (cs := #[.int .i64 0, .int .i64 0]) (t := 35) ?_; intro gb146 hg w23 hbox hb; have BK146 := zQ (hbox); have GW146 := zgz hg HB.out; have GE146 := GW146; replace HB := zbs HB.out hb; clear hb hbox hg; have hcz24_0 := zc0 BK146.out; have hcz24_1 := zc1 BK146.out; have hfz24_0 := zfz BK146.out 0; have hfz24_1 := zfz BK146.out 1; have p147 : 0 ≤ ((ji15) : Int) := of_decide_eq_true zA; have q147 : (ji15) < (l0.length : Int) := of_decide_eq_true zA; obtain ⟨ad147, e147, hx147_0, hx147_1⟩ := at_T35 HR0.out (ji15) p147 q147; obtain rfl : ad145 = ad147 := (by injection e147); have hn147_0 : ad145.block ≠ gb146 := Nat.ne_of_lt (Nat.lt_of_lt_of_le (by have := World.block_lt_of_cell? _ _ hx147_0; first | rwa [add_block] at this | exact this) GW146.out); have hn147_1 : ad145.block ≠ gb146 := Nat.ne_of_lt (Nat.lt_of_lt_of_le (by have := World.block_lt_of_cell? _ _ hx147_0; first | rwa [add_block] at this | exact this) GW146.out); replace hx147_0 := zw HB.out hx147_0; replace hx147_1 := zw HB.out hx147_1; replace hx147_0 := (cell_far (p := ⟨gb146, 0, none⟩) (by first | (rw [add_block]; exact hn147_0) | (show (Addr.add _ _).block ≠ _; rw [add_block]; exact hn147_0) | exact hn147_0) (.int .i64 ((rd_T35 l0 x5_2).f0))).trans hx147_0; replace hx147_1 := (cell_far (p := ⟨gb146, 0, none⟩) (by first | (rw [add_block]; exact hn147_0) | (show (Addr.add _ _).block ≠ _; rw [add_block]; exact hn147_0) | exact hn147_0) (.int .i64 ((rd_T35 l0 x5_2).f0))).trans hx147_1; replace hx147_0 := (cell_far (p := ⟨gb146, 1, none⟩) (by first | (rw [add_block]; exact hn147_1) | (show (Addr.add _ _).block ≠ _; rw [add_block]; exact hn147_1) | exact hn147_1) (.int .i64 ((rd_T35 l0 x5_2).f1))).trans hx147_0; replace hx147_1 := (cell_far (p := ⟨gb146, 1, none⟩) (by first | (rw [add_block]; exact hn147_1) | (show (Addr.add _ _).block ≠ _; rw [add_block]; exact hn147_1) | exact hn147_1) (.int .i64 ((rd_T35 l0 x5_2).f1))).trans hx147_1; clear hn147_0; clear hn147_1; replace p147 := eq_true p147; replace q147 := eq_true q147) | ((with_reducible refine zd 7 ?_); refine zbx (N := 7) (cs := #[.int .i64 0, .int .i64 0]) (t := 35) ?_; intro gb148 hg w25 hbox hb; have BK148 := zQ (hbox); have GW148 := zgz2 hg HB.out GE146.out; have GE148 := GW148; have NB146_148 := zQ ((by rw [hg]; exact Nat.ne_of_lt (blk_lt (g := gb146) (o := .cells #[.int .i64 ((rd_T35 l0 x5_2).f0), .int .i64 ((rd_T35 l0 x5_2).f1)] 35 (0, 0)) (by refine zb ?_; refine blk_put (cs := #[.int .i64 ((rd_T35 l0 x5_2).f0), .int .i64 0]) ?_ 1 _ rfl; refine zb ?_; refine blk_put (cs := #[.int .i64 0, .int .i64 0]) ?_ 0 _ rfl; refine zb ?_; exact BK146.out)) : gb146 ≠ gb148)); have NB148_146 := zQ ((by rw [hg]; exact Nat.ne_of_gt (blk_lt (g := gb146) (o := .cells #[.int .i64 ((rd_T35 l0 x5_2).f0), .int .i64 ((rd_T35 l0 x5_2).f1)] 35 (0, 0)) (by refine zb ?_; refine blk_put (cs := #[.int .i64 ((rd_T35 l0 x5_2).f0), .int .i64 0]) ?_ 1 _ rfl; refine zb ?_; refine blk_put (cs := #[.int .i64 0, .int .i64 0]) ?_ 0 _ rfl; refine zb ?_; exact BK146.out)) : gb148 ≠ gb146)); replace BK146 := zQ (blk_below (g := gb146) (o := .cells #[.int .i64 ((rd_T35 l0 x5_2).f0), .int .i64 ((rd_T35 l0 x5_2).f1)] 35 (0, 0)) (by refine zb ?_; refine blk_put (cs := #[.int .i64 ((rd_T35 l0 x5_2).f0), .int .i64 0]) ?_ 1 _ rfl; refine zb ?_; refine blk_put (cs := #[.int .i64 0, .int .i64 0]) ?_ 0 _ rfl; refine zb ?_; exact BK146.out) hb); replace HB := zbs2 HB.out GE146.out hb; clear hb hbox hg; have hnb26 := NB148_146.out; have hnc26 := NB146_148.out; have hcz27_0 := zc0 BK148.out; have hcz27_1 := zc1 BK148.out; have hfz27_0 := zfz BK148.out 0; have hfz27_1 := zfz BK148.out 1))
                have n0_ : Aside0 (((w25.setCell ⟨gb148, 0, none⟩ (.int .i64 ((rd_T35 l0 (ji15)).f0))).setCell ⟨gb148, 1, none⟩ (.int .i64 ((rd_T35 l0 (ji15)).f1))).heap[gb146]? = some (.cells #[.int .i64 ((rd_T35 l0 x5_2).f0), .int .i64 ((rd_T35 l0 x5_2).f1)] 35 (0, 0))) := ⟨by refine zb ?_; refine blk_far ?_ NB146_148.out _; refine zb ?_; refine blk_far ?_ NB146_148.out _; refine zb ?_; exact BK146.out⟩; have n1_ : Aside0 (((w25.setCell ⟨gb148, 0, none⟩ (.int .i64 ((rd_T35 l0 (ji15)).f0))).setCell ⟨gb148, 1, none⟩ (.int .i64 ((rd_T35 l0 (ji15)).f1))).heap[gb148]? = some (.cells #[.int .i64 ((rd_T35 l0 (ji15)).f0), .int .i64 ((rd_T35 l0 (ji15)).f1)] 35 (0, 0))) := ⟨by refine zb ?_; refine blk_put (cs := #[.int .i64 ((rd_T35 l0 (ji15)).f0), .int .i64 0]) ?_ 1 _ rfl; refine zb ?_; refine blk_put (cs := #[.int .i64 0, .int .i64 0]) ?_ 0 _ rfl; refine zb ?_; exact BK148.out⟩; have n2_ : Aside0 (Below w.heap.size w ((w25.setCell ⟨gb148, 0, none⟩ (.int .i64 ((rd_T35 l0 (ji15)).f0))).setCell ⟨gb148, 1, none⟩ (.int .i64 ((rd_T35 l0 (ji15)).f1)))) := ⟨zB3 HB.out GE146.out GE148.out⟩
                (try clear BK146)
                (try clear BK148)
                (try clear HB)
                generalize ((w25.setCell ⟨gb148, 0, none⟩ (.int .i64 ((rd_T35 l0 (ji15)).f0))).setCell ⟨gb148, 1, none⟩ (.int .i64 ((rd_T35 l0 (ji15)).f1))) = w28 at n0_ n1_ n2_ ⊢
                have BK146 := n0_; have BK148 := n1_; have HB := n2_; clear n0_ n1_ n2_; have n0_ := zQ (blk_drew BK146.out); have n1_ := zQ (blk_drew BK148.out); have n2_ := zQ (below_drew1 HB.out); clear BK146; clear BK148; clear HB; have BK146 := n0_; have BK148 := n1_; have HB := n2_; clear n0_ n1_ n2_; have p149 : 0 ≤ ((ji18) : Int) := of_decide_eq_true zA; have q149 : (ji18) < (l0.length : Int) := of_decide_eq_true zA; obtain ⟨ad149, e149, hx149_0, hx149_1⟩ := at_T35 HR0.out (ji18) p149 q149; have hw149_1 := hx149_1; have hw149_0 := hx149_0; obtain rfl : ad145 = ad149 := (by injection e149); replace hx149_0 := zw HB.out hx149_0; replace hx149_1 := zw HB.out hx149_1; replace p149 := eq_true p149; replace q149 := eq_true q149
                refine zs (fun w' => w'.cell? ⟨gb146, 0, none⟩ = some (.int .i64 ((rd_T35 l0 x5_2).f0)) ∧ w'.cell? ⟨gb146, 1, none⟩ = some (.int .i64 ((rd_T35 l0 x5_2).f1)) ∧ w'.cell? ⟨gb148, 0, none⟩ = some (.int .i64 ((rd_T35 l0 (ji15)).f0)) ∧ w'.cell? ⟨gb148, 1, none⟩ = some (.int .i64 ((rd_T35 l0 (ji15)).f1)) ∧ w'.cell? (ad145.add (((ji18)).toNat * 2)) = some (.int .i64 ((rd_T35 l0 (ji18)).f0)) ∧ w'.cell? ⟨(ad145.add (((ji18)).toNat * 2)).block, (ad145.add (((ji18)).toNat * 2)).off + 1, none⟩ = some (.int .i64 ((rd_T35 l0 (ji18)).f1))) [] 11 ⟨(blk_cell BK146.out 0).trans rfl, (blk_cell BK146.out 1).trans rfl, (blk_cell BK148.out 0).trans rfl, (blk_cell BK148.out 1).trans rfl, ((HB.out.cell (World.block_lt_of_cell? w _ hw149_0)).trans hw149_0), ((HB.out.cell (World.block_lt_of_cell? w _ hw149_1)).trans hw149_1)⟩ (fun hHeld => ?_); refine with_tabW spec_l13Ok.tab14 spec_l13Ok.bits14 (fun HT_ HW_ => ?_)
                generalize w28.drew = w29 at BK146 BK148 HB hx149_0 hx149_1 hHeld ⊢
                refine zp 2 53 ?_
                refine zp 3 54 ?_
                refine zp 4 55 ?_
                refine zp 5 56 ?_
                refine zp 6 57 ?_
                refine zp 7 58 ?_
                refine zt 0 51 hHeld ?_
                refine zt 1 52 hHeld ?_
                refine zt 8 59 hHeld ?_
                refine zo 9 (some 60) (fun K hK => ?_)
                refine goes_ Tryd.func27 (by kernel_rfl) rfl #[.agg #[.int .i64 ((rd_T35 l0 x5_2).f0), .int .i64 ((rd_T35 l0 x5_2).f1)], .agg #[.int .i64 ((rd_T35 l0 (ji15)).f0), .int .i64 ((rd_T35 l0 (ji15)).f1)], .agg #[.int .i64 ((rd_T35 l0 (ji18)).f0), .int .i64 ((rd_T35 l0 (ji18)).f1)]] (by rfl) rfl rfl (by (try simp only [List.map_toArray, List.map_cons, List.map_nil]); first | done | (simp only [hji15, hji18]; rfl) | rfl | (simp only [List.length_drop, List.length_take]; rfl)) ?_
                with_reducible refine (spec_l13Cross.calls ((rd_T35 l0 x5_2).f0) ((rd_T35 l0 x5_2).f1) ((rd_T35 l0 (ji15)).f0) ((rd_T35 l0 (ji15)).f1) ((rd_T35 l0 (ji18)).f0) ((rd_T35 l0 (ji18)).f1) t150 _ A21.out).mono ?_
                rintro e w30 ⟨rfl, hb⟩
                refine ⟨_, rfl, ?_⟩
                have n0_ := zbl BK146.out hb; have n1_ := zbl BK148.out hb; have n2_ := zQ (below_step (zB3 HB.out GE146.out GE148.out) hb); clear BK146; clear BK148; clear HB; have BK146 := n0_; have BK148 := n1_; have HB := n2_; clear n0_ n1_ n2_
                (try clear hb)
                (try clear hb2)
                (try clear hk)
                (try clear hi)
                refine hK.out _ _ ⟨(blk_cell BK146.out 0).trans rfl, (blk_cell BK146.out 1).trans rfl, (blk_cell BK148.out 0).trans rfl, (blk_cell BK148.out 1).trans rfl, ((HB.out.cell (World.block_lt_of_cell? w _ hw149_0)).trans hw149_0), ((HB.out.cell (World.block_lt_of_cell? w _ hw149_1)).trans hw149_1)⟩ (fun hHeld => ?_)
                clear hK K
                refine zn 60 ?_
                refine zp 10 61 ?_
                refine done_ (done_of HT_.out (by kernel_rfl)) ?_
                try go_wp2
                go_ret
                exact ⟨by first | rfl | (simp [errW_none, errW_some] <;> rfl) | (simp only [← hji15, ← hji18]; first | rfl | (simp [errW_none, errW_some] <;> rfl)) | (simp [*, errW_none, errW_some] <;> rfl), zB3 HB.out GE146.out GE148.out⟩
               ·rw [if_neg c22] at H
                have c22b0 : (t150 == 0) = false := beq_eq_false_iff_ne.mpr c22; have c22b1 : (t150 != 0) = true := bne_iff_ne.mpr c22; have H' := zQ H; clear H; have p145 : 0 ≤ (x5_2 : Int) := of_decide_eq_true zA; have q145 : x5_2 < (l0.length : Int) := of_decide_eq_true zA; obtain ⟨ad145, e145, hx145_0, hx145_1⟩ := at_T35 HR0.out x5_2 p145 q145
                cases e145
                replace hx145_0 := zw HB.out hx145_0; replace hx145_1 := zw HB.out hx145_1; replace p145 := eq_true p145; replace q145 := eq_true q145
                try go_wp2_with (first | ((with_reducible refine zd 6 ?_); refine zbx (N := 6) (cs := #[.int .i64 0, .int .i64 0]) (t := 35) ?_; intro gb146 hg w31 hbox hb; have BK146 := zQ (hbox); have GW146 := zgz hg HB.out; have GE146 := GW146; replace HB := zbs HB.out hb; clear hb hbox hg; have hcz32_0 := zc0 BK146.out; have hcz32_1 := zc1 BK146.out; have hfz32_0 := zfz BK146.out 0; have hfz32_1 := zfz BK146.out 1; have p147 : 0 ≤ ((ji15) : Int) := of_decide_eq_true zA; have q147 : (ji15) < (l0.length : Int) := of_decide_eq_true zA; obtain ⟨ad147, e147, hx147_0, hx147_1⟩ := at_T35 HR0.out (ji15) p147 q147; obtain rfl : ad145 = ad147 := (by injection e147); have hn147_0 : ad145.block ≠ gb146 := Nat.ne_of_lt (Nat.lt_of_lt_of_le (by have := World.block_lt_of_cell? _ _ hx147_0; first | rwa [add_block] at this | exact this) GW146.out); have hn147_1 : ad145.block ≠ gb146 := Nat.ne_of_lt (Nat.lt_of_lt_of_le (by have := World.block_lt_of_cell? _ _ hx147_0; first | rwa [add_block] at this | exact this) GW146.out); replace hx147_0 := zw HB.out hx147_0; replace hx147_1 := zw HB.out hx147_1; replace hx147_0 := (cell_far (p := ⟨gb146, 0, none⟩) (by first | (rw [add_block]; exact hn147_0) | (show (Addr.add _ _).block ≠ _; rw [add_block]; exact hn147_0) | exact hn147_0) (.int .i64 ((rd_T35 l0 x5_2).f0))).trans hx147_0; replace hx147_1 := (cell_far (p := ⟨gb146, 0, none⟩) (by first | (rw [add_block]; exact hn147_0) | (show (Addr.add _ _).block ≠ _; rw [add_block]; exact hn147_0) | exact hn147_0) (.int .i64 ((rd_T35 l0 x5_2).f0))).trans hx147_1; replace hx147_0 := (cell_far (p := ⟨gb146, 1, none⟩) (by first | (rw [add_block]; exact hn147_1) | (show (Addr.add _ _).block ≠ _; rw [add_block]; exact hn147_1) | exact hn147_1) (.int .i64 ((rd_T35 l0 x5_2).f1))).trans hx147_0; replace hx147_1 := (cell_far (p := ⟨gb146, 1, none⟩) (by first | (rw [add_block]; exact hn147_1) | (show (Addr.add _ _).block ≠ _; rw [add_block]; exact hn147_1) | exact hn147_1) (.int .i64 ((rd_T35 l0 x5_2).f1))).trans hx147_1; clear hn147_0; clear hn147_1; replace p147 := eq_true p147; replace q147 := eq_true q147) | ((with_reducible refine zd 7 ?_); refine zbx (N := 7) (cs := #[.int .i64 0, .int .i64 0]) (t := 35) ?_; intro gb148 hg w33 hbox hb; have BK148 := zQ (hbox); have GW148 := zgz2 hg HB.out GE146.out; have GE148 := GW148; have NB146_148 := zQ ((by rw [hg]; exact Nat.ne_of_lt (blk_lt (g := gb146) (o := .cells #[.int .i64 ((rd_T35 l0 x5_2).f0), .int .i64 ((rd_T35 l0 x5_2).f1)] 35 (0, 0)) (by refine zb ?_; refine blk_put (cs := #[.int .i64 ((rd_T35 l0 x5_2).f0), .int .i64 0]) ?_ 1 _ rfl; refine zb ?_; refine blk_put (cs := #[.int .i64 0, .int .i64 0]) ?_ 0 _ rfl; refine zb ?_; exact BK146.out)) : gb146 ≠ gb148)); have NB148_146 := zQ ((by rw [hg]; exact Nat.ne_of_gt (blk_lt (g := gb146) (o := .cells #[.int .i64 ((rd_T35 l0 x5_2).f0), .int .i64 ((rd_T35 l0 x5_2).f1)] 35 (0, 0)) (by refine zb ?_; refine blk_put (cs := #[.int .i64 ((rd_T35 l0 x5_2).f0), .int .i64 0]) ?_ 1 _ rfl; refine zb ?_; refine blk_put (cs := #[.int .i64 0, .int .i64 0]) ?_ 0 _ rfl; refine zb ?_; exact BK146.out)) : gb148 ≠ gb146)); replace BK146 := zQ (blk_below (g := gb146) (o := .cells #[.int .i64 ((rd_T35 l0 x5_2).f0), .int .i64 ((rd_T35 l0 x5_2).f1)] 35 (0, 0)) (by refine zb ?_; refine blk_put (cs := #[.int .i64 ((rd_T35 l0 x5_2).f0), .int .i64 0]) ?_ 1 _ rfl; refine zb ?_; refine blk_put (cs := #[.int .i64 0, .int .i64 0]) ?_ 0 _ rfl; refine zb ?_; exact BK146.out) hb); replace HB := zbs2 HB.out GE146.out hb; clear hb hbox hg; have hnb34 := NB148_146.out; have hnc34 := NB146_148.out; have hcz35_0 := zc0 BK148.out; have hcz35_1 := zc1 BK148.out; have hfz35_0 := zfz BK148.out 0; have hfz35_1 := zfz BK148.out 1))
                have n0_ : Aside0 (((w33.setCell ⟨gb148, 0, none⟩ (.int .i64 ((rd_T35 l0 (ji15)).f0))).setCell ⟨gb148, 1, none⟩ (.int .i64 ((rd_T35 l0 (ji15)).f1))).heap[gb146]? = some (.cells #[.int .i64 ((rd_T35 l0 x5_2).f0), .int .i64 ((rd_T35 l0 x5_2).f1)] 35 (0, 0))) := ⟨by refine zb ?_; refine blk_far ?_ NB146_148.out _; refine zb ?_; refine blk_far ?_ NB146_148.out _; refine zb ?_; exact BK146.out⟩; have n1_ : Aside0 (((w33.setCell ⟨gb148, 0, none⟩ (.int .i64 ((rd_T35 l0 (ji15)).f0))).setCell ⟨gb148, 1, none⟩ (.int .i64 ((rd_T35 l0 (ji15)).f1))).heap[gb148]? = some (.cells #[.int .i64 ((rd_T35 l0 (ji15)).f0), .int .i64 ((rd_T35 l0 (ji15)).f1)] 35 (0, 0))) := ⟨by refine zb ?_; refine blk_put (cs := #[.int .i64 ((rd_T35 l0 (ji15)).f0), .int .i64 0]) ?_ 1 _ rfl; refine zb ?_; refine blk_put (cs := #[.int .i64 0, .int .i64 0]) ?_ 0 _ rfl; refine zb ?_; exact BK148.out⟩; have n2_ : Aside0 (Below w.heap.size w ((w33.setCell ⟨gb148, 0, none⟩ (.int .i64 ((rd_T35 l0 (ji15)).f0))).setCell ⟨gb148, 1, none⟩ (.int .i64 ((rd_T35 l0 (ji15)).f1)))) := ⟨zB3 HB.out GE146.out GE148.out⟩
                (try clear BK146)
                (try clear BK148)
                (try clear HB)
                generalize ((w33.setCell ⟨gb148, 0, none⟩ (.int .i64 ((rd_T35 l0 (ji15)).f0))).setCell ⟨gb148, 1, none⟩ (.int .i64 ((rd_T35 l0 (ji15)).f1))) = w36 at n0_ n1_ n2_ ⊢
                have BK146 := n0_; have BK148 := n1_; have HB := n2_; clear n0_ n1_ n2_; have n0_ := zQ (blk_drew BK146.out); have n1_ := zQ (blk_drew BK148.out); have n2_ := zQ (below_drew1 HB.out); clear BK146; clear BK148; clear HB; have BK146 := n0_; have BK148 := n1_; have HB := n2_; clear n0_ n1_ n2_; have p149 : 0 ≤ ((ji18) : Int) := of_decide_eq_true zA; have q149 : (ji18) < (l0.length : Int) := of_decide_eq_true zA; obtain ⟨ad149, e149, hx149_0, hx149_1⟩ := at_T35 HR0.out (ji18) p149 q149; have hw149_1 := hx149_1; have hw149_0 := hx149_0; obtain rfl : ad145 = ad149 := (by injection e149); replace hx149_0 := zw HB.out hx149_0; replace hx149_1 := zw HB.out hx149_1; replace p149 := eq_true p149; replace q149 := eq_true q149
                refine zs (fun w' => w'.cell? ⟨gb146, 0, none⟩ = some (.int .i64 ((rd_T35 l0 x5_2).f0)) ∧ w'.cell? ⟨gb146, 1, none⟩ = some (.int .i64 ((rd_T35 l0 x5_2).f1)) ∧ w'.cell? ⟨gb148, 0, none⟩ = some (.int .i64 ((rd_T35 l0 (ji15)).f0)) ∧ w'.cell? ⟨gb148, 1, none⟩ = some (.int .i64 ((rd_T35 l0 (ji15)).f1)) ∧ w'.cell? (ad145.add (((ji18)).toNat * 2)) = some (.int .i64 ((rd_T35 l0 (ji18)).f0)) ∧ w'.cell? ⟨(ad145.add (((ji18)).toNat * 2)).block, (ad145.add (((ji18)).toNat * 2)).off + 1, none⟩ = some (.int .i64 ((rd_T35 l0 (ji18)).f1))) [] 11 ⟨(blk_cell BK146.out 0).trans rfl, (blk_cell BK146.out 1).trans rfl, (blk_cell BK148.out 0).trans rfl, (blk_cell BK148.out 1).trans rfl, ((HB.out.cell (World.block_lt_of_cell? w _ hw149_0)).trans hw149_0), ((HB.out.cell (World.block_lt_of_cell? w _ hw149_1)).trans hw149_1)⟩ (fun hHeld => ?_); refine with_tabW spec_l13Ok.tab14 spec_l13Ok.bits14 (fun HT_ HW_ => ?_)
                generalize w36.drew = w37 at BK146 BK148 HB hx149_0 hx149_1 hHeld ⊢
                refine zp 2 53 ?_
                refine zp 3 54 ?_
                refine zp 4 55 ?_
                refine zp 5 56 ?_
                refine zp 6 57 ?_
                refine zp 7 58 ?_
                refine zt 0 51 hHeld ?_
                refine zt 1 52 hHeld ?_
                refine zt 8 59 hHeld ?_
                refine zo 9 (some 60) (fun K hK => ?_)
                refine goes_ Tryd.func27 (by kernel_rfl) rfl #[.agg #[.int .i64 ((rd_T35 l0 x5_2).f0), .int .i64 ((rd_T35 l0 x5_2).f1)], .agg #[.int .i64 ((rd_T35 l0 (ji15)).f0), .int .i64 ((rd_T35 l0 (ji15)).f1)], .agg #[.int .i64 ((rd_T35 l0 (ji18)).f0), .int .i64 ((rd_T35 l0 (ji18)).f1)]] (by rfl) rfl rfl (by (try simp only [List.map_toArray, List.map_cons, List.map_nil]); first | done | (simp only [hji15, hji18]; rfl) | rfl | (simp only [List.length_drop, List.length_take]; rfl)) ?_
                with_reducible refine (spec_l13Cross.calls ((rd_T35 l0 x5_2).f0) ((rd_T35 l0 x5_2).f1) ((rd_T35 l0 (ji15)).f0) ((rd_T35 l0 (ji15)).f1) ((rd_T35 l0 (ji18)).f0) ((rd_T35 l0 (ji18)).f1) t150 _ A21.out).mono ?_
                rintro e w38 ⟨rfl, hb⟩
                refine ⟨_, rfl, ?_⟩
                have n0_ := zbl BK146.out hb; have n1_ := zbl BK148.out hb; have n2_ := zQ (below_step (zB3 HB.out GE146.out GE148.out) hb); clear BK146; clear BK148; clear HB; have BK146 := n0_; have BK148 := n1_; have HB := n2_; clear n0_ n1_ n2_
                (try clear hb)
                (try clear hb2)
                (try clear hk)
                (try clear hi)
                refine hK.out _ _ ⟨(blk_cell BK146.out 0).trans rfl, (blk_cell BK146.out 1).trans rfl, (blk_cell BK148.out 0).trans rfl, (blk_cell BK148.out 1).trans rfl, ((HB.out.cell (World.block_lt_of_cell? w _ hw149_0)).trans hw149_0), ((HB.out.cell (World.block_lt_of_cell? w _ hw149_1)).trans hw149_1)⟩ (fun hHeld => ?_)
                clear hK K
                refine zn 60 ?_
                refine zp 10 61 ?_
                refine done_ (done_of HT_.out (by kernel_rfl)) ?_
                try go_wp2
                go_loopg [8] k2 (fun kq v8 w' => ∃ (x8_3 : Int), v8 = .int .i64 x8_3 ∧ Aside0 (spec_l13Ok.l2 kq l0 (l0.length : Int) x5_2 x8_3 ((rd_T35 l0 x5_2).f0) ((rd_T35 l0 x5_2).f1) ((rd_T35 l0 (ji15)).f0) ((rd_T35 l0 (ji15)).f1) = some r) ∧ Aside0 (kq ≤ k2) ∧ Aside0 (w'.heap[gb146]? = some (.cells #[.int .i64 ((rd_T35 l0 x5_2).f0), .int .i64 ((rd_T35 l0 x5_2).f1)] 35 (0, 0))) ∧ Aside0 (w'.heap[gb148]? = some (.cells #[.int .i64 ((rd_T35 l0 (ji15)).f0), .int .i64 ((rd_T35 l0 (ji15)).f1)] 35 (0, 0))) ∧ Aside0 (Below w.heap.size w w'))
                case atStart => exact ⟨(wrap64 (x5_2 + 2)), (zF), H', ⟨Nat.le_refl _⟩, ⟨zb BK146.out⟩, ⟨zb BK148.out⟩, ⟨zB3 HB.out GE146.out GE148.out⟩⟩
                case round =>
                 clear H'; (try clear c1); (try clear p1); (try clear q1); (try clear hx1); (try clear c2); (try clear p2); (try clear c3); (try clear c4); (try clear c4b0); (try clear c5); (try clear c5b0); (try clear c6); (try clear c6b0); (try clear p6); (try clear c8); (try clear c10); (try clear c11); (try clear c11b0); (try clear c12); (try clear c12b0); (try clear c13); (try clear c13b0); (try clear c14); (try clear c14b0); (try clear c14b1); (try clear c14b2); (try clear p14); (try clear q14); (try clear hx14); (try clear c16); (try clear c16b0); (try clear c17); (try clear c17b0); (try clear c19); (try clear c19b0); (try clear c20); (try clear c20b0); (try clear c22); (try clear c22b0); (try clear c22b1); (try clear c26); (try clear c27); (try clear c34); (try clear hcz24_0); (try clear hcz24_1); (try clear hcz27_0); (try clear hcz27_1); (try clear hcz32_0); (try clear hcz32_1); (try clear hcz35_0); (try clear hcz35_1); (try clear hfz24_0); (try clear hfz24_1); (try clear hfz27_0); (try clear hfz27_1); (try clear hfz32_0); (try clear hfz32_1); (try clear hfz35_0); (try clear hfz35_1); (try clear hx140_0); (try clear hx140_1); (try clear hx142_0); (try clear hx142_1); (try clear hx145_0); (try clear hx145_1); (try clear hx147_0); (try clear hx147_1); (try clear hx149_0); (try clear hx149_1); (try clear p1); (try clear p140); (try clear p142); (try clear p145); (try clear p147); (try clear p149); (try clear p2); (try clear p6); (try clear q1)
                 (try clear q140); (try clear q142); (try clear q145); (try clear q147); (try clear q149); obtain ⟨x8_3, rfl, HA, HK3, BK146, BK148, HB⟩ := hrel
                 cases gk with
                 | zero => exact absurd HA.out (by simp [spec_l13Ok.l2])
                 | succ k3 =>
                  have H := HA.out; clear HA
                  simp only [spec_l13Ok.l2] at H
                  by_cases c39 : x8_3 < (l0.length : Int)
                  ·rw [if_pos c39] at H
                   have c39b0 : decide (x8_3 < (l0.length : Int)) = true := decide_eq_true c39; clear c39
                   by_cases c40 : x5_2 > 0
                   ·rw [if_pos c40] at H
                    have c40b0 : decide (0 < x5_2) = true := decide_eq_true c40; clear c40
                    by_cases c41 : 0 ≤ x8_3
                    ·rw [if_pos c41] at H
                     have c41b0 : decide (0 ≤ x8_3) = true := decide_eq_true c41; clear c41
                     by_cases c42 : x8_3 < (l0.length : Int)
                     ·rw [if_pos c42] at H
                      have c42b0 : decide (x8_3 < (l0.length : Int)) = true := decide_eq_true c42; clear c42
                      by_cases c43 : (l0.length : Int) = 0
                      ·rw [if_pos c43] at H
                       exact absurd H (by simp)
                      ·rw [if_neg c43] at H
                       have c43b0 : ((l0.length : Int) == 0) = false := beq_eq_false_iff_ne.mpr c43; have c43b1 : ((l0.length : Int) != 0) = true := bne_iff_ne.mpr c43
                       have c43b2 : ¬ (l0 = []) := fun h_ => c43 (by rw [h_]; rfl)
                       obtain ⟨ji44, hji44⟩ : ∃ j_ : Int, (Int.tmod (wrap64 (x8_3 + 1)) (l0.length : Int)) = j_ := ⟨_, rfl⟩
                       replace H : (if 0 ≤ (ji44) then (if (ji44) < (l0.length : Int) then ((spec_l13Meet.f k3 ((rd_T35 l0 x5_2).f0) ((rd_T35 l0 x5_2).f1) ((rd_T35 l0 (ji15)).f0) ((rd_T35 l0 (ji15)).f1) ((rd_T35 l0 x8_3).f0) ((rd_T35 l0 x8_3).f1) ((rd_T35 l0 (ji44)).f0) ((rd_T35 l0 (ji44)).f1)).bind fun t153 => (if t153 = true then (some false) else (spec_l13Ok.l2 k3 l0 (l0.length : Int) x5_2 (wrap64 (x8_3 + 1)) ((rd_T35 l0 x5_2).f0) ((rd_T35 l0 x5_2).f1) ((rd_T35 l0 (ji15)).f0) ((rd_T35 l0 (ji15)).f1)))) else (none)) else (none)) = some r := by first | (rw [hji44] at H; exact H) | (simp only [hji44] at H ⊢; exact H)
                       by_cases c45 : 0 ≤ (ji44)
                       ·rw [if_pos c45] at H
                        have c45b0 : decide (0 ≤ (ji44)) = true := decide_eq_true c45; clear c45
                        by_cases c46 : (ji44) < (l0.length : Int)
                        ·rw [if_pos c46] at H
                         have c46b0 : decide ((ji44) < (l0.length : Int)) = true := decide_eq_true c46; clear c46; replace H := Option.bind_eq_some_iff.mp H; obtain ⟨t153, A470, H⟩ := H; replace H : (if t153 = true then (some false) else (spec_l13Ok.l2 k3 l0 (l0.length : Int) x5_2 (wrap64 (x8_3 + 1)) ((rd_T35 l0 x5_2).f0) ((rd_T35 l0 x5_2).f1) ((rd_T35 l0 (ji15)).f0) ((rd_T35 l0 (ji15)).f1))) = some r := H; have A47 := zQ A470; clear A470
                         by_cases c48 : t153 = true
                         ·subst c48
                          have H1 : (some false) = some r := by rw [if_pos rfl] at H; exact H
                          clear H; have H := H1; clear H1; obtain rfl := Option.some.inj H
                          try go_wp2
                          have n0_ := zQ (blk_drew BK146.out); have n1_ := zQ (blk_drew BK148.out); have n2_ := zQ (below_drew1 HB.out); clear BK146; clear BK148; clear HB; have BK146 := n0_; have BK148 := n1_; have HB := n2_; clear n0_ n1_ n2_; have p151 : 0 ≤ (x8_3 : Int) := of_decide_eq_true zA; have q151 : x8_3 < (l0.length : Int) := of_decide_eq_true zA; obtain ⟨ad151, e151, hx151_0, hx151_1⟩ := at_T35 HR0.out x8_3 p151 q151; have hw151_1 := hx151_1; have hw151_0 := hx151_0; obtain rfl : ad145 = ad151 := (by injection e151); replace hx151_0 := zw HB.out hx151_0; replace hx151_1 := zw HB.out hx151_1; replace p151 := eq_true p151; replace q151 := eq_true q151; have p152 : 0 ≤ ((ji44) : Int) := of_decide_eq_true zA; have q152 : (ji44) < (l0.length : Int) := of_decide_eq_true zA; obtain ⟨ad152, e152, hx152_0, hx152_1⟩ := at_T35 HR0.out (ji44) p152 q152; have hw152_1 := hx152_1; have hw152_0 := hx152_0; obtain rfl : ad145 = ad152 := (by injection e152); replace hx152_0 := zw HB.out hx152_0; replace hx152_1 := zw HB.out hx152_1; replace p152 := eq_true p152; replace q152 := eq_true q152
                          refine zs (fun w' => w'.cell? ⟨gb146, 0, none⟩ = some (.int .i64 ((rd_T35 l0 x5_2).f0)) ∧ w'.cell? ⟨gb146, 1, none⟩ = some (.int .i64 ((rd_T35 l0 x5_2).f1)) ∧ w'.cell? ⟨gb148, 0, none⟩ = some (.int .i64 ((rd_T35 l0 (ji15)).f0)) ∧ w'.cell? ⟨gb148, 1, none⟩ = some (.int .i64 ((rd_T35 l0 (ji15)).f1)) ∧ w'.cell? (ad145.add ((x8_3).toNat * 2)) = some (.int .i64 ((rd_T35 l0 x8_3).f0)) ∧ w'.cell? ⟨(ad145.add ((x8_3).toNat * 2)).block, (ad145.add ((x8_3).toNat * 2)).off + 1, none⟩ = some (.int .i64 ((rd_T35 l0 x8_3).f1)) ∧ w'.cell? (ad145.add (((ji44)).toNat * 2)) = some (.int .i64 ((rd_T35 l0 (ji44)).f0)) ∧ w'.cell? ⟨(ad145.add (((ji44)).toNat * 2)).block, (ad145.add (((ji44)).toNat * 2)).off + 1, none⟩ = some (.int .i64 ((rd_T35 l0 (ji44)).f1))) [] 24 ⟨(blk_cell BK146.out 0).trans rfl, (blk_cell BK146.out 1).trans rfl, (blk_cell BK148.out 0).trans rfl, (blk_cell BK148.out 1).trans rfl, ((HB.out.cell (World.block_lt_of_cell? w _ hw151_0)).trans hw151_0), ((HB.out.cell (World.block_lt_of_cell? w _ hw151_1)).trans hw151_1), ((HB.out.cell (World.block_lt_of_cell? w _ hw152_0)).trans hw152_0), ((HB.out.cell (World.block_lt_of_cell? w _ hw152_1)).trans hw152_1)⟩ (fun hHeld => ?_); refine with_tabW spec_l13Ok.tab19 spec_l13Ok.bits19 (fun HT_ HW_ => ?_)
                          generalize wr.drew = w49 at BK146 BK148 HB hx151_0 hx151_1 hx152_0 hx152_1 hHeld ⊢
                          refine zp 0 69 ?_
                          refine zp 1 70 ?_
                          refine zp 2 71 ?_
                          refine zg 3 72 ?_
                          refine zg 4 73 ?_
                          refine zg 5 74 ?_
                          refine zg 6 75 ?_
                          refine zp 7 76 ?_
                          refine zp 8 77 ?_
                          refine zp 11 80 ?_
                          refine zp 12 81 ?_
                          refine zp 13 82 ?_
                          refine zp 15 84 ?_
                          refine zp 16 85 ?_
                          refine zp 17 86 ?_
                          refine zp 18 87 ?_
                          refine zp 19 88 ?_
                          refine zp 20 89 ?_
                          refine zt 9 78 hHeld ?_
                          refine zt 10 79 hHeld ?_
                          refine zt 14 83 hHeld ?_
                          refine zt 21 90 hHeld ?_
                          refine zo 22 (some 91) (fun K hK => ?_)
                          refine goes_ Tryd.func28 (by kernel_rfl) rfl #[.agg #[.int .i64 ((rd_T35 l0 x5_2).f0), .int .i64 ((rd_T35 l0 x5_2).f1)], .agg #[.int .i64 ((rd_T35 l0 (ji15)).f0), .int .i64 ((rd_T35 l0 (ji15)).f1)], .agg #[.int .i64 ((rd_T35 l0 x8_3).f0), .int .i64 ((rd_T35 l0 x8_3).f1)], .agg #[.int .i64 ((rd_T35 l0 (ji44)).f0), .int .i64 ((rd_T35 l0 (ji44)).f1)]] (by rfl) rfl rfl (by (try simp only [List.map_toArray, List.map_cons, List.map_nil]); first | done | (simp only [hji15, hji44]; rfl) | rfl | (simp only [List.length_drop, List.length_take]; rfl)) ?_
                          with_reducible refine (spec_l13Meet.calls k3 ((rd_T35 l0 x5_2).f0) ((rd_T35 l0 x5_2).f1) ((rd_T35 l0 (ji15)).f0) ((rd_T35 l0 (ji15)).f1) ((rd_T35 l0 x8_3).f0) ((rd_T35 l0 x8_3).f1) ((rd_T35 l0 (ji44)).f0) ((rd_T35 l0 (ji44)).f1) true _ A47.out).mono ?_
                          rintro e w50 ⟨rfl, hb⟩
                          refine ⟨_, rfl, ?_⟩
                          have n0_ := zbl BK146.out hb; have n1_ := zbl BK148.out hb; have n2_ := zQ (below_step (zB3 HB.out GE146.out GE148.out) hb); clear BK146; clear BK148; clear HB; have BK146 := n0_; have BK148 := n1_; have HB := n2_; clear n0_ n1_ n2_
                          (try clear hb)
                          (try clear hb2)
                          (try clear hk)
                          (try clear hi)
                          refine hK.out _ _ ⟨(blk_cell BK146.out 0).trans rfl, (blk_cell BK146.out 1).trans rfl, (blk_cell BK148.out 0).trans rfl, (blk_cell BK148.out 1).trans rfl, ((HB.out.cell (World.block_lt_of_cell? w _ hw151_0)).trans hw151_0), ((HB.out.cell (World.block_lt_of_cell? w _ hw151_1)).trans hw151_1), ((HB.out.cell (World.block_lt_of_cell? w _ hw152_0)).trans hw152_0), ((HB.out.cell (World.block_lt_of_cell? w _ hw152_1)).trans hw152_1)⟩ (fun hHeld => ?_)
                          clear hK K
                          refine zn 91 ?_
                          refine zp 23 92 ?_
                          refine done_ (done_of HT_.out (by kernel_rfl)) ?_
                          try go_wp2
                          go_ret
                          exact ⟨by first | rfl | (simp [errW_none, errW_some] <;> rfl) | (simp only [← hji15, ← hji18, ← hji44]; first | rfl | (simp [errW_none, errW_some] <;> rfl)) | (simp [*, errW_none, errW_some] <;> rfl), zB3 HB.out GE146.out GE148.out⟩
                         ·replace c48 := Bool.eq_false_iff.mpr c48
                          subst c48
                          have H1 : (spec_l13Ok.l2 k3 l0 (l0.length : Int) x5_2 (wrap64 (x8_3 + 1)) ((rd_T35 l0 x5_2).f0) ((rd_T35 l0 x5_2).f1) ((rd_T35 l0 (ji15)).f0) ((rd_T35 l0 (ji15)).f1)) = some r := by rw [if_neg (show ¬ (false = true) by decide)] at H; exact H
                          clear H; have H := H1; clear H1; have H' := zQ H; clear H
                          try go_wp2
                          have n0_ := zQ (blk_drew BK146.out); have n1_ := zQ (blk_drew BK148.out); have n2_ := zQ (below_drew1 HB.out); clear BK146; clear BK148; clear HB; have BK146 := n0_; have BK148 := n1_; have HB := n2_; clear n0_ n1_ n2_; have p151 : 0 ≤ (x8_3 : Int) := of_decide_eq_true zA; have q151 : x8_3 < (l0.length : Int) := of_decide_eq_true zA; obtain ⟨ad151, e151, hx151_0, hx151_1⟩ := at_T35 HR0.out x8_3 p151 q151; have hw151_1 := hx151_1; have hw151_0 := hx151_0; obtain rfl : ad145 = ad151 := (by injection e151); replace hx151_0 := zw HB.out hx151_0; replace hx151_1 := zw HB.out hx151_1; replace p151 := eq_true p151; replace q151 := eq_true q151; have p152 : 0 ≤ ((ji44) : Int) := of_decide_eq_true zA; have q152 : (ji44) < (l0.length : Int) := of_decide_eq_true zA; obtain ⟨ad152, e152, hx152_0, hx152_1⟩ := at_T35 HR0.out (ji44) p152 q152; have hw152_1 := hx152_1; have hw152_0 := hx152_0; obtain rfl : ad145 = ad152 := (by injection e152); replace hx152_0 := zw HB.out hx152_0; replace hx152_1 := zw HB.out hx152_1; replace p152 := eq_true p152; replace q152 := eq_true q152
                          refine zs (fun w' => w'.cell? ⟨gb146, 0, none⟩ = some (.int .i64 ((rd_T35 l0 x5_2).f0)) ∧ w'.cell? ⟨gb146, 1, none⟩ = some (.int .i64 ((rd_T35 l0 x5_2).f1)) ∧ w'.cell? ⟨gb148, 0, none⟩ = some (.int .i64 ((rd_T35 l0 (ji15)).f0)) ∧ w'.cell? ⟨gb148, 1, none⟩ = some (.int .i64 ((rd_T35 l0 (ji15)).f1)) ∧ w'.cell? (ad145.add ((x8_3).toNat * 2)) = some (.int .i64 ((rd_T35 l0 x8_3).f0)) ∧ w'.cell? ⟨(ad145.add ((x8_3).toNat * 2)).block, (ad145.add ((x8_3).toNat * 2)).off + 1, none⟩ = some (.int .i64 ((rd_T35 l0 x8_3).f1)) ∧ w'.cell? (ad145.add (((ji44)).toNat * 2)) = some (.int .i64 ((rd_T35 l0 (ji44)).f0)) ∧ w'.cell? ⟨(ad145.add (((ji44)).toNat * 2)).block, (ad145.add (((ji44)).toNat * 2)).off + 1, none⟩ = some (.int .i64 ((rd_T35 l0 (ji44)).f1))) [] 24 ⟨(blk_cell BK146.out 0).trans rfl, (blk_cell BK146.out 1).trans rfl, (blk_cell BK148.out 0).trans rfl, (blk_cell BK148.out 1).trans rfl, ((HB.out.cell (World.block_lt_of_cell? w _ hw151_0)).trans hw151_0), ((HB.out.cell (World.block_lt_of_cell? w _ hw151_1)).trans hw151_1), ((HB.out.cell (World.block_lt_of_cell? w _ hw152_0)).trans hw152_0), ((HB.out.cell (World.block_lt_of_cell? w _ hw152_1)).trans hw152_1)⟩ (fun hHeld => ?_); refine with_tabW spec_l13Ok.tab19 spec_l13Ok.bits19 (fun HT_ HW_ => ?_)
                          generalize wr.drew = w51 at BK146 BK148 HB hx151_0 hx151_1 hx152_0 hx152_1 hHeld ⊢
                          refine zp 0 69 ?_
                          refine zp 1 70 ?_
                          refine zp 2 71 ?_
                          refine zg 3 72 ?_
                          refine zg 4 73 ?_
                          refine zg 5 74 ?_
                          refine zg 6 75 ?_
                          refine zp 7 76 ?_
                          refine zp 8 77 ?_
                          refine zp 11 80 ?_
                          refine zp 12 81 ?_
                          refine zp 13 82 ?_
                          refine zp 15 84 ?_
                          refine zp 16 85 ?_
                          refine zp 17 86 ?_
                          refine zp 18 87 ?_
                          refine zp 19 88 ?_
                          refine zp 20 89 ?_
                          refine zt 9 78 hHeld ?_
                          refine zt 10 79 hHeld ?_
                          refine zt 14 83 hHeld ?_
                          refine zt 21 90 hHeld ?_
                          refine zo 22 (some 91) (fun K hK => ?_)
                          refine goes_ Tryd.func28 (by kernel_rfl) rfl #[.agg #[.int .i64 ((rd_T35 l0 x5_2).f0), .int .i64 ((rd_T35 l0 x5_2).f1)], .agg #[.int .i64 ((rd_T35 l0 (ji15)).f0), .int .i64 ((rd_T35 l0 (ji15)).f1)], .agg #[.int .i64 ((rd_T35 l0 x8_3).f0), .int .i64 ((rd_T35 l0 x8_3).f1)], .agg #[.int .i64 ((rd_T35 l0 (ji44)).f0), .int .i64 ((rd_T35 l0 (ji44)).f1)]] (by rfl) rfl rfl (by (try simp only [List.map_toArray, List.map_cons, List.map_nil]); first | done | (simp only [hji15, hji44]; rfl) | rfl | (simp only [List.length_drop, List.length_take]; rfl)) ?_
                          with_reducible refine (spec_l13Meet.calls k3 ((rd_T35 l0 x5_2).f0) ((rd_T35 l0 x5_2).f1) ((rd_T35 l0 (ji15)).f0) ((rd_T35 l0 (ji15)).f1) ((rd_T35 l0 x8_3).f0) ((rd_T35 l0 x8_3).f1) ((rd_T35 l0 (ji44)).f0) ((rd_T35 l0 (ji44)).f1) false _ A47.out).mono ?_
                          rintro e w52 ⟨rfl, hb⟩
                          refine ⟨_, rfl, ?_⟩
                          have n0_ := zbl BK146.out hb; have n1_ := zbl BK148.out hb; have n2_ := zQ (below_step (zB3 HB.out GE146.out GE148.out) hb); clear BK146; clear BK148; clear HB; have BK146 := n0_; have BK148 := n1_; have HB := n2_; clear n0_ n1_ n2_
                          (try clear hb)
                          (try clear hb2)
                          (try clear hk)
                          (try clear hi)
                          refine hK.out _ _ ⟨(blk_cell BK146.out 0).trans rfl, (blk_cell BK146.out 1).trans rfl, (blk_cell BK148.out 0).trans rfl, (blk_cell BK148.out 1).trans rfl, ((HB.out.cell (World.block_lt_of_cell? w _ hw151_0)).trans hw151_0), ((HB.out.cell (World.block_lt_of_cell? w _ hw151_1)).trans hw151_1), ((HB.out.cell (World.block_lt_of_cell? w _ hw152_0)).trans hw152_0), ((HB.out.cell (World.block_lt_of_cell? w _ hw152_1)).trans hw152_1)⟩ (fun hHeld => ?_)
                          clear hK K
                          refine zn 91 ?_
                          refine zp 23 92 ?_
                          refine done_ (done_of HT_.out (by kernel_rfl)) ?_
                          try go_wp2
                          go_roundg k3
                          case measure => have := HK1.out; have := HK2.out; have := HK3.out; omega
                          case rel => exact ⟨(wrap64 (x8_3 + 1)), (zF), H', ⟨by have := HK1.out; have := HK2.out; have := HK3.out; omega⟩, ⟨zb BK146.out⟩, ⟨zb BK148.out⟩, ⟨zB3 HB.out GE146.out GE148.out⟩⟩
                        ·rw [if_neg c46] at H
                         exact absurd H (by simp)
                       ·rw [if_neg c45] at H
                        exact absurd H (by simp)
                     ·rw [if_neg c42] at H
                      exact absurd H (by simp)
                    ·rw [if_neg c41] at H
                     exact absurd H (by simp)
                   ·rw [if_neg c40] at H
                    have c40b0 : decide (0 < x5_2) = false := decide_eq_false c40; clear c40
                    by_cases c53 : x8_3 < (wrap64 ((l0.length : Int) - 1))
                    ·rw [if_pos c53] at H
                     have c53b0 : decide (x8_3 < (wrap64 ((l0.length : Int) - 1))) = true := decide_eq_true c53; clear c53
                     by_cases c54 : 0 ≤ x8_3
                     ·rw [if_pos c54] at H
                      have c54b0 : decide (0 ≤ x8_3) = true := decide_eq_true c54; clear c54
                      by_cases c55 : x8_3 < (l0.length : Int)
                      ·rw [if_pos c55] at H
                       have c55b0 : decide (x8_3 < (l0.length : Int)) = true := decide_eq_true c55; clear c55
                       by_cases c56 : (l0.length : Int) = 0
                       ·rw [if_pos c56] at H
                        exact absurd H (by simp)
                       ·rw [if_neg c56] at H
                        have c56b0 : ((l0.length : Int) == 0) = false := beq_eq_false_iff_ne.mpr c56; have c56b1 : ((l0.length : Int) != 0) = true := bne_iff_ne.mpr c56
                        have c56b2 : ¬ (l0 = []) := fun h_ => c56 (by rw [h_]; rfl)
                        obtain ⟨ji57, hji57⟩ : ∃ j_ : Int, (Int.tmod (wrap64 (x8_3 + 1)) (l0.length : Int)) = j_ := ⟨_, rfl⟩
                        replace H : (if 0 ≤ (ji57) then (if (ji57) < (l0.length : Int) then ((spec_l13Meet.f k3 ((rd_T35 l0 x5_2).f0) ((rd_T35 l0 x5_2).f1) ((rd_T35 l0 (ji15)).f0) ((rd_T35 l0 (ji15)).f1) ((rd_T35 l0 x8_3).f0) ((rd_T35 l0 x8_3).f1) ((rd_T35 l0 (ji57)).f0) ((rd_T35 l0 (ji57)).f1)).bind fun t156 => (if t156 = true then (some false) else (spec_l13Ok.l2 k3 l0 (l0.length : Int) x5_2 (wrap64 (x8_3 + 1)) ((rd_T35 l0 x5_2).f0) ((rd_T35 l0 x5_2).f1) ((rd_T35 l0 (ji15)).f0) ((rd_T35 l0 (ji15)).f1)))) else (none)) else (none)) = some r := by first | (rw [hji57] at H; exact H) | (simp only [hji57] at H ⊢; exact H)
                        by_cases c58 : 0 ≤ (ji57)
                        ·rw [if_pos c58] at H
                         have c58b0 : decide (0 ≤ (ji57)) = true := decide_eq_true c58; clear c58
                         by_cases c59 : (ji57) < (l0.length : Int)
                         ·rw [if_pos c59] at H
                          have c59b0 : decide ((ji57) < (l0.length : Int)) = true := decide_eq_true c59; clear c59; replace H := Option.bind_eq_some_iff.mp H; obtain ⟨t156, A600, H⟩ := H; replace H : (if t156 = true then (some false) else (spec_l13Ok.l2 k3 l0 (l0.length : Int) x5_2 (wrap64 (x8_3 + 1)) ((rd_T35 l0 x5_2).f0) ((rd_T35 l0 x5_2).f1) ((rd_T35 l0 (ji15)).f0) ((rd_T35 l0 (ji15)).f1))) = some r := H; have A60 := zQ A600; clear A600
                          by_cases c61 : t156 = true
                          ·subst c61
                           have H1 : (some false) = some r := by rw [if_pos rfl] at H; exact H
                           clear H; have H := H1; clear H1; obtain rfl := Option.some.inj H
                           try go_wp2
                           have n0_ := zQ (blk_drew BK146.out); have n1_ := zQ (blk_drew BK148.out); have n2_ := zQ (below_drew1 HB.out); clear BK146; clear BK148; clear HB; have BK146 := n0_; have BK148 := n1_; have HB := n2_; clear n0_ n1_ n2_; have p154 : 0 ≤ (x8_3 : Int) := of_decide_eq_true zA; have q154 : x8_3 < (l0.length : Int) := of_decide_eq_true zA; obtain ⟨ad154, e154, hx154_0, hx154_1⟩ := at_T35 HR0.out x8_3 p154 q154; have hw154_1 := hx154_1; have hw154_0 := hx154_0; obtain rfl : ad145 = ad154 := (by injection e154); replace hx154_0 := zw HB.out hx154_0; replace hx154_1 := zw HB.out hx154_1; replace p154 := eq_true p154; replace q154 := eq_true q154; have p155 : 0 ≤ ((ji57) : Int) := of_decide_eq_true zA; have q155 : (ji57) < (l0.length : Int) := of_decide_eq_true zA; obtain ⟨ad155, e155, hx155_0, hx155_1⟩ := at_T35 HR0.out (ji57) p155 q155; have hw155_1 := hx155_1; have hw155_0 := hx155_0; obtain rfl : ad145 = ad155 := (by injection e155); replace hx155_0 := zw HB.out hx155_0; replace hx155_1 := zw HB.out hx155_1; replace p155 := eq_true p155; replace q155 := eq_true q155
                           refine zs (fun w' => w'.cell? ⟨gb146, 0, none⟩ = some (.int .i64 ((rd_T35 l0 x5_2).f0)) ∧ w'.cell? ⟨gb146, 1, none⟩ = some (.int .i64 ((rd_T35 l0 x5_2).f1)) ∧ w'.cell? ⟨gb148, 0, none⟩ = some (.int .i64 ((rd_T35 l0 (ji15)).f0)) ∧ w'.cell? ⟨gb148, 1, none⟩ = some (.int .i64 ((rd_T35 l0 (ji15)).f1)) ∧ w'.cell? (ad145.add ((x8_3).toNat * 2)) = some (.int .i64 ((rd_T35 l0 x8_3).f0)) ∧ w'.cell? ⟨(ad145.add ((x8_3).toNat * 2)).block, (ad145.add ((x8_3).toNat * 2)).off + 1, none⟩ = some (.int .i64 ((rd_T35 l0 x8_3).f1)) ∧ w'.cell? (ad145.add (((ji57)).toNat * 2)) = some (.int .i64 ((rd_T35 l0 (ji57)).f0)) ∧ w'.cell? ⟨(ad145.add (((ji57)).toNat * 2)).block, (ad145.add (((ji57)).toNat * 2)).off + 1, none⟩ = some (.int .i64 ((rd_T35 l0 (ji57)).f1))) [] 24 ⟨(blk_cell BK146.out 0).trans rfl, (blk_cell BK146.out 1).trans rfl, (blk_cell BK148.out 0).trans rfl, (blk_cell BK148.out 1).trans rfl, ((HB.out.cell (World.block_lt_of_cell? w _ hw154_0)).trans hw154_0), ((HB.out.cell (World.block_lt_of_cell? w _ hw154_1)).trans hw154_1), ((HB.out.cell (World.block_lt_of_cell? w _ hw155_0)).trans hw155_0), ((HB.out.cell (World.block_lt_of_cell? w _ hw155_1)).trans hw155_1)⟩ (fun hHeld => ?_); refine with_tabW spec_l13Ok.tab19 spec_l13Ok.bits19 (fun HT_ HW_ => ?_)
                           generalize wr.drew = w62 at BK146 BK148 HB hx154_0 hx154_1 hx155_0 hx155_1 hHeld ⊢
                           refine zp 0 69 ?_
                           refine zp 1 70 ?_
                           refine zp 2 71 ?_
                           refine zp 3 72 ?_
                           refine zp 4 73 ?_
                           refine zp 5 74 ?_
                           refine zp 6 75 ?_
                           refine zp 7 76 ?_
                           refine zp 8 77 ?_
                           refine zp 11 80 ?_
                           refine zp 12 81 ?_
                           refine zp 13 82 ?_
                           refine zp 15 84 ?_
                           refine zp 16 85 ?_
                           refine zp 17 86 ?_
                           refine zp 18 87 ?_
                           refine zp 19 88 ?_
                           refine zp 20 89 ?_
                           refine zt 9 78 hHeld ?_
                           refine zt 10 79 hHeld ?_
                           refine zt 14 83 hHeld ?_
                           refine zt 21 90 hHeld ?_
                           refine zo 22 (some 91) (fun K hK => ?_)
                           refine goes_ Tryd.func28 (by kernel_rfl) rfl #[.agg #[.int .i64 ((rd_T35 l0 x5_2).f0), .int .i64 ((rd_T35 l0 x5_2).f1)], .agg #[.int .i64 ((rd_T35 l0 (ji15)).f0), .int .i64 ((rd_T35 l0 (ji15)).f1)], .agg #[.int .i64 ((rd_T35 l0 x8_3).f0), .int .i64 ((rd_T35 l0 x8_3).f1)], .agg #[.int .i64 ((rd_T35 l0 (ji57)).f0), .int .i64 ((rd_T35 l0 (ji57)).f1)]] (by rfl) rfl rfl (by (try simp only [List.map_toArray, List.map_cons, List.map_nil]); first | done | (simp only [hji15, hji57]; rfl) | rfl | (simp only [List.length_drop, List.length_take]; rfl)) ?_
                           with_reducible refine (spec_l13Meet.calls k3 ((rd_T35 l0 x5_2).f0) ((rd_T35 l0 x5_2).f1) ((rd_T35 l0 (ji15)).f0) ((rd_T35 l0 (ji15)).f1) ((rd_T35 l0 x8_3).f0) ((rd_T35 l0 x8_3).f1) ((rd_T35 l0 (ji57)).f0) ((rd_T35 l0 (ji57)).f1) true _ A60.out).mono ?_
                           rintro e w63 ⟨rfl, hb⟩
                           refine ⟨_, rfl, ?_⟩
                           have n0_ := zbl BK146.out hb; have n1_ := zbl BK148.out hb; have n2_ := zQ (below_step (zB3 HB.out GE146.out GE148.out) hb); clear BK146; clear BK148; clear HB; have BK146 := n0_; have BK148 := n1_; have HB := n2_; clear n0_ n1_ n2_
                           (try clear hb)
                           (try clear hb2)
                           (try clear hk)
                           (try clear hi)
                           refine hK.out _ _ ⟨(blk_cell BK146.out 0).trans rfl, (blk_cell BK146.out 1).trans rfl, (blk_cell BK148.out 0).trans rfl, (blk_cell BK148.out 1).trans rfl, ((HB.out.cell (World.block_lt_of_cell? w _ hw154_0)).trans hw154_0), ((HB.out.cell (World.block_lt_of_cell? w _ hw154_1)).trans hw154_1), ((HB.out.cell (World.block_lt_of_cell? w _ hw155_0)).trans hw155_0), ((HB.out.cell (World.block_lt_of_cell? w _ hw155_1)).trans hw155_1)⟩ (fun hHeld => ?_)
                           clear hK K
                           refine zn 91 ?_
                           refine zp 23 92 ?_
                           refine done_ (done_of HT_.out (by kernel_rfl)) ?_
                           try go_wp2
                           go_ret
                           exact ⟨by first | rfl | (simp [errW_none, errW_some] <;> rfl) | (simp only [← hji15, ← hji18, ← hji57]; first | rfl | (simp [errW_none, errW_some] <;> rfl)) | (simp [*, errW_none, errW_some] <;> rfl), zB3 HB.out GE146.out GE148.out⟩
                          ·replace c61 := Bool.eq_false_iff.mpr c61
                           subst c61
                           have H1 : (spec_l13Ok.l2 k3 l0 (l0.length : Int) x5_2 (wrap64 (x8_3 + 1)) ((rd_T35 l0 x5_2).f0) ((rd_T35 l0 x5_2).f1) ((rd_T35 l0 (ji15)).f0) ((rd_T35 l0 (ji15)).f1)) = some r := by rw [if_neg (show ¬ (false = true) by decide)] at H; exact H
                           clear H; have H := H1; clear H1; have H' := zQ H; clear H
                           try go_wp2
                           have n0_ := zQ (blk_drew BK146.out); have n1_ := zQ (blk_drew BK148.out); have n2_ := zQ (below_drew1 HB.out); clear BK146; clear BK148; clear HB; have BK146 := n0_; have BK148 := n1_; have HB := n2_; clear n0_ n1_ n2_; have p154 : 0 ≤ (x8_3 : Int) := of_decide_eq_true zA; have q154 : x8_3 < (l0.length : Int) := of_decide_eq_true zA; obtain ⟨ad154, e154, hx154_0, hx154_1⟩ := at_T35 HR0.out x8_3 p154 q154; have hw154_1 := hx154_1; have hw154_0 := hx154_0; obtain rfl : ad145 = ad154 := (by injection e154); replace hx154_0 := zw HB.out hx154_0; replace hx154_1 := zw HB.out hx154_1; replace p154 := eq_true p154; replace q154 := eq_true q154; have p155 : 0 ≤ ((ji57) : Int) := of_decide_eq_true zA; have q155 : (ji57) < (l0.length : Int) := of_decide_eq_true zA; obtain ⟨ad155, e155, hx155_0, hx155_1⟩ := at_T35 HR0.out (ji57) p155 q155; have hw155_1 := hx155_1; have hw155_0 := hx155_0; obtain rfl : ad145 = ad155 := (by injection e155); replace hx155_0 := zw HB.out hx155_0; replace hx155_1 := zw HB.out hx155_1; replace p155 := eq_true p155; replace q155 := eq_true q155
                           refine zs (fun w' => w'.cell? ⟨gb146, 0, none⟩ = some (.int .i64 ((rd_T35 l0 x5_2).f0)) ∧ w'.cell? ⟨gb146, 1, none⟩ = some (.int .i64 ((rd_T35 l0 x5_2).f1)) ∧ w'.cell? ⟨gb148, 0, none⟩ = some (.int .i64 ((rd_T35 l0 (ji15)).f0)) ∧ w'.cell? ⟨gb148, 1, none⟩ = some (.int .i64 ((rd_T35 l0 (ji15)).f1)) ∧ w'.cell? (ad145.add ((x8_3).toNat * 2)) = some (.int .i64 ((rd_T35 l0 x8_3).f0)) ∧ w'.cell? ⟨(ad145.add ((x8_3).toNat * 2)).block, (ad145.add ((x8_3).toNat * 2)).off + 1, none⟩ = some (.int .i64 ((rd_T35 l0 x8_3).f1)) ∧ w'.cell? (ad145.add (((ji57)).toNat * 2)) = some (.int .i64 ((rd_T35 l0 (ji57)).f0)) ∧ w'.cell? ⟨(ad145.add (((ji57)).toNat * 2)).block, (ad145.add (((ji57)).toNat * 2)).off + 1, none⟩ = some (.int .i64 ((rd_T35 l0 (ji57)).f1))) [] 24 ⟨(blk_cell BK146.out 0).trans rfl, (blk_cell BK146.out 1).trans rfl, (blk_cell BK148.out 0).trans rfl, (blk_cell BK148.out 1).trans rfl, ((HB.out.cell (World.block_lt_of_cell? w _ hw154_0)).trans hw154_0), ((HB.out.cell (World.block_lt_of_cell? w _ hw154_1)).trans hw154_1), ((HB.out.cell (World.block_lt_of_cell? w _ hw155_0)).trans hw155_0), ((HB.out.cell (World.block_lt_of_cell? w _ hw155_1)).trans hw155_1)⟩ (fun hHeld => ?_); refine with_tabW spec_l13Ok.tab19 spec_l13Ok.bits19 (fun HT_ HW_ => ?_)
                           generalize wr.drew = w64 at BK146 BK148 HB hx154_0 hx154_1 hx155_0 hx155_1 hHeld ⊢
                           refine zp 0 69 ?_
                           refine zp 1 70 ?_
                           refine zp 2 71 ?_
                           refine zp 3 72 ?_
                           refine zp 4 73 ?_
                           refine zp 5 74 ?_
                           refine zp 6 75 ?_
                           refine zp 7 76 ?_
                           refine zp 8 77 ?_
                           refine zp 11 80 ?_
                           refine zp 12 81 ?_
                           refine zp 13 82 ?_
                           refine zp 15 84 ?_
                           refine zp 16 85 ?_
                           refine zp 17 86 ?_
                           refine zp 18 87 ?_
                           refine zp 19 88 ?_
                           refine zp 20 89 ?_
                           refine zt 9 78 hHeld ?_
                           refine zt 10 79 hHeld ?_
                           refine zt 14 83 hHeld ?_
                           refine zt 21 90 hHeld ?_
                           refine zo 22 (some 91) (fun K hK => ?_)
                           refine goes_ Tryd.func28 (by kernel_rfl) rfl #[.agg #[.int .i64 ((rd_T35 l0 x5_2).f0), .int .i64 ((rd_T35 l0 x5_2).f1)], .agg #[.int .i64 ((rd_T35 l0 (ji15)).f0), .int .i64 ((rd_T35 l0 (ji15)).f1)], .agg #[.int .i64 ((rd_T35 l0 x8_3).f0), .int .i64 ((rd_T35 l0 x8_3).f1)], .agg #[.int .i64 ((rd_T35 l0 (ji57)).f0), .int .i64 ((rd_T35 l0 (ji57)).f1)]] (by rfl) rfl rfl (by (try simp only [List.map_toArray, List.map_cons, List.map_nil]); first | done | (simp only [hji15, hji57]; rfl) | rfl | (simp only [List.length_drop, List.length_take]; rfl)) ?_
                           with_reducible refine (spec_l13Meet.calls k3 ((rd_T35 l0 x5_2).f0) ((rd_T35 l0 x5_2).f1) ((rd_T35 l0 (ji15)).f0) ((rd_T35 l0 (ji15)).f1) ((rd_T35 l0 x8_3).f0) ((rd_T35 l0 x8_3).f1) ((rd_T35 l0 (ji57)).f0) ((rd_T35 l0 (ji57)).f1) false _ A60.out).mono ?_
                           rintro e w65 ⟨rfl, hb⟩
                           refine ⟨_, rfl, ?_⟩
                           have n0_ := zbl BK146.out hb; have n1_ := zbl BK148.out hb; have n2_ := zQ (below_step (zB3 HB.out GE146.out GE148.out) hb); clear BK146; clear BK148; clear HB; have BK146 := n0_; have BK148 := n1_; have HB := n2_; clear n0_ n1_ n2_
                           (try clear hb)
                           (try clear hb2)
                           (try clear hk)
                           (try clear hi)
                           refine hK.out _ _ ⟨(blk_cell BK146.out 0).trans rfl, (blk_cell BK146.out 1).trans rfl, (blk_cell BK148.out 0).trans rfl, (blk_cell BK148.out 1).trans rfl, ((HB.out.cell (World.block_lt_of_cell? w _ hw154_0)).trans hw154_0), ((HB.out.cell (World.block_lt_of_cell? w _ hw154_1)).trans hw154_1), ((HB.out.cell (World.block_lt_of_cell? w _ hw155_0)).trans hw155_0), ((HB.out.cell (World.block_lt_of_cell? w _ hw155_1)).trans hw155_1)⟩ (fun hHeld => ?_)
                           clear hK K
                           refine zn 91 ?_
                           refine zp 23 92 ?_
                           refine done_ (done_of HT_.out (by kernel_rfl)) ?_
                           try go_wp2
                           go_roundg k3
                           case measure => have := HK1.out; have := HK2.out; have := HK3.out; omega
                           case rel => exact ⟨(wrap64 (x8_3 + 1)), (zF), H', ⟨by have := HK1.out; have := HK2.out; have := HK3.out; omega⟩, ⟨zb BK146.out⟩, ⟨zb BK148.out⟩, ⟨zB3 HB.out GE146.out GE148.out⟩⟩
                         ·rw [if_neg c59] at H
                          exact absurd H (by simp)
                        ·rw [if_neg c58] at H
                         exact absurd H (by simp)
                      ·rw [if_neg c55] at H
                       exact absurd H (by simp)
                     ·rw [if_neg c54] at H
                      exact absurd H (by simp)
                    ·rw [if_neg c53] at H
                     have c53b0 : decide (x8_3 < (wrap64 ((l0.length : Int) - 1))) = false := decide_eq_false c53; clear c53; have H' := zQ H; clear H
                     try go_wp2
                     have n0_ := zQ (blk_drew BK146.out); have n1_ := zQ (blk_drew BK148.out); have n2_ := zQ (below_drew1 HB.out); clear BK146; clear BK148; clear HB; have BK146 := n0_; have BK148 := n1_; have HB := n2_; clear n0_ n1_ n2_
                     refine zs (fun w' => True) [] 24 trivial (fun hHeld => ?_); refine with_tabW spec_l13Ok.tab19 spec_l13Ok.bits19 (fun HT_ HW_ => ?_)
                     generalize wr.drew = w66 at BK146 BK148 HB hHeld ⊢
                     refine zp 0 69 ?_
                     refine zp 1 70 ?_
                     refine zp 2 71 ?_
                     refine zp 3 72 ?_
                     refine zp 4 73 ?_
                     refine zp 5 74 ?_
                     refine zp 6 75 ?_
                     refine zp 7 76 ?_
                     refine zp 8 77 ?_
                     refine zg 9 78 ?_
                     refine zg 10 79 ?_
                     refine zg 11 80 ?_
                     refine zg 12 81 ?_
                     refine zg 13 82 ?_
                     refine zg 14 83 ?_
                     refine zg 15 84 ?_
                     refine zg 16 85 ?_
                     refine zg 17 86 ?_
                     refine zg 18 87 ?_
                     refine zg 19 88 ?_
                     refine zg 20 89 ?_
                     refine zg 21 90 ?_
                     refine zg 22 91 ?_
                     refine zp 23 92 ?_
                     refine done_ (done_of HT_.out (by kernel_rfl)) ?_
                     try go_wp2
                     go_roundg k3
                     case measure => have := HK1.out; have := HK2.out; have := HK3.out; omega
                     case rel => exact ⟨(wrap64 (x8_3 + 1)), (zF), H', ⟨by have := HK1.out; have := HK2.out; have := HK3.out; omega⟩, ⟨zb BK146.out⟩, ⟨zb BK148.out⟩, ⟨zB3 HB.out GE146.out GE148.out⟩⟩
                  ·rw [if_neg c39] at H
                   have c39b0 : decide (x8_3 < (l0.length : Int)) = false := decide_eq_false c39; clear c39; have H' := zQ H; clear H
                   go_wp2
                   go_roundg k3
                   case measure => have := HK1.out; have := HK2.out; have := HK3.out; omega
                   case rel => exact ⟨(wrap64 (x5_2 + 1)), (zF), H', ⟨by have := HK1.out; have := HK2.out; have := HK3.out; omega⟩, ⟨zB3 HB.out GE146.out GE148.out⟩⟩
              ·rw [if_neg c20] at H
               exact absurd H (by simp)
             ·rw [if_neg c19] at H
              exact absurd H (by simp)
            ·rw [if_neg c17] at H
             exact absurd H (by simp)
           ·rw [if_neg c16] at H
            exact absurd H (by simp)
         ·rw [if_neg c13] at H
          exact absurd H (by simp)
        ·rw [if_neg c12] at H
         exact absurd H (by simp)
       ·rw [if_neg c11] at H
        have c11b0 : decide (x5_2 < (l0.length : Int)) = false := decide_eq_false c11; clear c11; replace H := Option.bind_eq_some_iff.mp H; obtain ⟨t144, A670, H⟩ := H; replace H : (some (decide (t144 > 0))) = some r := H; have A67 := zQ A670; clear A670; obtain rfl := Option.some.inj H
        go_wp2_with (first | ((with_reducible refine zgc 29 ?_); refine goesL_ (some 94) rfl rfl Tryd.func29 (by kernel_rfl) rfl #[.slice A0 l0.length c0] rfl zM ?_; (with_reducible refine (spec_l13Twice.calls k2 _ _ l0 t144 _ (zC HR0.out HB.out) HC0.out A67.out).mono ?_); rintro e w68 ⟨rfl, hb⟩; refine ⟨_, rfl, ?_⟩; replace HB := zbs HB.out hb; (try clear hb)))
        go_ret
        exact ⟨zE, zB HB.out⟩
 ·replace c3 := Bool.eq_false_iff.mpr c3
  subst c3
  have H1 : (some false) = some r := by rw [if_neg (show ¬ (false = true) by decide)] at H; exact H
  clear H; have H := H1; clear H1; obtain rfl := Option.some.inj H
  go_enter Tryd.func14, Tryd.ntmps14
  go_wp2_with (first | ((with_reducible refine zgc 26 ?_); refine goesL_ (some 12) rfl rfl Tryd.func26 (by kernel_rfl) rfl #[.int .i64 (l0.length : Int), .int .i64 3, .int .i64 8] rfl zM ?_; (with_reducible refine (spec_l00In.calls (l0.length : Int) 3 8 false _ A2.out).mono ?_); rintro e w' ⟨rfl, ⟨nd, rfl⟩⟩; refine ⟨_, rfl, ?_⟩))
  go_ret
  exact ⟨zE, zB HB.out⟩

end Go.Proofs.YtchngbjpjbahiaaDoor.PFnExactReadSail
