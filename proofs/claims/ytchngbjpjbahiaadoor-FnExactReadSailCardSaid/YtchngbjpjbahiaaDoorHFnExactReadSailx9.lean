/- The walks of the functions that the law reaches: each computes what its Lean function says. No condition beyond each contract's own. -/
import Derived.Test.YtchngbjpjbahiaaDoorHFnExactReadSailx0
import Derived.Test.YtchngbjpjbahiaaDoorHFnExactReadSailx6
import Derived.Test.YtchngbjpjbahiaaDoorHFnExactReadSailx7
import Derived.Test.YtchngbjpjbahiaaDoorHFnExactReadSailx8
namespace Go.Proofs.YtchngbjpjbahiaaDoor.PFnExactReadSail
open Go.RowKit Go.Proofs.YtchngbjpjbahiaaDoorW.PrintWords Go.Proofs.YtchngbjpjbahiaaDoorW.PrintLast Go.Proofs.YtchngbjpjbahiaaDoorW.PrintMore
attribute [local go_sem] max2_int min2_int max_two min_two max_three min_three max_four min_four   -- for this text's walks alone
set_option linter.unusedVariables false
set_option linter.unusedSimpArgs false

/-! ### impl_ValidSail: function 17 -/
mutual
def impl_ValidSail.j0 : Nat → List (S35) → Int → Bool → Option (Bool)
 | 0, _, _, _ => none
 | k + 1, x0, x3, x16 => if x16 = true then (some false) else (impl_ValidSail.l0 k x0 x3 x0 (x0.length : Int) 0)
def impl_ValidSail.l0 : Nat → List (S35) → Int → List (S35) → Int → Int → Option (Bool)
 | 0, _, _, _, _, _ => none
 | k + 1, x0, x3, x17, x18, x19 => if x19 < x18 then (if 0 ≤ x19 then (if x19 < (x17.length : Int) then ((impl_within.f ((rd_T35 x17 x19).f0) 0 2000).bind fun t245 => (if t245 = true then ((impl_within.f ((rd_T35 x17 x19).f1) 0 2000).bind fun t246 => (if t246 = true then (impl_ValidSail.l0 k x0 x3 x17 x18 (wrap64 (x19 + 1))) else (some false))) else (some false))) else (none)) else (none)) else (impl_ValidSail.l1 k x0 x3 (x0.length : Int) 0)
def impl_ValidSail.l1 : Nat → List (S35) → Int → Int → Int → Option (Bool)
 | 0, _, _, _, _ => none
 | k + 1, x0, x3, x35, x36 => if x36 < x35 then (if 0 ≤ x36 then (if x36 < (x0.length : Int) then (if x3 = 0 then (none) else (if 0 ≤ (Int.tmod (wrap64 (x36 + 1)) x3) then (if (Int.tmod (wrap64 (x36 + 1)) x3) < (x0.length : Int) then (if 0 ≤ (Int.tmod (wrap64 (x36 + 2)) x3) then (if (Int.tmod (wrap64 (x36 + 2)) x3) < (x0.length : Int) then ((impl_turnAt.f ((rd_T35 x0 x36).f0) ((rd_T35 x0 x36).f1) ((rd_T35 x0 (Int.tmod (wrap64 (x36 + 1)) x3)).f0) ((rd_T35 x0 (Int.tmod (wrap64 (x36 + 1)) x3)).f1) ((rd_T35 x0 (Int.tmod (wrap64 (x36 + 2)) x3)).f0) ((rd_T35 x0 (Int.tmod (wrap64 (x36 + 2)) x3)).f1)).bind fun t250 => (if t250 = 0 then (some false) else (impl_ValidSail.l1 k x0 x3 x35 (wrap64 (x36 + 1))))) else (none)) else (none)) else (none)) else (none))) else (none)) else (none)) else (impl_ValidSail.l2 k x0 x3 (x0.length : Int) 0)
def impl_ValidSail.l2 : Nat → List (S35) → Int → Int → Int → Option (Bool)
 | 0, _, _, _, _ => none
 | k + 1, x0, x3, x61, x62 => if x62 < x61 then (impl_ValidSail.l3 k x0 x3 x62 (wrap64 (x62 + 2)) x61 x62) else ((impl_twiceSail.f k x0).bind fun t251 => (some (decide (t251 > 0))))
def impl_ValidSail.l3 : Nat → List (S35) → Int → Int → Int → Int → Int → Option (Bool)
 | 0, _, _, _, _, _, _ => none
 | k + 1, x0, x3, x7, x8, x61, x62 => if x8 < x3 then (if x3 = 0 then (none) else (if (Int.tmod (wrap64 (x8 + 1)) x3) = x7 then (impl_ValidSail.l3 k x0 x3 x7 (wrap64 (x8 + 1)) x61 x62) else (if 0 ≤ x7 then (if x7 < (x0.length : Int) then (if 0 ≤ (wrap64 (x7 + 1)) then (if (wrap64 (x7 + 1)) < (x0.length : Int) then (if 0 ≤ x8 then (if x8 < (x0.length : Int) then (if 0 ≤ (Int.tmod (wrap64 (x8 + 1)) x3) then (if (Int.tmod (wrap64 (x8 + 1)) x3) < (x0.length : Int) then ((impl_edgesMeet.f k ((rd_T35 x0 x7).f0) ((rd_T35 x0 x7).f1) ((rd_T35 x0 (wrap64 (x7 + 1))).f0) ((rd_T35 x0 (wrap64 (x7 + 1))).f1) ((rd_T35 x0 x8).f0) ((rd_T35 x0 x8).f1) ((rd_T35 x0 (Int.tmod (wrap64 (x8 + 1)) x3)).f0) ((rd_T35 x0 (Int.tmod (wrap64 (x8 + 1)) x3)).f1)).bind fun t256 => (if t256 = true then (some false) else (impl_ValidSail.l3 k x0 x3 x7 (wrap64 (x8 + 1)) x61 x62))) else (none)) else (none)) else (none)) else (none)) else (none)) else (none)) else (none)) else (none)))) else (impl_ValidSail.l2 k x0 x3 x61 (wrap64 (x62 + 1)))
end
def impl_ValidSail.f (k : Nat) (l0 : List (S35)) : Option (Bool) := if (l0.length : Int) < 3 then (impl_ValidSail.j0 k l0 (l0.length : Int) true) else (impl_ValidSail.j0 k l0 (l0.length : Int) (decide ((l0.length : Int) > 8)))
theorem impl_ValidSail.mono_l : ∀ k, (∀ y0 y1 y2, LeO (impl_ValidSail.j0 k y0 y1 y2) (impl_ValidSail.j0 (k + 1) y0 y1 y2)) ∧ (∀ y0 y1 y2 y3 y4, LeO (impl_ValidSail.l0 k y0 y1 y2 y3 y4) (impl_ValidSail.l0 (k + 1) y0 y1 y2 y3 y4)) ∧ (∀ y0 y1 y2 y3, LeO (impl_ValidSail.l1 k y0 y1 y2 y3) (impl_ValidSail.l1 (k + 1) y0 y1 y2 y3)) ∧ (∀ y0 y1 y2 y3, LeO (impl_ValidSail.l2 k y0 y1 y2 y3) (impl_ValidSail.l2 (k + 1) y0 y1 y2 y3)) ∧ (∀ y0 y1 y2 y3 y4 y5, LeO (impl_ValidSail.l3 k y0 y1 y2 y3 y4 y5) (impl_ValidSail.l3 (k + 1) y0 y1 y2 y3 y4 y5))
 | 0 => ⟨fun _ _ _ r h => by simp [impl_ValidSail.j0] at h, fun _ _ _ _ _ r h => by simp [impl_ValidSail.l0] at h, fun _ _ _ _ r h => by simp [impl_ValidSail.l1] at h, fun _ _ _ _ r h => by simp [impl_ValidSail.l2] at h, fun _ _ _ _ _ _ r h => by simp [impl_ValidSail.l3] at h⟩
 | k + 1 => by
  obtain ⟨ih0, ih1, ih2, ih3, ih4⟩ := impl_ValidSail.mono_l k
  refine ⟨?_, ?_, ?_, ?_, ?_⟩
  ·intro y0 y1 y2
   unfold impl_ValidSail.j0
   (with_reducible repeat' first | apply ih0 | apply ih1 | apply ih2 | apply ih3 | apply ih4 | apply impl_edgesMeet.mono | apply impl_twiceSail.mono | apply LeO.refl | apply LeO.none | refine LeO.ite ?_ ?_ | refine LeO.bind ?_ (fun _ => ?_))
   repeat' first | apply ih0 | apply ih1 | apply ih2 | apply ih3 | apply ih4 | apply impl_edgesMeet.mono | apply impl_twiceSail.mono | apply LeO.none | refine LeO.ite ?_ ?_ | refine LeO.bind ?_ (fun _ => ?_)
  ·intro y0 y1 y2 y3 y4
   unfold impl_ValidSail.l0
   (with_reducible repeat' first | apply ih0 | apply ih1 | apply ih2 | apply ih3 | apply ih4 | apply impl_edgesMeet.mono | apply impl_twiceSail.mono | apply LeO.refl | apply LeO.none | refine LeO.ite ?_ ?_ | refine LeO.bind ?_ (fun _ => ?_))
   repeat' first | apply ih0 | apply ih1 | apply ih2 | apply ih3 | apply ih4 | apply impl_edgesMeet.mono | apply impl_twiceSail.mono | apply LeO.none | refine LeO.ite ?_ ?_ | refine LeO.bind ?_ (fun _ => ?_)
  ·intro y0 y1 y2 y3
   unfold impl_ValidSail.l1
   (with_reducible repeat' first | apply ih0 | apply ih1 | apply ih2 | apply ih3 | apply ih4 | apply impl_edgesMeet.mono | apply impl_twiceSail.mono | apply LeO.refl | apply LeO.none | refine LeO.ite ?_ ?_ | refine LeO.bind ?_ (fun _ => ?_))
   repeat' first | apply ih0 | apply ih1 | apply ih2 | apply ih3 | apply ih4 | apply impl_edgesMeet.mono | apply impl_twiceSail.mono | apply LeO.none | refine LeO.ite ?_ ?_ | refine LeO.bind ?_ (fun _ => ?_)
  ·intro y0 y1 y2 y3
   unfold impl_ValidSail.l2
   (with_reducible repeat' first | apply ih0 | apply ih1 | apply ih2 | apply ih3 | apply ih4 | apply impl_edgesMeet.mono | apply impl_twiceSail.mono | apply LeO.refl | apply LeO.none | refine LeO.ite ?_ ?_ | refine LeO.bind ?_ (fun _ => ?_))
   repeat' first | apply ih0 | apply ih1 | apply ih2 | apply ih3 | apply ih4 | apply impl_edgesMeet.mono | apply impl_twiceSail.mono | apply LeO.none | refine LeO.ite ?_ ?_ | refine LeO.bind ?_ (fun _ => ?_)
  ·intro y0 y1 y2 y3 y4 y5
   unfold impl_ValidSail.l3
   (with_reducible repeat' first | apply ih0 | apply ih1 | apply ih2 | apply ih3 | apply ih4 | apply impl_edgesMeet.mono | apply impl_twiceSail.mono | apply LeO.refl | apply LeO.none | refine LeO.ite ?_ ?_ | refine LeO.bind ?_ (fun _ => ?_))
   repeat' first | apply ih0 | apply ih1 | apply ih2 | apply ih3 | apply ih4 | apply impl_edgesMeet.mono | apply impl_twiceSail.mono | apply LeO.none | refine LeO.ite ?_ ?_ | refine LeO.bind ?_ (fun _ => ?_)
theorem impl_ValidSail.mono : ∀ a0 k, LeO (impl_ValidSail.f k a0) (impl_ValidSail.f (k + 1) a0) := by
 intro a0 k
 obtain ⟨ih0, ih1, ih2, ih3, ih4⟩ := impl_ValidSail.mono_l k
 unfold impl_ValidSail.f
 (with_reducible repeat' first | apply ih0 | apply ih1 | apply ih2 | apply ih3 | apply ih4 | apply impl_edgesMeet.mono | apply impl_twiceSail.mono | apply LeO.refl | apply LeO.none | refine LeO.ite ?_ ?_ | refine LeO.bind ?_ (fun _ => ?_))
 repeat' first | apply ih0 | apply ih1 | apply ih2 | apply ih3 | apply ih4 | apply impl_edgesMeet.mono | apply impl_twiceSail.mono | apply LeO.none | refine LeO.ite ?_ ?_ | refine LeO.bind ?_ (fun _ => ?_)
def impl_ValidSail.T13 : Bool × List (List Nat × List Nat) := (true, [([], []), ([], []), ([0, 1], [0, 1]), ([2], [2]), ([], []), ([], []), ([5], [5]), ([], []), ([6, 7], [6, 7]), ([4, 8], [4, 8]), ([9], [9]), ([], []), ([], []), ([12], [12]), ([], []), ([13, 14], [13, 14]), ([11, 15], [11, 15]), ([16], [16]), ([3, 10, 17], [3, 10, 17]), ([18], [18])])
def impl_ValidSail.B13 : List Nat := [0, 0, 3, 7, 0, 0, 32, 0, 224, 496, 1008, 0, 0, 4096, 0, 28672, 63488, 129024, 262143, 524287]
theorem impl_ValidSail.tab13 : rtab .any (opsOf Tryd.f17 13) = impl_ValidSail.T13 := by kernel_rfl
theorem impl_ValidSail.bits13 : waitsOk impl_ValidSail.T13.2 impl_ValidSail.B13 = true := by kernel_rfl
def impl_ValidSail.T22 : Bool × List (List Nat × List Nat) := (true, [([], []), ([0], [0]), ([], []), ([1, 2], [1, 2]), ([], []), ([3, 4], [3, 4]), ([5], [5]), ([6], [6]), ([6], [6]), ([7, 8, 6], [6, 7, 8]), ([9, 6], [6, 9]), ([6], [6]), ([6], [6]), ([12, 6], [6, 12]), ([11, 13, 6], [6, 11, 13]), ([14, 6], [6, 14]), ([6], [6]), ([6], [6]), ([16, 17, 6], [6, 16, 17]), ([18, 6], [6, 18]), ([6], [6]), ([6], [6]), ([21, 6], [6, 21]), ([6], [6]), ([22, 23, 6], [6, 22, 23]), ([20, 24, 6], [6, 20, 24]), ([25, 6], [6, 25]), ([10, 15, 19, 26, 6, 6], [6, 10, 15, 19, 26]), ([6, 27], [6, 27])])
def impl_ValidSail.B22 : List Nat := [0, 1, 0, 7, 0, 31, 63, 127, 127, 511, 1023, 127, 127, 4223, 14463, 30847, 127, 127, 196735, 458879, 127, 127, 2097279, 127, 14680191, 32505983, 66060415, 134217727, 268435455]
theorem impl_ValidSail.tab22 : rtab .any (opsOf Tryd.f17 22) = impl_ValidSail.T22 := by kernel_rfl
theorem impl_ValidSail.bits22 : waitsOk impl_ValidSail.T22.2 impl_ValidSail.B22 = true := by kernel_rfl
set_option maxHeartbeats 8000000 in
set_option maxRecDepth 100000 in
theorem impl_ValidSail.calls (k : Nat) (A0 : Option Addr) (c0 : Nat) (l0 : List (S35)) (r : Bool) (w : World) (hr0 : Kd.C k35 w A0 l0.length l0) (hc0 : l0.length ≤ c0) (h : impl_ValidSail.f k l0 = some r) :
  Calls Tryd.prog 17 #[.slice A0 l0.length c0] w fun e w' => e = .returned (.bool r) ∧ Below w.heap.size w w' := by
 have hu35 := Tryd.underlying35
 have HR0 := zQ hr0
 have HC0 := zQ hc0
 clear hr0 hc0
 have HB := zQ (Below.refl w.heap.size w)
 have H : (if (l0.length : Int) < 3 then (impl_ValidSail.j0 k l0 (l0.length : Int) true) else (impl_ValidSail.j0 k l0 (l0.length : Int) (decide ((l0.length : Int) > 8)))) = some r := h
 clear h
 have HC2 := zQ H
 clear H
 go_enter Tryd.func17, Tryd.ntmps17
 go_upto_region 2 with (fail)
 go_cut [16] (fun v16 wc => ∃ (kq : Nat) (x16_1 : Bool), v16 = .bool x16_1 ∧ Aside0 (impl_ValidSail.j0 kq l0 (l0.length : Int) x16_1 = some r) ∧ Aside0 (kq ≤ k) ∧ Aside0 (Below w.heap.size w wc))
 case first =>
  have H := HC2.out; clear HC2
  by_cases c3 : (l0.length : Int) < 3
  ·rw [if_pos c3] at H
   have c3b0 : decide ((l0.length : Int) < 3) = true := decide_eq_true c3; have c3b1 : decide (l0.length < 3) = true := decide_eq_true (by omega); clear c3
   (first | rw [c3b0] | (simp only [i64_w, i32_w]; rw [c3b0]) | skip)
   have H' := zQ H; clear H
   go_wp2
   go_meet
   case rel => exact ⟨_, (true), (zF), H', ⟨by first | omega | exact Nat.le_refl _⟩, ⟨zB HB.out⟩⟩
  ·rw [if_neg c3] at H
   have c3b0 : decide ((l0.length : Int) < 3) = false := decide_eq_false c3; have c3b1 : decide (l0.length < 3) = false := decide_eq_false (by omega); clear c3
   (first | rw [c3b0] | (simp only [i64_w, i32_w]; rw [c3b0]) | skip)
   have H' := zQ H; clear H
   go_wp2
   go_meet
   case rel => exact ⟨_, (decide ((l0.length : Int) > 8)), (zF), H', ⟨by first | omega | exact Nat.le_refl _⟩, ⟨zB HB.out⟩⟩
 case rest =>
  clear HC2; (try clear c1); (try clear p2); (try clear c3); (try clear c3b0); (try clear c3b1); obtain ⟨kq, x16_1, rfl, HA, HJ1, HB⟩ := hcut
  cases kq with
  | zero => exact absurd HA.out (by simp [impl_ValidSail.j0])
  | succ kj1 =>
   have H := HA.out; clear HA
   simp only [impl_ValidSail.j0] at H
   by_cases c4 : x16_1 = true
   ·subst c4
    have H1 : (some false) = some r := by rw [if_pos rfl] at H; exact H
    clear H; have H := H1; clear H1; obtain rfl := Option.some.inj H
    go_wp2
    go_ret
    exact ⟨zE, zB HB.out⟩
   ·replace c4 := Bool.eq_false_iff.mpr c4
    subst c4
    have H1 : (impl_ValidSail.l0 kj1 l0 (l0.length : Int) l0 (l0.length : Int) 0) = some r := by rw [if_neg (show ¬ (false = true) by decide)] at H; exact H
    clear H; have H := H1; clear H1; have H' := zQ H; clear H
    go_wp2
    go_loopg [19] kj1 (fun kq v19 w' => ∃ (x19_2 : Int), v19 = .int .i64 x19_2 ∧ Aside0 (impl_ValidSail.l0 kq l0 (l0.length : Int) l0 (l0.length : Int) x19_2 = some r) ∧ Aside0 (kq ≤ kj1) ∧ Aside0 (Below w.heap.size w w'))
    case atStart => exact ⟨(0), (zF), H', ⟨Nat.le_refl _⟩, ⟨zB HB.out⟩⟩
    case round =>
     clear H'; (try clear c1); (try clear p2); (try clear c3); (try clear c3b0); (try clear c3b1); (try clear c4); (try clear p2); obtain ⟨x19_2, rfl, HA, HK2, HB⟩ := hrel
     cases gk with
     | zero => exact absurd HA.out (by simp [impl_ValidSail.l0])
     | succ k2 =>
      have H := HA.out; clear HA
      simp only [impl_ValidSail.l0] at H
      by_cases c5 : x19_2 < (l0.length : Int)
      ·rw [if_pos c5] at H
       have c5b0 : decide (x19_2 < (l0.length : Int)) = true := decide_eq_true c5; clear c5
       by_cases c6 : 0 ≤ x19_2
       ·rw [if_pos c6] at H
        have c6b0 : decide (0 ≤ x19_2) = true := decide_eq_true c6; clear c6
        by_cases c7 : x19_2 < (l0.length : Int)
        ·rw [if_pos c7] at H
         have c7b0 : decide (x19_2 < (l0.length : Int)) = true := decide_eq_true c7; clear c7; replace H := Option.bind_eq_some_iff.mp H; obtain ⟨t245, A80, H⟩ := H; replace H : (if t245 = true then ((impl_within.f ((rd_T35 l0 x19_2).f1) 0 2000).bind fun t246 => (if t246 = true then (impl_ValidSail.l0 k2 l0 (l0.length : Int) l0 (l0.length : Int) (wrap64 (x19_2 + 1))) else (some false))) else (some false)) = some r := H; have A8 := zQ A80; clear A80
         by_cases c9 : t245 = true
         ·subst c9
          have H1 : ((impl_within.f ((rd_T35 l0 x19_2).f1) 0 2000).bind fun t246 => (if t246 = true then (impl_ValidSail.l0 k2 l0 (l0.length : Int) l0 (l0.length : Int) (wrap64 (x19_2 + 1))) else (some false))) = some r := by rw [if_pos rfl] at H; exact H
          clear H; have H := H1; clear H1; replace H := Option.bind_eq_some_iff.mp H; obtain ⟨t246, A100, H⟩ := H; replace H : (if t246 = true then (impl_ValidSail.l0 k2 l0 (l0.length : Int) l0 (l0.length : Int) (wrap64 (x19_2 + 1))) else (some false)) = some r := H; have A10 := zQ A100; clear A100
          by_cases c11 : t246 = true
          ·subst c11
           have H1 : (impl_ValidSail.l0 k2 l0 (l0.length : Int) l0 (l0.length : Int) (wrap64 (x19_2 + 1))) = some r := by rw [if_pos rfl] at H; exact H
           clear H; have H := H1; clear H1; have H' := zQ H; clear H; have p243 : 0 ≤ (x19_2 : Int) := of_decide_eq_true zA; have q243 : x19_2 < (l0.length : Int) := of_decide_eq_true zA; obtain ⟨ad243, e243, hx243_0, hx243_1⟩ := at_T35 HR0.out x19_2 p243 q243
           cases e243
           replace hx243_0 := zw HB.out hx243_0; replace hx243_1 := zw HB.out hx243_1; replace p243 := eq_true p243; replace q243 := eq_true q243
           go_wp2_with (first | ((with_reducible refine zd 5 ?_); refine zbx (N := 5) (cs := #[.int .i64 0, .int .i64 0]) (t := 35) ?_; intro gb244 hg w12 hbox hb; have BK244 := zQ (hbox); have GW244 := zgz hg HB.out; have GE244 := GW244; replace HB := zbs HB.out hb; clear hb hbox hg; have hcz13_0 := zc0 BK244.out; have hcz13_1 := zc1 BK244.out; have hfz13_0 := zfz BK244.out 0; have hfz13_1 := zfz BK244.out 1) | ((with_reducible refine zgc 31 ?_); refine goesL_ (some 25) rfl rfl Tryd.func31 (by kernel_rfl) rfl #[.int .i64 ((rd_T35 l0 x19_2).f0), .int .i64 0, .int .i64 2000] rfl zM ?_; (with_reducible refine (impl_within.calls ((rd_T35 l0 x19_2).f0) 0 2000 true _ A8.out).mono ?_); rintro e w' ⟨rfl, ⟨nd, rfl⟩⟩; refine ⟨_, rfl, ?_⟩) | (go_at_call 31; (with_reducible refine (impl_within.calls ((rd_T35 l0 x19_2).f1) 0 2000 true _ A10.out).mono ?_); rintro e w' ⟨rfl, ⟨nd, rfl⟩⟩))
           go_roundg k2
           case measure => have := HJ1.out; have := HK2.out; omega
           case rel => exact ⟨(wrap64 (x19_2 + 1)), (zF), H', ⟨by have := HJ1.out; have := HK2.out; omega⟩, ⟨zB2 HB.out GE244.out⟩⟩
          ·replace c11 := Bool.eq_false_iff.mpr c11
           subst c11
           have H1 : (some false) = some r := by rw [if_neg (show ¬ (false = true) by decide)] at H; exact H
           clear H; have H := H1; clear H1; obtain rfl := Option.some.inj H; have p243 : 0 ≤ (x19_2 : Int) := of_decide_eq_true zA; have q243 : x19_2 < (l0.length : Int) := of_decide_eq_true zA; obtain ⟨ad243, e243, hx243_0, hx243_1⟩ := at_T35 HR0.out x19_2 p243 q243
           cases e243
           replace hx243_0 := zw HB.out hx243_0; replace hx243_1 := zw HB.out hx243_1; replace p243 := eq_true p243; replace q243 := eq_true q243
           go_wp2_with (first | ((with_reducible refine zd 5 ?_); refine zbx (N := 5) (cs := #[.int .i64 0, .int .i64 0]) (t := 35) ?_; intro gb244 hg w14 hbox hb; have BK244 := zQ (hbox); have GW244 := zgz hg HB.out; have GE244 := GW244; replace HB := zbs HB.out hb; clear hb hbox hg; have hcz15_0 := zc0 BK244.out; have hcz15_1 := zc1 BK244.out; have hfz15_0 := zfz BK244.out 0; have hfz15_1 := zfz BK244.out 1) | ((with_reducible refine zgc 31 ?_); refine goesL_ (some 25) rfl rfl Tryd.func31 (by kernel_rfl) rfl #[.int .i64 ((rd_T35 l0 x19_2).f0), .int .i64 0, .int .i64 2000] rfl zM ?_; (with_reducible refine (impl_within.calls ((rd_T35 l0 x19_2).f0) 0 2000 true _ A8.out).mono ?_); rintro e w' ⟨rfl, ⟨nd, rfl⟩⟩; refine ⟨_, rfl, ?_⟩) | (go_at_call 31; (with_reducible refine (impl_within.calls ((rd_T35 l0 x19_2).f1) 0 2000 false _ A10.out).mono ?_); rintro e w' ⟨rfl, ⟨nd, rfl⟩⟩))
           go_ret
           exact ⟨zE, zB2 HB.out GE244.out⟩
         ·replace c9 := Bool.eq_false_iff.mpr c9
          subst c9
          have H1 : (some false) = some r := by rw [if_neg (show ¬ (false = true) by decide)] at H; exact H
          clear H; have H := H1; clear H1; obtain rfl := Option.some.inj H; have p243 : 0 ≤ (x19_2 : Int) := of_decide_eq_true zA; have q243 : x19_2 < (l0.length : Int) := of_decide_eq_true zA; obtain ⟨ad243, e243, hx243_0, hx243_1⟩ := at_T35 HR0.out x19_2 p243 q243
          cases e243
          replace hx243_0 := zw HB.out hx243_0; replace hx243_1 := zw HB.out hx243_1; replace p243 := eq_true p243; replace q243 := eq_true q243
          go_wp2_with (first | ((with_reducible refine zd 5 ?_); refine zbx (N := 5) (cs := #[.int .i64 0, .int .i64 0]) (t := 35) ?_; intro gb244 hg w16 hbox hb; have BK244 := zQ (hbox); have GW244 := zgz hg HB.out; have GE244 := GW244; replace HB := zbs HB.out hb; clear hb hbox hg; have hcz17_0 := zc0 BK244.out; have hcz17_1 := zc1 BK244.out; have hfz17_0 := zfz BK244.out 0; have hfz17_1 := zfz BK244.out 1) | ((with_reducible refine zgc 31 ?_); refine goesL_ (some 25) rfl rfl Tryd.func31 (by kernel_rfl) rfl #[.int .i64 ((rd_T35 l0 x19_2).f0), .int .i64 0, .int .i64 2000] rfl zM ?_; (with_reducible refine (impl_within.calls ((rd_T35 l0 x19_2).f0) 0 2000 false _ A8.out).mono ?_); rintro e w' ⟨rfl, ⟨nd, rfl⟩⟩; refine ⟨_, rfl, ?_⟩))
          go_ret
          exact ⟨zE, zB2 HB.out GE244.out⟩
        ·rw [if_neg c7] at H
         exact absurd H (by simp)
       ·rw [if_neg c6] at H
        exact absurd H (by simp)
      ·rw [if_neg c5] at H
       have c5b0 : decide (x19_2 < (l0.length : Int)) = false := decide_eq_false c5; clear c5; have H' := zQ H; clear H
       go_wp2
       go_loopg [36] k2 (fun kq v36 w' => ∃ (x36_3 : Int), v36 = .int .i64 x36_3 ∧ Aside0 (impl_ValidSail.l1 kq l0 (l0.length : Int) (l0.length : Int) x36_3 = some r) ∧ Aside0 (kq ≤ k2) ∧ Aside0 (Below w.heap.size w w'))
       case atStart => exact ⟨(0), (zF), H', ⟨Nat.le_refl _⟩, ⟨zB HB.out⟩⟩
       case round =>
        clear H'; (try clear c1); (try clear p2); (try clear q2); (try clear hx2); (try clear c3); (try clear c3b0); (try clear c3b1); (try clear c4); (try clear c5); (try clear c5b0); (try clear c6); (try clear c6b0); (try clear p6); (try clear c7); (try clear c7b0); (try clear c9); (try clear c11); (try clear c17); (try clear hcz13_0); (try clear hcz13_1); (try clear hcz15_0); (try clear hcz15_1); (try clear hcz17_0); (try clear hcz17_1); (try clear hfz13_0); (try clear hfz13_1); (try clear hfz15_0); (try clear hfz15_1); (try clear hfz17_0); (try clear hfz17_1); (try clear hx243_0); (try clear hx243_1); (try clear p2); (try clear p243); (try clear q243); obtain ⟨x36_3, rfl, HA, HK3, HB⟩ := hrel
        cases gk with
        | zero => exact absurd HA.out (by simp [impl_ValidSail.l1])
        | succ k3 =>
         have H := HA.out; clear HA
         simp only [impl_ValidSail.l1] at H
         by_cases c18 : x36_3 < (l0.length : Int)
         ·rw [if_pos c18] at H
          have c18b0 : decide (x36_3 < (l0.length : Int)) = true := decide_eq_true c18; clear c18
          by_cases c19 : 0 ≤ x36_3
          ·rw [if_pos c19] at H
           have c19b0 : decide (0 ≤ x36_3) = true := decide_eq_true c19; clear c19
           by_cases c20 : x36_3 < (l0.length : Int)
           ·rw [if_pos c20] at H
            have c20b0 : decide (x36_3 < (l0.length : Int)) = true := decide_eq_true c20; clear c20
            by_cases c21 : (l0.length : Int) = 0
            ·rw [if_pos c21] at H
             exact absurd H (by simp)
            ·rw [if_neg c21] at H
             have c21b0 : ((l0.length : Int) == 0) = false := beq_eq_false_iff_ne.mpr c21; have c21b1 : ((l0.length : Int) != 0) = true := bne_iff_ne.mpr c21
             have c21b2 : ¬ (l0 = []) := fun h_ => c21 (by rw [h_]; rfl)
             obtain ⟨ji22, hji22⟩ : ∃ j_ : Int, (Int.tmod (wrap64 (x36_3 + 1)) (l0.length : Int)) = j_ := ⟨_, rfl⟩
             replace H : (if 0 ≤ (ji22) then (if (ji22) < (l0.length : Int) then (if 0 ≤ (Int.tmod (wrap64 (x36_3 + 2)) (l0.length : Int)) then (if (Int.tmod (wrap64 (x36_3 + 2)) (l0.length : Int)) < (l0.length : Int) then ((impl_turnAt.f ((rd_T35 l0 x36_3).f0) ((rd_T35 l0 x36_3).f1) ((rd_T35 l0 (ji22)).f0) ((rd_T35 l0 (ji22)).f1) ((rd_T35 l0 (Int.tmod (wrap64 (x36_3 + 2)) (l0.length : Int))).f0) ((rd_T35 l0 (Int.tmod (wrap64 (x36_3 + 2)) (l0.length : Int))).f1)).bind fun t250 => (if t250 = 0 then (some false) else (impl_ValidSail.l1 k3 l0 (l0.length : Int) (l0.length : Int) (wrap64 (x36_3 + 1))))) else (none)) else (none)) else (none)) else (none)) = some r := by first | (rw [hji22] at H; exact H) | (simp only [hji22] at H ⊢; exact H)
             by_cases c23 : 0 ≤ (ji22)
             ·rw [if_pos c23] at H
              have c23b0 : decide (0 ≤ (ji22)) = true := decide_eq_true c23; clear c23
              by_cases c24 : (ji22) < (l0.length : Int)
              ·rw [if_pos c24] at H
               have c24b0 : decide ((ji22) < (l0.length : Int)) = true := decide_eq_true c24; clear c24; obtain ⟨ji25, hji25⟩ : ∃ j_ : Int, (Int.tmod (wrap64 (x36_3 + 2)) (l0.length : Int)) = j_ := ⟨_, rfl⟩
               replace H : (if 0 ≤ (ji25) then (if (ji25) < (l0.length : Int) then ((impl_turnAt.f ((rd_T35 l0 x36_3).f0) ((rd_T35 l0 x36_3).f1) ((rd_T35 l0 (ji22)).f0) ((rd_T35 l0 (ji22)).f1) ((rd_T35 l0 (ji25)).f0) ((rd_T35 l0 (ji25)).f1)).bind fun t250 => (if t250 = 0 then (some false) else (impl_ValidSail.l1 k3 l0 (l0.length : Int) (l0.length : Int) (wrap64 (x36_3 + 1))))) else (none)) else (none)) = some r := by first | (rw [hji25] at H; exact H) | (simp only [hji25] at H ⊢; exact H)
               by_cases c26 : 0 ≤ (ji25)
               ·rw [if_pos c26] at H
                have c26b0 : decide (0 ≤ (ji25)) = true := decide_eq_true c26; clear c26
                by_cases c27 : (ji25) < (l0.length : Int)
                ·rw [if_pos c27] at H
                 have c27b0 : decide ((ji25) < (l0.length : Int)) = true := decide_eq_true c27; clear c27; replace H := Option.bind_eq_some_iff.mp H; obtain ⟨t250, A280, H⟩ := H; replace H : (if t250 = 0 then (some false) else (impl_ValidSail.l1 k3 l0 (l0.length : Int) (l0.length : Int) (wrap64 (x36_3 + 1)))) = some r := H; have A28 := zQ A280; clear A280
                 by_cases c29 : t250 = 0
                 ·rw [if_pos c29] at H
                  have c29b0 : (t250 == 0) = true := beq_iff_eq.mpr c29; have c29b1 : (t250 != 0) = false := bne_eq_false_iff_eq.mpr c29; clear c29; obtain rfl := Option.some.inj H
                  try go_wp2
                  have n0_ := zQ (below_drew1 HB.out); clear HB; have HB := n0_; clear n0_; have p247 : 0 ≤ (x36_3 : Int) := of_decide_eq_true zA; have q247 : x36_3 < (l0.length : Int) := of_decide_eq_true zA; obtain ⟨ad247, e247, hx247_0, hx247_1⟩ := at_T35 HR0.out x36_3 p247 q247; have hw247_1 := hx247_1; have hw247_0 := hx247_0
                  cases e247
                  replace hx247_0 := zw HB.out hx247_0; replace hx247_1 := zw HB.out hx247_1; replace p247 := eq_true p247; replace q247 := eq_true q247; have p248 : 0 ≤ ((ji22) : Int) := of_decide_eq_true zA; have q248 : (ji22) < (l0.length : Int) := of_decide_eq_true zA; obtain ⟨ad248, e248, hx248_0, hx248_1⟩ := at_T35 HR0.out (ji22) p248 q248; have hw248_1 := hx248_1; have hw248_0 := hx248_0; obtain rfl : ad247 = ad248 := (by injection e248); replace hx248_0 := zw HB.out hx248_0; replace hx248_1 := zw HB.out hx248_1; replace p248 := eq_true p248; replace q248 := eq_true q248; have p249 : 0 ≤ ((ji25) : Int) := of_decide_eq_true zA; have q249 : (ji25) < (l0.length : Int) := of_decide_eq_true zA; obtain ⟨ad249, e249, hx249_0, hx249_1⟩ := at_T35 HR0.out (ji25) p249 q249; have hw249_1 := hx249_1; have hw249_0 := hx249_0; obtain rfl : ad247 = ad249 := (by injection e249); replace hx249_0 := zw HB.out hx249_0; replace hx249_1 := zw HB.out hx249_1; replace p249 := eq_true p249; replace q249 := eq_true q249
                  refine zs (fun w' => w'.cell? (ad247.add ((x36_3).toNat * 2)) = some (.int .i64 ((rd_T35 l0 x36_3).f0)) ∧ w'.cell? ⟨(ad247.add ((x36_3).toNat * 2)).block, (ad247.add ((x36_3).toNat * 2)).off + 1, none⟩ = some (.int .i64 ((rd_T35 l0 x36_3).f1)) ∧ w'.cell? (ad247.add (((ji22)).toNat * 2)) = some (.int .i64 ((rd_T35 l0 (ji22)).f0)) ∧ w'.cell? ⟨(ad247.add (((ji22)).toNat * 2)).block, (ad247.add (((ji22)).toNat * 2)).off + 1, none⟩ = some (.int .i64 ((rd_T35 l0 (ji22)).f1)) ∧ w'.cell? (ad247.add (((ji25)).toNat * 2)) = some (.int .i64 ((rd_T35 l0 (ji25)).f0)) ∧ w'.cell? ⟨(ad247.add (((ji25)).toNat * 2)).block, (ad247.add (((ji25)).toNat * 2)).off + 1, none⟩ = some (.int .i64 ((rd_T35 l0 (ji25)).f1))) [] 20 ⟨((HB.out.cell (World.block_lt_of_cell? w _ hw247_0)).trans hw247_0), ((HB.out.cell (World.block_lt_of_cell? w _ hw247_1)).trans hw247_1), ((HB.out.cell (World.block_lt_of_cell? w _ hw248_0)).trans hw248_0), ((HB.out.cell (World.block_lt_of_cell? w _ hw248_1)).trans hw248_1), ((HB.out.cell (World.block_lt_of_cell? w _ hw249_0)).trans hw249_0), ((HB.out.cell (World.block_lt_of_cell? w _ hw249_1)).trans hw249_1)⟩ (fun hHeld => ?_); refine with_tabW impl_ValidSail.tab13 impl_ValidSail.bits13 (fun HT_ HW_ => ?_)
                  generalize wr.drew = w30 at HB hx247_0 hx247_1 hx248_0 hx248_1 hx249_0 hx249_1 hHeld ⊢
                  refine zp 0 39 ?_
                  refine zp 1 40 ?_
                  refine zp 2 41 ?_
                  refine zp 4 43 ?_
                  refine zp 5 44 ?_
                  refine zp 6 45 ?_
                  refine zp 7 46 ?_
                  refine zp 8 47 ?_
                  refine zp 9 48 ?_
                  refine zp 11 50 ?_
                  refine zp 12 51 ?_
                  refine zp 13 52 ?_
                  refine zp 14 53 ?_
                  refine zp 15 54 ?_
                  refine zp 16 55 ?_
                  refine zt 3 42 hHeld ?_
                  refine zt 10 49 hHeld ?_
                  refine zt 17 56 hHeld ?_
                  refine zo 18 (some 57) (fun K hK => ?_)
                  refine goes_ Tryd.func32 (by kernel_rfl) rfl #[.agg #[.int .i64 ((rd_T35 l0 x36_3).f0), .int .i64 ((rd_T35 l0 x36_3).f1)], .agg #[.int .i64 ((rd_T35 l0 (ji22)).f0), .int .i64 ((rd_T35 l0 (ji22)).f1)], .agg #[.int .i64 ((rd_T35 l0 (ji25)).f0), .int .i64 ((rd_T35 l0 (ji25)).f1)]] (by rfl) rfl rfl (by (try simp only [List.map_toArray, List.map_cons, List.map_nil]); first | done | (simp only [hji22, hji25]; rfl) | rfl | (simp only [List.length_drop, List.length_take]; rfl)) ?_
                  with_reducible refine (impl_turnAt.calls ((rd_T35 l0 x36_3).f0) ((rd_T35 l0 x36_3).f1) ((rd_T35 l0 (ji22)).f0) ((rd_T35 l0 (ji22)).f1) ((rd_T35 l0 (ji25)).f0) ((rd_T35 l0 (ji25)).f1) t250 _ A28.out).mono ?_
                  rintro e w31 ⟨rfl, hb⟩
                  refine ⟨_, rfl, ?_⟩
                  have n0_ := zbs HB.out hb; clear HB; have HB := n0_; clear n0_
                  (try clear hb)
                  (try clear hb2)
                  (try clear hk)
                  (try clear hi)
                  refine hK.out _ _ ⟨((HB.out.cell (World.block_lt_of_cell? w _ hw247_0)).trans hw247_0), ((HB.out.cell (World.block_lt_of_cell? w _ hw247_1)).trans hw247_1), ((HB.out.cell (World.block_lt_of_cell? w _ hw248_0)).trans hw248_0), ((HB.out.cell (World.block_lt_of_cell? w _ hw248_1)).trans hw248_1), ((HB.out.cell (World.block_lt_of_cell? w _ hw249_0)).trans hw249_0), ((HB.out.cell (World.block_lt_of_cell? w _ hw249_1)).trans hw249_1)⟩ (fun hHeld => ?_)
                  clear hK K
                  refine zn 57 ?_
                  refine zp 19 58 ?_
                  refine done_ (done_of HT_.out (by kernel_rfl)) ?_
                  try go_wp2
                  go_ret
                  exact ⟨by first | rfl | (simp [errW_none, errW_some] <;> rfl) | (simp only [← hji22, ← hji25]; first | rfl | (simp [errW_none, errW_some] <;> rfl)) | (simp [*, errW_none, errW_some] <;> rfl), zB HB.out⟩
                 ·rw [if_neg c29] at H
                  have c29b0 : (t250 == 0) = false := beq_eq_false_iff_ne.mpr c29; have c29b1 : (t250 != 0) = true := bne_iff_ne.mpr c29; have H' := zQ H; clear H
                  try go_wp2
                  have n0_ := zQ (below_drew1 HB.out); clear HB; have HB := n0_; clear n0_; have p247 : 0 ≤ (x36_3 : Int) := of_decide_eq_true zA; have q247 : x36_3 < (l0.length : Int) := of_decide_eq_true zA; obtain ⟨ad247, e247, hx247_0, hx247_1⟩ := at_T35 HR0.out x36_3 p247 q247; have hw247_1 := hx247_1; have hw247_0 := hx247_0
                  cases e247
                  replace hx247_0 := zw HB.out hx247_0; replace hx247_1 := zw HB.out hx247_1; replace p247 := eq_true p247; replace q247 := eq_true q247; have p248 : 0 ≤ ((ji22) : Int) := of_decide_eq_true zA; have q248 : (ji22) < (l0.length : Int) := of_decide_eq_true zA; obtain ⟨ad248, e248, hx248_0, hx248_1⟩ := at_T35 HR0.out (ji22) p248 q248; have hw248_1 := hx248_1; have hw248_0 := hx248_0; obtain rfl : ad247 = ad248 := (by injection e248); replace hx248_0 := zw HB.out hx248_0; replace hx248_1 := zw HB.out hx248_1; replace p248 := eq_true p248; replace q248 := eq_true q248; have p249 : 0 ≤ ((ji25) : Int) := of_decide_eq_true zA; have q249 : (ji25) < (l0.length : Int) := of_decide_eq_true zA; obtain ⟨ad249, e249, hx249_0, hx249_1⟩ := at_T35 HR0.out (ji25) p249 q249; have hw249_1 := hx249_1; have hw249_0 := hx249_0; obtain rfl : ad247 = ad249 := (by injection e249); replace hx249_0 := zw HB.out hx249_0; replace hx249_1 := zw HB.out hx249_1; replace p249 := eq_true p249; replace q249 := eq_true q249
                  refine zs (fun w' => w'.cell? (ad247.add ((x36_3).toNat * 2)) = some (.int .i64 ((rd_T35 l0 x36_3).f0)) ∧ w'.cell? ⟨(ad247.add ((x36_3).toNat * 2)).block, (ad247.add ((x36_3).toNat * 2)).off + 1, none⟩ = some (.int .i64 ((rd_T35 l0 x36_3).f1)) ∧ w'.cell? (ad247.add (((ji22)).toNat * 2)) = some (.int .i64 ((rd_T35 l0 (ji22)).f0)) ∧ w'.cell? ⟨(ad247.add (((ji22)).toNat * 2)).block, (ad247.add (((ji22)).toNat * 2)).off + 1, none⟩ = some (.int .i64 ((rd_T35 l0 (ji22)).f1)) ∧ w'.cell? (ad247.add (((ji25)).toNat * 2)) = some (.int .i64 ((rd_T35 l0 (ji25)).f0)) ∧ w'.cell? ⟨(ad247.add (((ji25)).toNat * 2)).block, (ad247.add (((ji25)).toNat * 2)).off + 1, none⟩ = some (.int .i64 ((rd_T35 l0 (ji25)).f1))) [] 20 ⟨((HB.out.cell (World.block_lt_of_cell? w _ hw247_0)).trans hw247_0), ((HB.out.cell (World.block_lt_of_cell? w _ hw247_1)).trans hw247_1), ((HB.out.cell (World.block_lt_of_cell? w _ hw248_0)).trans hw248_0), ((HB.out.cell (World.block_lt_of_cell? w _ hw248_1)).trans hw248_1), ((HB.out.cell (World.block_lt_of_cell? w _ hw249_0)).trans hw249_0), ((HB.out.cell (World.block_lt_of_cell? w _ hw249_1)).trans hw249_1)⟩ (fun hHeld => ?_); refine with_tabW impl_ValidSail.tab13 impl_ValidSail.bits13 (fun HT_ HW_ => ?_)
                  generalize wr.drew = w32 at HB hx247_0 hx247_1 hx248_0 hx248_1 hx249_0 hx249_1 hHeld ⊢
                  refine zp 0 39 ?_
                  refine zp 1 40 ?_
                  refine zp 2 41 ?_
                  refine zp 4 43 ?_
                  refine zp 5 44 ?_
                  refine zp 6 45 ?_
                  refine zp 7 46 ?_
                  refine zp 8 47 ?_
                  refine zp 9 48 ?_
                  refine zp 11 50 ?_
                  refine zp 12 51 ?_
                  refine zp 13 52 ?_
                  refine zp 14 53 ?_
                  refine zp 15 54 ?_
                  refine zp 16 55 ?_
                  refine zt 3 42 hHeld ?_
                  refine zt 10 49 hHeld ?_
                  refine zt 17 56 hHeld ?_
                  refine zo 18 (some 57) (fun K hK => ?_)
                  refine goes_ Tryd.func32 (by kernel_rfl) rfl #[.agg #[.int .i64 ((rd_T35 l0 x36_3).f0), .int .i64 ((rd_T35 l0 x36_3).f1)], .agg #[.int .i64 ((rd_T35 l0 (ji22)).f0), .int .i64 ((rd_T35 l0 (ji22)).f1)], .agg #[.int .i64 ((rd_T35 l0 (ji25)).f0), .int .i64 ((rd_T35 l0 (ji25)).f1)]] (by rfl) rfl rfl (by (try simp only [List.map_toArray, List.map_cons, List.map_nil]); first | done | (simp only [hji22, hji25]; rfl) | rfl | (simp only [List.length_drop, List.length_take]; rfl)) ?_
                  with_reducible refine (impl_turnAt.calls ((rd_T35 l0 x36_3).f0) ((rd_T35 l0 x36_3).f1) ((rd_T35 l0 (ji22)).f0) ((rd_T35 l0 (ji22)).f1) ((rd_T35 l0 (ji25)).f0) ((rd_T35 l0 (ji25)).f1) t250 _ A28.out).mono ?_
                  rintro e w33 ⟨rfl, hb⟩
                  refine ⟨_, rfl, ?_⟩
                  have n0_ := zbs HB.out hb; clear HB; have HB := n0_; clear n0_
                  (try clear hb)
                  (try clear hb2)
                  (try clear hk)
                  (try clear hi)
                  refine hK.out _ _ ⟨((HB.out.cell (World.block_lt_of_cell? w _ hw247_0)).trans hw247_0), ((HB.out.cell (World.block_lt_of_cell? w _ hw247_1)).trans hw247_1), ((HB.out.cell (World.block_lt_of_cell? w _ hw248_0)).trans hw248_0), ((HB.out.cell (World.block_lt_of_cell? w _ hw248_1)).trans hw248_1), ((HB.out.cell (World.block_lt_of_cell? w _ hw249_0)).trans hw249_0), ((HB.out.cell (World.block_lt_of_cell? w _ hw249_1)).trans hw249_1)⟩ (fun hHeld => ?_)
                  clear hK K
                  refine zn 57 ?_
                  refine zp 19 58 ?_
                  refine done_ (done_of HT_.out (by kernel_rfl)) ?_
                  try go_wp2
                  go_roundg k3
                  case measure => have := HJ1.out; have := HK2.out; have := HK3.out; omega
                  case rel => exact ⟨(wrap64 (x36_3 + 1)), (zF), H', ⟨by have := HJ1.out; have := HK2.out; have := HK3.out; omega⟩, ⟨zB HB.out⟩⟩
                ·rw [if_neg c27] at H
                 exact absurd H (by simp)
               ·rw [if_neg c26] at H
                exact absurd H (by simp)
              ·rw [if_neg c24] at H
               exact absurd H (by simp)
             ·rw [if_neg c23] at H
              exact absurd H (by simp)
           ·rw [if_neg c20] at H
            exact absurd H (by simp)
          ·rw [if_neg c19] at H
           exact absurd H (by simp)
         ·rw [if_neg c18] at H
          have c18b0 : decide (x36_3 < (l0.length : Int)) = false := decide_eq_false c18; clear c18; have H' := zQ H; clear H
          go_wp2
          go_loopg [62] k3 (fun kq v62 w' => ∃ (x62_4 : Int), v62 = .int .i64 x62_4 ∧ Aside0 (impl_ValidSail.l2 kq l0 (l0.length : Int) (l0.length : Int) x62_4 = some r) ∧ Aside0 (kq ≤ k3) ∧ Aside0 (Below w.heap.size w w'))
          case atStart => exact ⟨(0), (zF), H', ⟨Nat.le_refl _⟩, ⟨zB HB.out⟩⟩
          case round =>
           clear H'; (try clear c1); (try clear c2); (try clear p2); (try clear q2); (try clear hx2); (try clear c3); (try clear c3b0); (try clear c3b1); (try clear c4); (try clear c5); (try clear c5b0); (try clear c6); (try clear c6b0); (try clear p6); (try clear c7); (try clear c7b0); (try clear c9); (try clear c11); (try clear c17); (try clear c18); (try clear c18b0); (try clear c19); (try clear c19b0); (try clear c20); (try clear c20b0); (try clear c21); (try clear c21b0); (try clear c21b1); (try clear c21b2); (try clear c23); (try clear c23b0); (try clear c24); (try clear c24b0); (try clear p24); (try clear q24); (try clear hx24); (try clear c26); (try clear c26b0); (try clear c27); (try clear c27b0); (try clear c29); (try clear c29b0); (try clear c29b1); (try clear c31); (try clear c32); (try clear hcz13_0); (try clear hcz13_1); (try clear hcz15_0); (try clear hcz15_1); (try clear hcz17_0); (try clear hcz17_1); (try clear hfz13_0); (try clear hfz13_1); (try clear hfz15_0); (try clear hfz15_1); (try clear hfz17_0); (try clear hfz17_1); (try clear hx243_0); (try clear hx243_1); (try clear hx247_0); (try clear hx247_1); (try clear hx248_0); (try clear hx248_1); (try clear hx249_0); (try clear hx249_1); (try clear p2); (try clear p243); (try clear p247); (try clear p248); (try clear p249); (try clear p6); (try clear q2); (try clear q243); (try clear q247); (try clear q248); (try clear q249); obtain ⟨x62_4, rfl, HA, HK4, HB⟩ := hrel
           cases gk with
           | zero => exact absurd HA.out (by simp [impl_ValidSail.l2])
           | succ k4 =>
            have H := HA.out; clear HA
            simp only [impl_ValidSail.l2] at H
            by_cases c34 : x62_4 < (l0.length : Int)
            ·rw [if_pos c34] at H
             have c34b0 : decide (x62_4 < (l0.length : Int)) = true := decide_eq_true c34; clear c34; have H' := zQ H; clear H
             go_wp2
             go_loopg [8] k4 (fun kq v8 w' => ∃ (x8_5 : Int), v8 = .int .i64 x8_5 ∧ Aside0 (impl_ValidSail.l3 kq l0 (l0.length : Int) x62_4 x8_5 (l0.length : Int) x62_4 = some r) ∧ Aside0 (kq ≤ k4) ∧ Aside0 (Below w.heap.size w w'))
             case atStart => exact ⟨(wrap64 (x62_4 + 2)), (zF), H', ⟨Nat.le_refl _⟩, ⟨zB HB.out⟩⟩
             case round =>
              clear H'; (try clear c1); (try clear c2); (try clear p2); (try clear q2); (try clear hx2); (try clear c3); (try clear c3b0); (try clear c3b1); (try clear c4); (try clear c5); (try clear c5b0); (try clear c6); (try clear c6b0); (try clear p6); (try clear c7); (try clear c7b0); (try clear c9); (try clear c11); (try clear c17); (try clear c18); (try clear c18b0); (try clear c19); (try clear c19b0); (try clear c20); (try clear c20b0); (try clear c21); (try clear c21b0); (try clear c21b1); (try clear c21b2); (try clear c23); (try clear c23b0); (try clear c24); (try clear c24b0); (try clear p24); (try clear q24); (try clear hx24); (try clear c26); (try clear c26b0); (try clear c27); (try clear c27b0); (try clear c29); (try clear c29b0); (try clear c29b1); (try clear c31); (try clear c32); (try clear c34); (try clear c34b0); (try clear hcz13_0); (try clear hcz13_1); (try clear hcz15_0); (try clear hcz15_1); (try clear hcz17_0); (try clear hcz17_1); (try clear hfz13_0); (try clear hfz13_1); (try clear hfz15_0); (try clear hfz15_1); (try clear hfz17_0); (try clear hfz17_1); (try clear hx243_0); (try clear hx243_1); (try clear hx247_0); (try clear hx247_1); (try clear hx248_0); (try clear hx248_1); (try clear hx249_0); (try clear hx249_1); (try clear p2); (try clear p24); (try clear p243); (try clear p247); (try clear p248); (try clear p249); (try clear p6); (try clear q2); (try clear q24); (try clear q243); (try clear q247); (try clear q248)
              (try clear q249); obtain ⟨x8_5, rfl, HA, HK5, HB⟩ := hrel
              cases gk with
              | zero => exact absurd HA.out (by simp [impl_ValidSail.l3])
              | succ k5 =>
               have H := HA.out; clear HA
               simp only [impl_ValidSail.l3] at H
               by_cases c35 : x8_5 < (l0.length : Int)
               ·rw [if_pos c35] at H
                have c35b0 : decide (x8_5 < (l0.length : Int)) = true := decide_eq_true c35; clear c35
                by_cases c36 : (l0.length : Int) = 0
                ·rw [if_pos c36] at H
                 exact absurd H (by simp)
                ·rw [if_neg c36] at H
                 have c36b0 : ((l0.length : Int) == 0) = false := beq_eq_false_iff_ne.mpr c36; have c36b1 : ((l0.length : Int) != 0) = true := bne_iff_ne.mpr c36
                 have c36b2 : ¬ (l0 = []) := fun h_ => c36 (by rw [h_]; rfl)
                 by_cases c37 : (Int.tmod (wrap64 (x8_5 + 1)) (l0.length : Int)) = x62_4
                 ·rw [if_pos c37] at H
                  have c37b0 : ((Int.tmod (wrap64 (x8_5 + 1)) (l0.length : Int)) == x62_4) = true := beq_iff_eq.mpr c37; have c37b1 : ((Int.tmod (wrap64 (x8_5 + 1)) (l0.length : Int)) != x62_4) = false := bne_eq_false_iff_eq.mpr c37; clear c37; have H' := zQ H; clear H
                  try go_wp2
                  have n0_ := zQ (below_drew1 HB.out); clear HB; have HB := n0_; clear n0_
                  refine zs (fun w' => True) [] 29 trivial (fun hHeld => ?_); refine with_tabW impl_ValidSail.tab22 impl_ValidSail.bits22 (fun HT_ HW_ => ?_)
                  generalize wr.drew = w38 at HB hHeld ⊢
                  refine zp 0 72 ?_
                  refine zp 1 73 ?_
                  refine zp 2 74 ?_
                  refine zp 3 75 ?_
                  refine zp 4 76 ?_
                  refine zp 5 77 ?_
                  refine zp 6 78 ?_
                  refine zg 7 79 ?_
                  refine zg 8 80 ?_
                  refine zg 9 81 ?_
                  refine zg 10 82 ?_
                  refine zg 11 83 ?_
                  refine zg 12 84 ?_
                  refine zg 13 85 ?_
                  refine zg 14 86 ?_
                  refine zg 15 87 ?_
                  refine zg 16 88 ?_
                  refine zg 17 89 ?_
                  refine zg 18 90 ?_
                  refine zg 19 91 ?_
                  refine zg 20 92 ?_
                  refine zg 21 93 ?_
                  refine zg 22 94 ?_
                  refine zg 23 95 ?_
                  refine zg 24 96 ?_
                  refine zg 25 97 ?_
                  refine zg 26 98 ?_
                  refine zg 27 99 ?_
                  refine zp 28 100 ?_
                  refine done_ (done_of HT_.out (by kernel_rfl)) ?_
                  try go_wp2
                  go_roundg k5
                  case measure => have := HJ1.out; have := HK2.out; have := HK3.out; have := HK4.out; have := HK5.out; omega
                  case rel => exact ⟨(wrap64 (x8_5 + 1)), (zF), H', ⟨by have := HJ1.out; have := HK2.out; have := HK3.out; have := HK4.out; have := HK5.out; omega⟩, ⟨zB HB.out⟩⟩
                 ·rw [if_neg c37] at H
                  have c37b0 : ((Int.tmod (wrap64 (x8_5 + 1)) (l0.length : Int)) == x62_4) = false := beq_eq_false_iff_ne.mpr c37; have c37b1 : ((Int.tmod (wrap64 (x8_5 + 1)) (l0.length : Int)) != x62_4) = true := bne_iff_ne.mpr c37
                  by_cases c39 : 0 ≤ x62_4
                  ·rw [if_pos c39] at H
                   have c39b0 : decide (0 ≤ x62_4) = true := decide_eq_true c39; clear c39
                   by_cases c40 : x62_4 < (l0.length : Int)
                   ·rw [if_pos c40] at H
                    have c40b0 : decide (x62_4 < (l0.length : Int)) = true := decide_eq_true c40; clear c40; obtain ⟨ji41, hji41⟩ : ∃ j_ : Int, (wrap64 (x62_4 + 1)) = j_ := ⟨_, rfl⟩
                    replace H : (if 0 ≤ (ji41) then (if (ji41) < (l0.length : Int) then (if 0 ≤ x8_5 then (if x8_5 < (l0.length : Int) then (if 0 ≤ (Int.tmod (wrap64 (x8_5 + 1)) (l0.length : Int)) then (if (Int.tmod (wrap64 (x8_5 + 1)) (l0.length : Int)) < (l0.length : Int) then ((impl_edgesMeet.f k5 ((rd_T35 l0 x62_4).f0) ((rd_T35 l0 x62_4).f1) ((rd_T35 l0 (ji41)).f0) ((rd_T35 l0 (ji41)).f1) ((rd_T35 l0 x8_5).f0) ((rd_T35 l0 x8_5).f1) ((rd_T35 l0 (Int.tmod (wrap64 (x8_5 + 1)) (l0.length : Int))).f0) ((rd_T35 l0 (Int.tmod (wrap64 (x8_5 + 1)) (l0.length : Int))).f1)).bind fun t256 => (if t256 = true then (some false) else (impl_ValidSail.l3 k5 l0 (l0.length : Int) x62_4 (wrap64 (x8_5 + 1)) (l0.length : Int) x62_4))) else (none)) else (none)) else (none)) else (none)) else (none)) else (none)) = some r := by first | (rw [hji41] at H; exact H) | (simp only [hji41] at H ⊢; exact H)
                    have hji41w : (IntKind.i64.wrap (x62_4 + 1)) = ji41 := (i64_w _).trans hji41
                    by_cases c42 : 0 ≤ (ji41)
                    ·rw [if_pos c42] at H
                     have c42b0 : decide (0 ≤ (ji41)) = true := decide_eq_true c42; clear c42
                     by_cases c43 : (ji41) < (l0.length : Int)
                     ·rw [if_pos c43] at H
                      have c43b0 : decide ((ji41) < (l0.length : Int)) = true := decide_eq_true c43; clear c43
                      by_cases c44 : 0 ≤ x8_5
                      ·rw [if_pos c44] at H
                       have c44b0 : decide (0 ≤ x8_5) = true := decide_eq_true c44; clear c44
                       by_cases c45 : x8_5 < (l0.length : Int)
                       ·rw [if_pos c45] at H
                        have c45b0 : decide (x8_5 < (l0.length : Int)) = true := decide_eq_true c45; clear c45; obtain ⟨ji46, hji46⟩ : ∃ j_ : Int, (Int.tmod (wrap64 (x8_5 + 1)) (l0.length : Int)) = j_ := ⟨_, rfl⟩
                        replace H : (if 0 ≤ (ji46) then (if (ji46) < (l0.length : Int) then ((impl_edgesMeet.f k5 ((rd_T35 l0 x62_4).f0) ((rd_T35 l0 x62_4).f1) ((rd_T35 l0 (ji41)).f0) ((rd_T35 l0 (ji41)).f1) ((rd_T35 l0 x8_5).f0) ((rd_T35 l0 x8_5).f1) ((rd_T35 l0 (ji46)).f0) ((rd_T35 l0 (ji46)).f1)).bind fun t256 => (if t256 = true then (some false) else (impl_ValidSail.l3 k5 l0 (l0.length : Int) x62_4 (wrap64 (x8_5 + 1)) (l0.length : Int) x62_4))) else (none)) else (none)) = some r := by first | (rw [hji46] at H; exact H) | (simp only [hji46] at H ⊢; exact H)
                        (try rw [hji46] at c37b0)
                        (try rw [hji46] at c37b1)
                        by_cases c47 : 0 ≤ (ji46)
                        ·rw [if_pos c47] at H
                         have c47b0 : decide (0 ≤ (ji46)) = true := decide_eq_true c47; clear c47
                         by_cases c48 : (ji46) < (l0.length : Int)
                         ·rw [if_pos c48] at H
                          have c48b0 : decide ((ji46) < (l0.length : Int)) = true := decide_eq_true c48; clear c48; replace H := Option.bind_eq_some_iff.mp H; obtain ⟨t256, A490, H⟩ := H; replace H : (if t256 = true then (some false) else (impl_ValidSail.l3 k5 l0 (l0.length : Int) x62_4 (wrap64 (x8_5 + 1)) (l0.length : Int) x62_4)) = some r := H; have A49 := zQ A490; clear A490
                          by_cases c50 : t256 = true
                          ·subst c50
                           have H1 : (some false) = some r := by rw [if_pos rfl] at H; exact H
                           clear H; have H := H1; clear H1; obtain rfl := Option.some.inj H
                           try go_wp2
                           have n0_ := zQ (below_drew1 HB.out); clear HB; have HB := n0_; clear n0_; have p252 : 0 ≤ (x62_4 : Int) := of_decide_eq_true zA; have q252 : x62_4 < (l0.length : Int) := of_decide_eq_true zA; obtain ⟨ad252, e252, hx252_0, hx252_1⟩ := at_T35 HR0.out x62_4 p252 q252; have hw252_1 := hx252_1; have hw252_0 := hx252_0
                           cases e252
                           replace hx252_0 := zw HB.out hx252_0; replace hx252_1 := zw HB.out hx252_1; replace p252 := eq_true p252; replace q252 := eq_true q252; have p253 : 0 ≤ ((ji41) : Int) := of_decide_eq_true zA; have q253 : (ji41) < (l0.length : Int) := of_decide_eq_true zA; obtain ⟨ad253, e253, hx253_0, hx253_1⟩ := at_T35 HR0.out (ji41) p253 q253; have hw253_1 := hx253_1; have hw253_0 := hx253_0; obtain rfl : ad252 = ad253 := (by injection e253); replace hx253_0 := zw HB.out hx253_0; replace hx253_1 := zw HB.out hx253_1; replace p253 := eq_true p253; replace q253 := eq_true q253; have p254 : 0 ≤ (x8_5 : Int) := of_decide_eq_true zA; have q254 : x8_5 < (l0.length : Int) := of_decide_eq_true zA; obtain ⟨ad254, e254, hx254_0, hx254_1⟩ := at_T35 HR0.out x8_5 p254 q254; have hw254_1 := hx254_1; have hw254_0 := hx254_0; obtain rfl : ad252 = ad254 := (by injection e254); replace hx254_0 := zw HB.out hx254_0; replace hx254_1 := zw HB.out hx254_1; replace p254 := eq_true p254; replace q254 := eq_true q254; have p255 : 0 ≤ ((ji46) : Int) := of_decide_eq_true zA; have q255 : (ji46) < (l0.length : Int) := of_decide_eq_true zA; obtain ⟨ad255, e255, hx255_0, hx255_1⟩ := at_T35 HR0.out (ji46) p255 q255; have hw255_1 := hx255_1; have hw255_0 := hx255_0; obtain rfl : ad252 = ad255 := (by injection e255); replace hx255_0 := zw HB.out hx255_0; replace hx255_1 := zw HB.out hx255_1; replace p255 := eq_true p255; replace q255 := eq_true q255
                           refine zs (fun w' => w'.cell? (ad252.add ((x62_4).toNat * 2)) = some (.int .i64 ((rd_T35 l0 x62_4).f0)) ∧ w'.cell? ⟨(ad252.add ((x62_4).toNat * 2)).block, (ad252.add ((x62_4).toNat * 2)).off + 1, none⟩ = some (.int .i64 ((rd_T35 l0 x62_4).f1)) ∧ w'.cell? (ad252.add (((ji41)).toNat * 2)) = some (.int .i64 ((rd_T35 l0 (ji41)).f0)) ∧ w'.cell? ⟨(ad252.add (((ji41)).toNat * 2)).block, (ad252.add (((ji41)).toNat * 2)).off + 1, none⟩ = some (.int .i64 ((rd_T35 l0 (ji41)).f1)) ∧ w'.cell? (ad252.add ((x8_5).toNat * 2)) = some (.int .i64 ((rd_T35 l0 x8_5).f0)) ∧ w'.cell? ⟨(ad252.add ((x8_5).toNat * 2)).block, (ad252.add ((x8_5).toNat * 2)).off + 1, none⟩ = some (.int .i64 ((rd_T35 l0 x8_5).f1)) ∧ w'.cell? (ad252.add (((ji46)).toNat * 2)) = some (.int .i64 ((rd_T35 l0 (ji46)).f0)) ∧ w'.cell? ⟨(ad252.add (((ji46)).toNat * 2)).block, (ad252.add (((ji46)).toNat * 2)).off + 1, none⟩ = some (.int .i64 ((rd_T35 l0 (ji46)).f1))) [] 29 ⟨((HB.out.cell (World.block_lt_of_cell? w _ hw252_0)).trans hw252_0), ((HB.out.cell (World.block_lt_of_cell? w _ hw252_1)).trans hw252_1), ((HB.out.cell (World.block_lt_of_cell? w _ hw253_0)).trans hw253_0), ((HB.out.cell (World.block_lt_of_cell? w _ hw253_1)).trans hw253_1), ((HB.out.cell (World.block_lt_of_cell? w _ hw254_0)).trans hw254_0), ((HB.out.cell (World.block_lt_of_cell? w _ hw254_1)).trans hw254_1), ((HB.out.cell (World.block_lt_of_cell? w _ hw255_0)).trans hw255_0), ((HB.out.cell (World.block_lt_of_cell? w _ hw255_1)).trans hw255_1)⟩ (fun hHeld => ?_); refine with_tabW impl_ValidSail.tab22 impl_ValidSail.bits22 (fun HT_ HW_ => ?_)
                           generalize wr.drew = w51 at HB hx252_0 hx252_1 hx253_0 hx253_1 hx254_0 hx254_1 hx255_0 hx255_1 hHeld ⊢
                           refine zp 0 72 ?_
                           refine zp 1 73 ?_
                           refine zp 2 74 ?_
                           refine zp 3 75 ?_
                           refine zp 4 76 ?_
                           refine zp 5 77 ?_
                           refine zp 6 78 ?_
                           refine zp 7 79 ?_
                           refine zp 8 80 ?_
                           refine zp 9 81 ?_
                           refine zp 11 83 ?_
                           refine zp 12 84 ?_
                           refine zp 13 85 ?_
                           refine zp 14 86 ?_
                           refine zp 16 88 ?_
                           refine zp 17 89 ?_
                           refine zp 18 90 ?_
                           refine zp 20 92 ?_
                           refine zp 21 93 ?_
                           refine zp 22 94 ?_
                           refine zp 23 95 ?_
                           refine zp 24 96 ?_
                           refine zp 25 97 ?_
                           refine zt 10 82 hHeld ?_
                           refine zt 15 87 hHeld ?_
                           refine zt 19 91 hHeld ?_
                           refine zt 26 98 hHeld ?_
                           refine zo 27 (some 99) (fun K hK => ?_)
                           refine goes_ Tryd.func33 (by kernel_rfl) rfl #[.agg #[.int .i64 ((rd_T35 l0 x62_4).f0), .int .i64 ((rd_T35 l0 x62_4).f1)], .agg #[.int .i64 ((rd_T35 l0 (ji41)).f0), .int .i64 ((rd_T35 l0 (ji41)).f1)], .agg #[.int .i64 ((rd_T35 l0 x8_5).f0), .int .i64 ((rd_T35 l0 x8_5).f1)], .agg #[.int .i64 ((rd_T35 l0 (ji46)).f0), .int .i64 ((rd_T35 l0 (ji46)).f1)]] (by rfl) rfl rfl (by (try simp only [List.map_toArray, List.map_cons, List.map_nil]); first | done | (simp only [hji41, hji46]; rfl) | rfl | (simp only [List.length_drop, List.length_take]; rfl)) ?_
                           with_reducible refine (impl_edgesMeet.calls k5 ((rd_T35 l0 x62_4).f0) ((rd_T35 l0 x62_4).f1) ((rd_T35 l0 (ji41)).f0) ((rd_T35 l0 (ji41)).f1) ((rd_T35 l0 x8_5).f0) ((rd_T35 l0 x8_5).f1) ((rd_T35 l0 (ji46)).f0) ((rd_T35 l0 (ji46)).f1) true _ A49.out).mono ?_
                           rintro e w52 ⟨rfl, hb⟩
                           refine ⟨_, rfl, ?_⟩
                           have n0_ := zbs HB.out hb; clear HB; have HB := n0_; clear n0_
                           (try clear hb)
                           (try clear hb2)
                           (try clear hk)
                           (try clear hi)
                           refine hK.out _ _ ⟨((HB.out.cell (World.block_lt_of_cell? w _ hw252_0)).trans hw252_0), ((HB.out.cell (World.block_lt_of_cell? w _ hw252_1)).trans hw252_1), ((HB.out.cell (World.block_lt_of_cell? w _ hw253_0)).trans hw253_0), ((HB.out.cell (World.block_lt_of_cell? w _ hw253_1)).trans hw253_1), ((HB.out.cell (World.block_lt_of_cell? w _ hw254_0)).trans hw254_0), ((HB.out.cell (World.block_lt_of_cell? w _ hw254_1)).trans hw254_1), ((HB.out.cell (World.block_lt_of_cell? w _ hw255_0)).trans hw255_0), ((HB.out.cell (World.block_lt_of_cell? w _ hw255_1)).trans hw255_1)⟩ (fun hHeld => ?_)
                           clear hK K
                           refine zn 99 ?_
                           refine zp 28 100 ?_
                           refine done_ (done_of HT_.out (by kernel_rfl)) ?_
                           try go_wp2
                           go_ret
                           exact ⟨by first | rfl | (simp [errW_none, errW_some] <;> rfl) | (simp only [← hji41, ← hji46]; first | rfl | (simp [errW_none, errW_some] <;> rfl)) | (simp [*, errW_none, errW_some] <;> rfl), zB HB.out⟩
                          ·replace c50 := Bool.eq_false_iff.mpr c50
                           subst c50
                           have H1 : (impl_ValidSail.l3 k5 l0 (l0.length : Int) x62_4 (wrap64 (x8_5 + 1)) (l0.length : Int) x62_4) = some r := by rw [if_neg (show ¬ (false = true) by decide)] at H; exact H
                           clear H; have H := H1; clear H1; have H' := zQ H; clear H
                           try go_wp2
                           have n0_ := zQ (below_drew1 HB.out); clear HB; have HB := n0_; clear n0_; have p252 : 0 ≤ (x62_4 : Int) := of_decide_eq_true zA; have q252 : x62_4 < (l0.length : Int) := of_decide_eq_true zA; obtain ⟨ad252, e252, hx252_0, hx252_1⟩ := at_T35 HR0.out x62_4 p252 q252; have hw252_1 := hx252_1; have hw252_0 := hx252_0
                           cases e252
                           replace hx252_0 := zw HB.out hx252_0; replace hx252_1 := zw HB.out hx252_1; replace p252 := eq_true p252; replace q252 := eq_true q252; have p253 : 0 ≤ ((ji41) : Int) := of_decide_eq_true zA; have q253 : (ji41) < (l0.length : Int) := of_decide_eq_true zA; obtain ⟨ad253, e253, hx253_0, hx253_1⟩ := at_T35 HR0.out (ji41) p253 q253; have hw253_1 := hx253_1; have hw253_0 := hx253_0; obtain rfl : ad252 = ad253 := (by injection e253); replace hx253_0 := zw HB.out hx253_0; replace hx253_1 := zw HB.out hx253_1; replace p253 := eq_true p253; replace q253 := eq_true q253; have p254 : 0 ≤ (x8_5 : Int) := of_decide_eq_true zA; have q254 : x8_5 < (l0.length : Int) := of_decide_eq_true zA; obtain ⟨ad254, e254, hx254_0, hx254_1⟩ := at_T35 HR0.out x8_5 p254 q254; have hw254_1 := hx254_1; have hw254_0 := hx254_0; obtain rfl : ad252 = ad254 := (by injection e254); replace hx254_0 := zw HB.out hx254_0; replace hx254_1 := zw HB.out hx254_1; replace p254 := eq_true p254; replace q254 := eq_true q254; have p255 : 0 ≤ ((ji46) : Int) := of_decide_eq_true zA; have q255 : (ji46) < (l0.length : Int) := of_decide_eq_true zA; obtain ⟨ad255, e255, hx255_0, hx255_1⟩ := at_T35 HR0.out (ji46) p255 q255; have hw255_1 := hx255_1; have hw255_0 := hx255_0; obtain rfl : ad252 = ad255 := (by injection e255); replace hx255_0 := zw HB.out hx255_0; replace hx255_1 := zw HB.out hx255_1; replace p255 := eq_true p255; replace q255 := eq_true q255
                           refine zs (fun w' => w'.cell? (ad252.add ((x62_4).toNat * 2)) = some (.int .i64 ((rd_T35 l0 x62_4).f0)) ∧ w'.cell? ⟨(ad252.add ((x62_4).toNat * 2)).block, (ad252.add ((x62_4).toNat * 2)).off + 1, none⟩ = some (.int .i64 ((rd_T35 l0 x62_4).f1)) ∧ w'.cell? (ad252.add (((ji41)).toNat * 2)) = some (.int .i64 ((rd_T35 l0 (ji41)).f0)) ∧ w'.cell? ⟨(ad252.add (((ji41)).toNat * 2)).block, (ad252.add (((ji41)).toNat * 2)).off + 1, none⟩ = some (.int .i64 ((rd_T35 l0 (ji41)).f1)) ∧ w'.cell? (ad252.add ((x8_5).toNat * 2)) = some (.int .i64 ((rd_T35 l0 x8_5).f0)) ∧ w'.cell? ⟨(ad252.add ((x8_5).toNat * 2)).block, (ad252.add ((x8_5).toNat * 2)).off + 1, none⟩ = some (.int .i64 ((rd_T35 l0 x8_5).f1)) ∧ w'.cell? (ad252.add (((ji46)).toNat * 2)) = some (.int .i64 ((rd_T35 l0 (ji46)).f0)) ∧ w'.cell? ⟨(ad252.add (((ji46)).toNat * 2)).block, (ad252.add (((ji46)).toNat * 2)).off + 1, none⟩ = some (.int .i64 ((rd_T35 l0 (ji46)).f1))) [] 29 ⟨((HB.out.cell (World.block_lt_of_cell? w _ hw252_0)).trans hw252_0), ((HB.out.cell (World.block_lt_of_cell? w _ hw252_1)).trans hw252_1), ((HB.out.cell (World.block_lt_of_cell? w _ hw253_0)).trans hw253_0), ((HB.out.cell (World.block_lt_of_cell? w _ hw253_1)).trans hw253_1), ((HB.out.cell (World.block_lt_of_cell? w _ hw254_0)).trans hw254_0), ((HB.out.cell (World.block_lt_of_cell? w _ hw254_1)).trans hw254_1), ((HB.out.cell (World.block_lt_of_cell? w _ hw255_0)).trans hw255_0), ((HB.out.cell (World.block_lt_of_cell? w _ hw255_1)).trans hw255_1)⟩ (fun hHeld => ?_); refine with_tabW impl_ValidSail.tab22 impl_ValidSail.bits22 (fun HT_ HW_ => ?_)
                           generalize wr.drew = w53 at HB hx252_0 hx252_1 hx253_0 hx253_1 hx254_0 hx254_1 hx255_0 hx255_1 hHeld ⊢
                           refine zp 0 72 ?_
                           refine zp 1 73 ?_
                           refine zp 2 74 ?_
                           refine zp 3 75 ?_
                           refine zp 4 76 ?_
                           refine zp 5 77 ?_
                           refine zp 6 78 ?_
                           refine zp 7 79 ?_
                           refine zp 8 80 ?_
                           refine zp 9 81 ?_
                           refine zp 11 83 ?_
                           refine zp 12 84 ?_
                           refine zp 13 85 ?_
                           refine zp 14 86 ?_
                           refine zp 16 88 ?_
                           refine zp 17 89 ?_
                           refine zp 18 90 ?_
                           refine zp 20 92 ?_
                           refine zp 21 93 ?_
                           refine zp 22 94 ?_
                           refine zp 23 95 ?_
                           refine zp 24 96 ?_
                           refine zp 25 97 ?_
                           refine zt 10 82 hHeld ?_
                           refine zt 15 87 hHeld ?_
                           refine zt 19 91 hHeld ?_
                           refine zt 26 98 hHeld ?_
                           refine zo 27 (some 99) (fun K hK => ?_)
                           refine goes_ Tryd.func33 (by kernel_rfl) rfl #[.agg #[.int .i64 ((rd_T35 l0 x62_4).f0), .int .i64 ((rd_T35 l0 x62_4).f1)], .agg #[.int .i64 ((rd_T35 l0 (ji41)).f0), .int .i64 ((rd_T35 l0 (ji41)).f1)], .agg #[.int .i64 ((rd_T35 l0 x8_5).f0), .int .i64 ((rd_T35 l0 x8_5).f1)], .agg #[.int .i64 ((rd_T35 l0 (ji46)).f0), .int .i64 ((rd_T35 l0 (ji46)).f1)]] (by rfl) rfl rfl (by (try simp only [List.map_toArray, List.map_cons, List.map_nil]); first | done | (simp only [hji41, hji46]; rfl) | rfl | (simp only [List.length_drop, List.length_take]; rfl)) ?_
                           with_reducible refine (impl_edgesMeet.calls k5 ((rd_T35 l0 x62_4).f0) ((rd_T35 l0 x62_4).f1) ((rd_T35 l0 (ji41)).f0) ((rd_T35 l0 (ji41)).f1) ((rd_T35 l0 x8_5).f0) ((rd_T35 l0 x8_5).f1) ((rd_T35 l0 (ji46)).f0) ((rd_T35 l0 (ji46)).f1) false _ A49.out).mono ?_
                           rintro e w54 ⟨rfl, hb⟩
                           refine ⟨_, rfl, ?_⟩
                           have n0_ := zbs HB.out hb; clear HB; have HB := n0_; clear n0_
                           (try clear hb)
                           (try clear hb2)
                           (try clear hk)
                           (try clear hi)
                           refine hK.out _ _ ⟨((HB.out.cell (World.block_lt_of_cell? w _ hw252_0)).trans hw252_0), ((HB.out.cell (World.block_lt_of_cell? w _ hw252_1)).trans hw252_1), ((HB.out.cell (World.block_lt_of_cell? w _ hw253_0)).trans hw253_0), ((HB.out.cell (World.block_lt_of_cell? w _ hw253_1)).trans hw253_1), ((HB.out.cell (World.block_lt_of_cell? w _ hw254_0)).trans hw254_0), ((HB.out.cell (World.block_lt_of_cell? w _ hw254_1)).trans hw254_1), ((HB.out.cell (World.block_lt_of_cell? w _ hw255_0)).trans hw255_0), ((HB.out.cell (World.block_lt_of_cell? w _ hw255_1)).trans hw255_1)⟩ (fun hHeld => ?_)
                           clear hK K
                           refine zn 99 ?_
                           refine zp 28 100 ?_
                           refine done_ (done_of HT_.out (by kernel_rfl)) ?_
                           try go_wp2
                           go_roundg k5
                           case measure => have := HJ1.out; have := HK2.out; have := HK3.out; have := HK4.out; have := HK5.out; omega
                           case rel => exact ⟨(wrap64 (x8_5 + 1)), (zF), H', ⟨by have := HJ1.out; have := HK2.out; have := HK3.out; have := HK4.out; have := HK5.out; omega⟩, ⟨zB HB.out⟩⟩
                         ·rw [if_neg c48] at H
                          exact absurd H (by simp)
                        ·rw [if_neg c47] at H
                         exact absurd H (by simp)
                       ·rw [if_neg c45] at H
                        exact absurd H (by simp)
                      ·rw [if_neg c44] at H
                       exact absurd H (by simp)
                     ·rw [if_neg c43] at H
                      exact absurd H (by simp)
                    ·rw [if_neg c42] at H
                     exact absurd H (by simp)
                   ·rw [if_neg c40] at H
                    exact absurd H (by simp)
                  ·rw [if_neg c39] at H
                   exact absurd H (by simp)
               ·rw [if_neg c35] at H
                have c35b0 : decide (x8_5 < (l0.length : Int)) = false := decide_eq_false c35; clear c35; have H' := zQ H; clear H
                go_wp2
                go_roundg k5
                case measure => have := HJ1.out; have := HK2.out; have := HK3.out; have := HK4.out; have := HK5.out; omega
                case rel => exact ⟨(wrap64 (x62_4 + 1)), (zF), H', ⟨by have := HJ1.out; have := HK2.out; have := HK3.out; have := HK4.out; have := HK5.out; omega⟩, ⟨zB HB.out⟩⟩
            ·rw [if_neg c34] at H
             have c34b0 : decide (x62_4 < (l0.length : Int)) = false := decide_eq_false c34; clear c34; replace H := Option.bind_eq_some_iff.mp H; obtain ⟨t251, A550, H⟩ := H; replace H : (some (decide (t251 > 0))) = some r := H; have A55 := zQ A550; clear A550; obtain rfl := Option.some.inj H
             go_wp2_with (first | ((with_reducible refine zgc 34 ?_); refine goesL_ (some 103) rfl rfl Tryd.func34 (by kernel_rfl) rfl #[.slice A0 l0.length c0] rfl zM ?_; (with_reducible refine (impl_twiceSail.calls k4 _ _ l0 t251 _ (zC HR0.out HB.out) HC0.out A55.out).mono ?_); rintro e w56 ⟨rfl, hb⟩; refine ⟨_, rfl, ?_⟩; replace HB := zbs HB.out hb; (try clear hb)))
             go_ret
             exact ⟨zE, zB HB.out⟩

end Go.Proofs.YtchngbjpjbahiaaDoor.PFnExactReadSail
