/- The walks of the functions that the law reaches: each computes what its Lean function says. No condition beyond each contract's own. -/
import Derived.Test.YtimjblgepbhoaaaHStays0
import Derived.Test.YtimjblgepbhoaaaHStaysa
import Derived.Test.YtimjblgepbhoaaaHStaysb
import Derived.Test.YtimjblgepbhoaaaHStaysc
import Derived.Test.YtimjblgepbhoaaaHStaysd
import Derived.Test.YtimjblgepbhoaaaHStaysl
import Derived.Test.YtimjblgepbhoaaaHStaysm
namespace Go.Proofs.Ytimjblgepbhoaaa.PStays
noncomputable section
open Go.RowKit Go.Proofs.YtimjblgepbhoaaaW.PrintWords Go.Proofs.YtimjblgepbhoaaaW.PrintLast Go.Proofs.YtimjblgepbhoaaaW.PrintMore
attribute [local go_sem] max2_int min2_int max_two min_two max_three min_three max_four min_four   -- for this text's walks alone
set_option linter.unusedVariables false
set_option linter.unusedSimpArgs false

/-! ### laws_szPullSS: function 46 -/
def laws_szPullSS.l0 : Nat → List (List (S122)) → Int → Int → Option (Int)
 | 0, _, _, _ => none
 | k + 1, x0, x1, x5 => if x5 < (x0.length : Int) then (if 0 ≤ x5 then ((laws_szPullS.f (rd_L7 x0 x5) x1).bind fun t157 => (if t157 < 0 then (some (-1)) else (laws_szPullSS.l0 k x0 t157 (wrap64 (x5 + 1))))) else (none)) else (some x1)
def laws_szPullSS.f (k : Nat) (l0 : List (List (S122))) (a1 : Int) : Option (Int) := if (wrap64 (a1 - (l0.length : Int))) < 0 then (some (-1)) else (laws_szPullSS.l0 k l0 (wrap64 (a1 - (l0.length : Int))) 0)
theorem laws_szPullSS.mono_l : ∀ k, (∀ y0 y1 y2, LeO (laws_szPullSS.l0 k y0 y1 y2) (laws_szPullSS.l0 (k + 1) y0 y1 y2))
 | 0 => fun _ _ _ r h => by simp [laws_szPullSS.l0] at h
 | k + 1 => by
  have ih0 := laws_szPullSS.mono_l k
  ·intro y0 y1 y2
   unfold laws_szPullSS.l0
   (with_reducible repeat' first | apply ih0 | apply LeO.refl | apply LeO.none | refine LeO.ite ?_ ?_ | refine LeO.bind ?_ (fun _ => ?_))
   repeat' first | apply ih0 | apply LeO.none | refine LeO.ite ?_ ?_ | refine LeO.bind ?_ (fun _ => ?_)
theorem laws_szPullSS.mono : ∀ a0 a1 k, LeO (laws_szPullSS.f k a0 a1) (laws_szPullSS.f (k + 1) a0 a1) := by
 intro a0 a1 k
 have ih0 := laws_szPullSS.mono_l k
 unfold laws_szPullSS.f
 (with_reducible repeat' first | apply ih0 | apply LeO.refl | apply LeO.none | refine LeO.ite ?_ ?_ | refine LeO.bind ?_ (fun _ => ?_))
 repeat' first | apply ih0 | apply LeO.none | refine LeO.ite ?_ ?_ | refine LeO.bind ?_ (fun _ => ?_)
set_option maxHeartbeats 8000000 in
set_option maxRecDepth 100000 in
theorem laws_szPullSS.calls (k : Nat) (A0 : Option Addr) (c0 : Nat) (l0 : List (List (S122))) (a1 : Int) (r : Int) (w : World) (hr0 : Kd.C (Kd.slice 122 k122) w A0 l0.length l0) (hc0 : l0.length ≤ c0) (h : laws_szPullSS.f k l0 a1 = some r) :
  Calls Try.prog 46 #[.slice A0 l0.length c0, .int .i64 a1] w fun e w' => e = .returned (.int .i64 r) ∧ Drawn0 w w' := by
 have HR0 := zQ hr0
 have HC0 := zQ hc0
 clear hr0 hc0
 have H : (if (wrap64 (a1 - (l0.length : Int))) < 0 then (some (-1)) else (laws_szPullSS.l0 k l0 (wrap64 (a1 - (l0.length : Int))) 0)) = some r := h
 clear h
 by_cases c3 : (wrap64 (a1 - (l0.length : Int))) < 0
 ·rw [if_pos c3] at H
  have c3b0 : decide ((wrap64 (a1 - (l0.length : Int))) < 0) = true := decide_eq_true c3; clear c3; obtain rfl := Option.some.inj H
  go_enter Try.func46, Try.ntmps46
  go_wp2
  go_ret
  exact ⟨zF, by repeat (first | exact Drawn0.refl _ | apply Drawn0.step)⟩
 ·rw [if_neg c3] at H
  have c3b0 : decide ((wrap64 (a1 - (l0.length : Int))) < 0) = false := decide_eq_false c3; clear c3; have H' := zQ H; clear H
  go_enter Try.func46, Try.ntmps46
  go_wp2
  go_loopg [1, 5] k (fun kq v1 v5 w' => ∃ (x1_1 : Int) (x5_1 : Int), v1 = .int .i64 x1_1 ∧ v5 = .int .i64 x5_1 ∧ Aside0 (laws_szPullSS.l0 kq l0 x1_1 x5_1 = some r) ∧ Aside0 (kq ≤ k) ∧ Drawn0 w w')
  case atStart => exact ⟨(wrap64 (a1 - (l0.length : Int))), (0), (zF), (zF), H', ⟨Nat.le_refl _⟩, by repeat (first | exact Drawn0.refl _ | apply Drawn0.step)⟩
  case round =>
   clear H'; (try clear p2); (try clear c3); (try clear c3b0); obtain ⟨x1_1, x5_1, rfl, rfl, HA, HK1, ⟨m1, rfl⟩⟩ := hrel
   cases gk with
   | zero => exact absurd HA.out (by simp [laws_szPullSS.l0])
   | succ k1 =>
    have H := HA.out; clear HA
    simp only [laws_szPullSS.l0] at H
    by_cases c4 : x5_1 < (l0.length : Int)
    ·rw [if_pos c4] at H
     have c4b0 : decide (x5_1 < (l0.length : Int)) = true := decide_eq_true c4; clear c4
     by_cases c5 : 0 ≤ x5_1
     ·rw [if_pos c5] at H
      have c5b0 : decide (0 ≤ x5_1) = true := decide_eq_true c5; clear c5; replace H := Option.bind_eq_some_iff.mp H; obtain ⟨t157, A60, H⟩ := H; replace H : (if t157 < 0 then (some (-1)) else (laws_szPullSS.l0 k1 l0 t157 (wrap64 (x5_1 + 1)))) = some r := H; have A6 := zQ A60; clear A60
      by_cases c7 : t157 < 0
      ·rw [if_pos c7] at H
       have c7b0 : decide (t157 < 0) = true := decide_eq_true c7; clear c7; obtain rfl := Option.some.inj H; have p156 : 0 ≤ (x5_1 : Int) := of_decide_eq_true zA; have q156 : x5_1 < (l0.length : Int) := of_decide_eq_true zA; obtain ⟨ad156, A156_0, c156_0, e156, hx156_0, hl156_0, hi156_0⟩ := at_L7 HR0.out x5_1 p156 q156
       cases e156
       have HR156_0 := zQ hi156_0; have HC156_0 := zQ hl156_0; clear hi156_0 hl156_0; replace p156 := eq_true p156; replace q156 := eq_true q156
       go_wp2_with (first | ((with_reducible refine zgc 35 ?_); refine zgo (some 23) Try.func35 #[.slice A156_0 (rd_L7 l0 x5_1).length c156_0, .int .i64 x1_1] ?_; (with_reducible refine (laws_szPullS.calls _ _ (rd_L7 l0 x5_1) x1_1 t157 _ ?side1 HC156_0.out A6.out).mono ?_); (case side1 => repeat (first | exact HR156_0.out | (with_reducible refine Kd.C_alloc ?_ _) | (with_reducible refine Kd.C_drewN ?_ _) | (with_reducible refine Kd.C_drew ?_))); rintro e w' ⟨rfl, ⟨nd, rfl⟩⟩; refine ⟨_, rfl, ?_⟩))
       go_ret
       exact ⟨zF, by repeat (first | exact Drawn0.refl _ | apply Drawn0.step)⟩
      ·rw [if_neg c7] at H
       have c7b0 : decide (t157 < 0) = false := decide_eq_false c7; clear c7; have H' := zQ H; clear H; have p156 : 0 ≤ (x5_1 : Int) := of_decide_eq_true zA; have q156 : x5_1 < (l0.length : Int) := of_decide_eq_true zA; obtain ⟨ad156, A156_0, c156_0, e156, hx156_0, hl156_0, hi156_0⟩ := at_L7 HR0.out x5_1 p156 q156
       cases e156
       have HR156_0 := zQ hi156_0; have HC156_0 := zQ hl156_0; clear hi156_0 hl156_0; replace p156 := eq_true p156; replace q156 := eq_true q156
       go_wp2_with (first | ((with_reducible refine zgc 35 ?_); refine zgo (some 23) Try.func35 #[.slice A156_0 (rd_L7 l0 x5_1).length c156_0, .int .i64 x1_1] ?_; (with_reducible refine (laws_szPullS.calls _ _ (rd_L7 l0 x5_1) x1_1 t157 _ ?side1 HC156_0.out A6.out).mono ?_); (case side1 => repeat (first | exact HR156_0.out | (with_reducible refine Kd.C_alloc ?_ _) | (with_reducible refine Kd.C_drewN ?_ _) | (with_reducible refine Kd.C_drew ?_))); rintro e w' ⟨rfl, ⟨nd, rfl⟩⟩; refine ⟨_, rfl, ?_⟩))
       go_roundg k1
       case measure => have := HK1.out; omega
       case rel => exact ⟨(t157), (wrap64 (x5_1 + 1)), (zF), (zF), H', ⟨by have := HK1.out; omega⟩, by repeat (first | exact Drawn0.refl _ | apply Drawn0.step)⟩
     ·rw [if_neg c5] at H
      exact absurd H (by simp)
    ·rw [if_neg c4] at H
     have c4b0 : decide (x5_1 < (l0.length : Int)) = false := decide_eq_false c4; clear c4; obtain rfl := Option.some.inj H
     go_wp2
     go_ret
     exact ⟨zF, by repeat (first | exact Drawn0.refl _ | apply Drawn0.step)⟩

/-! ### spec_l11Winds: function 105 -/
def spec_l11Winds.l0 : Nat → List (List (S113)) → List Int → Int → List (S164) → List (S115) → Option (Int)
 | 0, _, _, _, _, _ => none
 | k + 1, x1, x2, x7, x1000, x1001 => if x7 < (x1.length : Int) then (if 0 ≤ x7 then ((spec_l09Loads.f k x1000 x1001 (rd_L9 x1 x7)).bind fun t169 => (if t169 = true then (spec_l11Winds.l0 k x1 x2 (wrap64 (x7 + 1)) x1000 x1001) else (some 1))) else (none)) else (if (x1.length : Int) > 4 then (some 2) else ((spec_l09Some.f k x1000 x1001 x2).bind fun t170 => (if t170 = true then (some 0) else (some 2))))
def spec_l11Winds.f (k : Nat) (l0_0 : List (S164)) (l0_1 : List (S115)) (l1 : List (List (S113))) (l2 : List Int) : Option (Int) := (spec_l09Ok.f k l0_0 l0_1).bind fun t167 => (if t167 = true then (spec_l11Winds.l0 k l1 l2 0 l0_0 l0_1) else (some 1))
theorem spec_l11Winds.mono_l : ∀ k, (∀ y0 y1 y2 y3 y4, LeO (spec_l11Winds.l0 k y0 y1 y2 y3 y4) (spec_l11Winds.l0 (k + 1) y0 y1 y2 y3 y4))
 | 0 => fun _ _ _ _ _ r h => by simp [spec_l11Winds.l0] at h
 | k + 1 => by
  have ih0 := spec_l11Winds.mono_l k
  ·intro y0 y1 y2 y3 y4
   unfold spec_l11Winds.l0
   (with_reducible repeat' first | apply ih0 | apply spec_l09Loads.mono | apply spec_l09Ok.mono | apply spec_l09Some.mono | apply LeO.refl | apply LeO.none | refine LeO.ite ?_ ?_ | refine LeO.bind ?_ (fun _ => ?_))
   repeat' first | apply ih0 | apply spec_l09Loads.mono | apply spec_l09Ok.mono | apply spec_l09Some.mono | apply LeO.none | refine LeO.ite ?_ ?_ | refine LeO.bind ?_ (fun _ => ?_)
theorem spec_l11Winds.mono : ∀ a0 a1 a2 a3 k, LeO (spec_l11Winds.f k a0 a1 a2 a3) (spec_l11Winds.f (k + 1) a0 a1 a2 a3) := by
 intro a0 a1 a2 a3 k
 have ih0 := spec_l11Winds.mono_l k
 unfold spec_l11Winds.f
 (with_reducible repeat' first | apply ih0 | apply spec_l09Loads.mono | apply spec_l09Ok.mono | apply spec_l09Some.mono | apply LeO.refl | apply LeO.none | refine LeO.ite ?_ ?_ | refine LeO.bind ?_ (fun _ => ?_))
 repeat' first | apply ih0 | apply spec_l09Loads.mono | apply spec_l09Ok.mono | apply spec_l09Some.mono | apply LeO.none | refine LeO.ite ?_ ?_ | refine LeO.bind ?_ (fun _ => ?_)
set_option maxHeartbeats 8000000 in
set_option maxRecDepth 100000 in
theorem spec_l11Winds.calls (k : Nat) (g0 : Nat) (A0_0 : Option Addr) (c0_0 : Nat) (l0_0 : List (S164)) (A0_1 : Option Addr) (c0_1 : Nat) (l0_1 : List (S115)) (A1 : Option Addr) (c1 : Nat) (l1 : List (List (S113))) (A2 : Option Addr) (c2 : Nat) (l2 : List Int) (r : Int) (w : World) (hbk0 : w.heap[g0]? = some (.cells #[.slice A0_0 l0_0.length c0_0, .slice A0_1 l0_1.length c0_1] 27 (0, 0))) (hr0_0 : Kd.C k164 w A0_0 l0_0.length l0_0) (hc0_0 : l0_0.length ≤ c0_0) (hr0_1 : Kd.C k115 w A0_1 l0_1.length l0_1) (hc0_1 : l0_1.length ≤ c0_1) (hr1 : Kd.C (Kd.slice 113 k113) w A1 l1.length l1) (hc1 : l1.length ≤ c1) (hr2 : Kd.C (Kd.int .i64) w A2 l2.length l2) (hc2 : l2.length ≤ c2) (h : spec_l11Winds.f k l0_0 l0_1 l1 l2 = some r) :
  Calls Try.prog 105 #[.pointer (some ⟨g0, 0, none⟩), .slice A1 l1.length c1, .slice A2 l2.length c2] w fun e w' => e = .returned (.int .i64 r) ∧ Below w.heap.size w w' := by
 have HR0_0 := zQ hr0_0
 have HC0_0 := zQ hc0_0
 clear hr0_0 hc0_0
 have HR0_1 := zQ hr0_1
 have HC0_1 := zQ hc0_1
 clear hr0_1 hc0_1
 have HR1 := zQ hr1
 have HC1 := zQ hc1
 clear hr1 hc1
 have HR2 := zQ hr2
 have HC2 := zQ hc2
 clear hr2 hc2
 have BK0 := zQ hbk0
 clear hbk0
 have HB := zQ (Below.refl w.heap.size w)
 have H : ((spec_l09Ok.f k l0_0 l0_1).bind fun t167 => (if t167 = true then (spec_l11Winds.l0 k l1 l2 0 l0_0 l0_1) else (some 1))) = some r := h
 clear h
 replace H := Option.bind_eq_some_iff.mp H
 obtain ⟨t167, A40, H⟩ := H
 replace H : (if t167 = true then (spec_l11Winds.l0 k l1 l2 0 l0_0 l0_1) else (some 1)) = some r := H
 have A4 := zQ A40
 clear A40
 by_cases c5 : t167 = true
 ·subst c5
  have H1 : (spec_l11Winds.l0 k l1 l2 0 l0_0 l0_1) = some r := by rw [if_pos rfl] at H; exact H
  clear H; have H := H1; clear H1; have H' := zQ H; clear H
  go_enter Try.func105, Try.ntmps105
  go_wp2_with (first | ((with_reducible refine zgc 117 ?_); refine zgo (some 9) Try.func117 #[.pointer (some ⟨g0, 0, none⟩)] ?_; (with_reducible refine (spec_l09Ok.calls k g0 A0_0 c0_0 l0_0 A0_1 c0_1 l0_1 true _ (zb BK0.out) ?side2 HC0_0.out ?side4 HC0_1.out A4.out).mono ?_); (case side2 => repeat (first | exact HR0_0.out | (with_reducible refine Kd.C_alloc ?_ _) | (with_reducible refine Kd.C_drewN ?_ _) | (with_reducible refine Kd.C_drew ?_))); (case side4 => repeat (first | exact HR0_1.out | (with_reducible refine Kd.C_alloc ?_ _) | (with_reducible refine Kd.C_drewN ?_ _) | (with_reducible refine Kd.C_drew ?_))); rintro e w6 ⟨rfl, hb⟩; refine ⟨_, rfl, ?_⟩; replace BK0 := zbl BK0.out hb; replace HB := zbs HB.out hb; (try clear hb)))
  go_loopg [7] k (fun kq v7 w' => ∃ (x7_1 : Int), v7 = .int .i64 x7_1 ∧ Aside0 (spec_l11Winds.l0 kq l1 l2 x7_1 l0_0 l0_1 = some r) ∧ Aside0 (kq ≤ k) ∧ Aside0 (w'.heap[g0]? = some (.cells #[(.slice A0_0 l0_0.length c0_0), (.slice A0_1 l0_1.length c0_1)] 27 (0, 0))) ∧ Aside0 (Below w.heap.size w w'))
  case atStart => exact ⟨(0), (zF), H', ⟨Nat.le_refl _⟩, ⟨zb BK0.out⟩, ⟨zB HB.out⟩⟩
  case round =>
   clear H'; (try clear c1); (try clear c2); (try clear p2); (try clear c5); obtain ⟨x7_1, rfl, HA, HK1, BK0, HB⟩ := hrel
   cases gk with
   | zero => exact absurd HA.out (by simp [spec_l11Winds.l0])
   | succ k1 =>
    have H := HA.out; clear HA
    simp only [spec_l11Winds.l0] at H
    by_cases c7 : x7_1 < (l1.length : Int)
    ·rw [if_pos c7] at H
     have c7b0 : decide (x7_1 < (l1.length : Int)) = true := decide_eq_true c7; clear c7
     by_cases c8 : 0 ≤ x7_1
     ·rw [if_pos c8] at H
      have c8b0 : decide (0 ≤ x7_1) = true := decide_eq_true c8; clear c8; replace H := Option.bind_eq_some_iff.mp H; obtain ⟨t169, A90, H⟩ := H; replace H : (if t169 = true then (spec_l11Winds.l0 k1 l1 l2 (wrap64 (x7_1 + 1)) l0_0 l0_1) else (some 1)) = some r := H; have A9 := zQ A90; clear A90
      by_cases c10 : t169 = true
      ·subst c10
       have H1 : (spec_l11Winds.l0 k1 l1 l2 (wrap64 (x7_1 + 1)) l0_0 l0_1) = some r := by rw [if_pos rfl] at H; exact H
       clear H; have H := H1; clear H1; have H' := zQ H; clear H; have p168 : 0 ≤ (x7_1 : Int) := of_decide_eq_true zA; have q168 : x7_1 < (l1.length : Int) := of_decide_eq_true zA; obtain ⟨ad168, A168_0, c168_0, e168, hx168_0, hl168_0, hi168_0⟩ := at_L9 HR1.out x7_1 p168 q168
       cases e168
       replace hx168_0 := zw HB.out hx168_0; have HR168_0 := zQ hi168_0; have HC168_0 := zQ hl168_0; clear hi168_0 hl168_0; replace p168 := eq_true p168; replace q168 := eq_true q168
       go_wp2_with (first | ((with_reducible refine zgc 118 ?_); refine zgo (some 22) Try.func118 #[.pointer (some ⟨g0, 0, none⟩), .slice A168_0 (rd_L9 l1 x7_1).length c168_0] ?_; (with_reducible refine (spec_l09Loads.calls k1 g0 A0_0 c0_0 l0_0 A0_1 c0_1 l0_1 _ _ (rd_L9 l1 x7_1) true _ (zb BK0.out) (zC HR0_0.out HB.out) HC0_0.out (zC HR0_1.out HB.out) HC0_1.out (zC HR168_0.out HB.out) HC168_0.out A9.out).mono ?_); rintro e w11 ⟨rfl, hb⟩; refine ⟨_, rfl, ?_⟩; replace BK0 := zbl BK0.out hb; replace HB := zbs HB.out hb; (try clear hb)))
       go_roundg k1
       case measure => have := HK1.out; omega
       case rel => exact ⟨(wrap64 (x7_1 + 1)), (zF), H', ⟨by have := HK1.out; omega⟩, ⟨zb BK0.out⟩, ⟨zB HB.out⟩⟩
      ·replace c10 := Bool.eq_false_iff.mpr c10
       subst c10
       have H1 : (some 1) = some r := by rw [if_neg (show ¬ (false = true) by decide)] at H; exact H
       clear H; have H := H1; clear H1; obtain rfl := Option.some.inj H; have p168 : 0 ≤ (x7_1 : Int) := of_decide_eq_true zA; have q168 : x7_1 < (l1.length : Int) := of_decide_eq_true zA; obtain ⟨ad168, A168_0, c168_0, e168, hx168_0, hl168_0, hi168_0⟩ := at_L9 HR1.out x7_1 p168 q168
       cases e168
       replace hx168_0 := zw HB.out hx168_0; have HR168_0 := zQ hi168_0; have HC168_0 := zQ hl168_0; clear hi168_0 hl168_0; replace p168 := eq_true p168; replace q168 := eq_true q168
       go_wp2_with (first | ((with_reducible refine zgc 118 ?_); refine zgo (some 22) Try.func118 #[.pointer (some ⟨g0, 0, none⟩), .slice A168_0 (rd_L9 l1 x7_1).length c168_0] ?_; (with_reducible refine (spec_l09Loads.calls k1 g0 A0_0 c0_0 l0_0 A0_1 c0_1 l0_1 _ _ (rd_L9 l1 x7_1) false _ (zb BK0.out) (zC HR0_0.out HB.out) HC0_0.out (zC HR0_1.out HB.out) HC0_1.out (zC HR168_0.out HB.out) HC168_0.out A9.out).mono ?_); rintro e w12 ⟨rfl, hb⟩; refine ⟨_, rfl, ?_⟩; replace BK0 := zbl BK0.out hb; replace HB := zbs HB.out hb; (try clear hb)))
       go_ret
       exact ⟨zE, zB HB.out⟩
     ·rw [if_neg c8] at H
      exact absurd H (by simp)
    ·rw [if_neg c7] at H
     have c7b0 : decide (x7_1 < (l1.length : Int)) = false := decide_eq_false c7; clear c7
     by_cases c13 : (l1.length : Int) > 4
     ·rw [if_pos c13] at H
      have c13b0 : decide (4 < (l1.length : Int)) = true := decide_eq_true c13; have c13b1 : decide (4 < l1.length) = true := decide_eq_true (by omega); clear c13; obtain rfl := Option.some.inj H
      go_wp2
      go_ret
      exact ⟨zE, zB HB.out⟩
     ·rw [if_neg c13] at H
      have c13b0 : decide (4 < (l1.length : Int)) = false := decide_eq_false c13; have c13b1 : decide (4 < l1.length) = false := decide_eq_false (by omega); clear c13; replace H := Option.bind_eq_some_iff.mp H; obtain ⟨t170, A140, H⟩ := H; replace H : (if t170 = true then (some 0) else (some 2)) = some r := H; have A14 := zQ A140; clear A140
      by_cases c15 : t170 = true
      ·subst c15
       have H1 : (some 0) = some r := by rw [if_pos rfl] at H; exact H
       clear H; have H := H1; clear H1; obtain rfl := Option.some.inj H
       go_wp2_with (first | (go_at_call 119; (with_reducible refine (spec_l09Some.calls k1 g0 A0_0 c0_0 l0_0 A0_1 c0_1 l0_1 _ _ l2 true _ (zb BK0.out) (zC HR0_0.out HB.out) HC0_0.out (zC HR0_1.out HB.out) HC0_1.out (zC HR2.out HB.out) HC2.out A14.out).mono ?_); rintro e w16 ⟨rfl, hb⟩; replace BK0 := zbl BK0.out hb; replace HB := zbs HB.out hb; (try clear hb); (try clear hb2); (try clear hk); (try clear hi)))
       go_ret
       exact ⟨zE, zB HB.out⟩
      ·replace c15 := Bool.eq_false_iff.mpr c15
       subst c15
       have H1 : (some 2) = some r := by rw [if_neg (show ¬ (false = true) by decide)] at H; exact H
       clear H; have H := H1; clear H1; obtain rfl := Option.some.inj H
       go_wp2_with (first | (go_at_call 119; (with_reducible refine (spec_l09Some.calls k1 g0 A0_0 c0_0 l0_0 A0_1 c0_1 l0_1 _ _ l2 false _ (zb BK0.out) (zC HR0_0.out HB.out) HC0_0.out (zC HR0_1.out HB.out) HC0_1.out (zC HR2.out HB.out) HC2.out A14.out).mono ?_); rintro e w17 ⟨rfl, hb⟩; replace BK0 := zbl BK0.out hb; replace HB := zbs HB.out hb; (try clear hb); (try clear hb2); (try clear hk); (try clear hi)))
       go_ret
       exact ⟨zE, zB HB.out⟩
 ·replace c5 := Bool.eq_false_iff.mpr c5
  subst c5
  have H1 : (some 1) = some r := by rw [if_neg (show ¬ (false = true) by decide)] at H; exact H
  clear H; have H := H1; clear H1; obtain rfl := Option.some.inj H
  go_enter Try.func105, Try.ntmps105
  go_wp2_with (first | ((with_reducible refine zgc 117 ?_); refine zgo (some 9) Try.func117 #[.pointer (some ⟨g0, 0, none⟩)] ?_; (with_reducible refine (spec_l09Ok.calls k g0 A0_0 c0_0 l0_0 A0_1 c0_1 l0_1 false _ (zb BK0.out) ?side2 HC0_0.out ?side4 HC0_1.out A4.out).mono ?_); (case side2 => repeat (first | exact HR0_0.out | (with_reducible refine Kd.C_alloc ?_ _) | (with_reducible refine Kd.C_drewN ?_ _) | (with_reducible refine Kd.C_drew ?_))); (case side4 => repeat (first | exact HR0_1.out | (with_reducible refine Kd.C_alloc ?_ _) | (with_reducible refine Kd.C_drewN ?_ _) | (with_reducible refine Kd.C_drew ?_))); rintro e w18 ⟨rfl, hb⟩; refine ⟨_, rfl, ?_⟩; replace BK0 := zbl BK0.out hb; replace HB := zbs HB.out hb; (try clear hb)))
  go_ret
  exact ⟨zE, zB HB.out⟩

/-! ### laws_toPullSS: function 48 -/
def laws_toPullSS.l0 : Nat → List (List (S122)) → List (List (S113)) → Int → Option ((List (List (S113))))
 | 0, _, _, _ => none
 | k + 1, x0, x3, x4 => if x4 < (x0.length : Int) then (if 0 ≤ x4 then ((laws_toPullS.f k (rd_L7 x0 x4)).bind fun t227 => (if x4 < (x3.length : Int) then (laws_toPullSS.l0 k x0 (x3.set (x4 : Int).toNat t227) (wrap64 (x4 + 1))) else (none))) else (none)) else (some x3)
def laws_toPullSS.f (k : Nat) (l0 : List (List (S122))) : Option ((List (List (S113)))) := if 0 ≤ (l0.length : Int) then (if ((l0.length : Int) : Int).toNat ≤ 11728124029610 then (laws_toPullSS.l0 k l0 (List.replicate ((l0.length : Int) : Int).toNat []) 0) else (none)) else (none)
theorem laws_toPullSS.mono_l : ∀ k, (∀ y0 y1 y2, LeO (laws_toPullSS.l0 k y0 y1 y2) (laws_toPullSS.l0 (k + 1) y0 y1 y2))
 | 0 => fun _ _ _ r h => by simp [laws_toPullSS.l0] at h
 | k + 1 => by
  have ih0 := laws_toPullSS.mono_l k
  ·intro y0 y1 y2
   unfold laws_toPullSS.l0
   (with_reducible repeat' first | apply ih0 | apply laws_toPullS.mono | apply LeO.refl | apply LeO.none | refine LeO.ite ?_ ?_ | refine LeO.bind ?_ (fun _ => ?_))
   repeat' first | apply ih0 | apply laws_toPullS.mono | apply LeO.none | refine LeO.ite ?_ ?_ | refine LeO.bind ?_ (fun _ => ?_)
theorem laws_toPullSS.mono : ∀ a0 k, LeO (laws_toPullSS.f k a0) (laws_toPullSS.f (k + 1) a0) := by
 intro a0 k
 have ih0 := laws_toPullSS.mono_l k
 unfold laws_toPullSS.f
 (with_reducible repeat' first | apply ih0 | apply laws_toPullS.mono | apply LeO.refl | apply LeO.none | refine LeO.ite ?_ ?_ | refine LeO.bind ?_ (fun _ => ?_))
 repeat' first | apply ih0 | apply laws_toPullS.mono | apply LeO.none | refine LeO.ite ?_ ?_ | refine LeO.bind ?_ (fun _ => ?_)
set_option maxHeartbeats 8000000 in
set_option maxRecDepth 100000 in
theorem laws_toPullSS.calls (k : Nat) (A0 : Option Addr) (c0 : Nat) (l0 : List (List (S122))) (r : List (List (S113))) (w : World) (hr0 : Kd.C (Kd.slice 122 k122) w A0 l0.length l0) (hc0 : l0.length ≤ c0) (h : laws_toPullSS.f k l0 = some r) :
  Calls Try.prog 48 #[.slice A0 l0.length c0] w fun e w' => ∃ v0_ : Value, e = .returned (v0_) ∧ Kd.S (Kd.slice 113 k113) 28 w' w.heap.size (fun _ => True) v0_ r ∧ Below w.heap.size w w' := by
 have HR0 := zQ hr0
 have HC0 := zQ hc0
 clear hr0 hc0
 have HB := zQ (Below.refl w.heap.size w)
 have H : (if 0 ≤ (l0.length : Int) then (if ((l0.length : Int) : Int).toNat ≤ 11728124029610 then (laws_toPullSS.l0 k l0 (List.replicate ((l0.length : Int) : Int).toNat []) 0) else (none)) else (none)) = some r := h
 clear h
 by_cases c2 : 0 ≤ (l0.length : Int)
 ·rw [if_pos c2] at H
  have c2b0 := eq_true c2; have c2b1 : decide (0 ≤ (l0.length : Int)) = true := decide_eq_true c2; clear c2
  by_cases c3 : ((l0.length : Int) : Int).toNat ≤ 11728124029610
  ·rw [if_pos c3] at H
   have c3b0 := eq_true c3; have c3b1 : decide (((l0.length : Int) : Int).toNat ≤ 11728124029610) = true := decide_eq_true c3; clear c3; obtain ⟨y223, hy223⟩ : ∃ y_ : List (List (S113)), y_ = (List.replicate ((l0.length : Int) : Int).toNat []) := ⟨_, rfl⟩; replace H : (laws_toPullSS.l0 k l0 y223 0) = some r := zh H; have Ny223 := zQ hy223; clear hy223; have H' := zQ H; clear H
   go_enter Try.func48, Try.ntmps48
   go_wp2_with (first | ((with_reducible refine zd 7 ?_); refine Kd.S_make (Kd.slice 113 k113) _ 28 rfl (N := 7) rfl 71 _ _ rfl (l0.length : Int) rfl rfl Try.underlying71 (.slice none 0 0) 24 info28 rfl (by decide) (by omega) [] (ok := fun _ => True) (okp := fun _ => True) ⟨_, rfl, Kd.R_nil _ _ _ _ _⟩ (fun _ hk => hk) trivial (of_decide_eq_true zA) (Nat.le_trans (Nat.mul_le_mul_right _ (of_decide_eq_true zA : (l0.length : Int).toNat ≤ 11728124029610)) (by omega)) (Below.refl _ _) (Nat.le_refl _) ?_; intro v224 w4 ho5 hb hg_ hnew_; clear hg_ hnew_; (first | rw [← Ny223.out] at ho5 | (simp only [Int.reduceToNat] at ho5; rw [← Ny223.out] at ho5)); have HO225 := zQ (Kd.S_lower ho5 (below_size (zB HB.out))); replace HB := zbs HB.out hb; clear hb ho5))
   go_loopg [4] k (fun kq v4 w' => ∃ (x3_1 : List (List (S113))) (x4_1 : Int), v4 = .int .i64 x4_1 ∧ Aside0 (laws_toPullSS.l0 kq l0 x3_1 x4_1 = some r) ∧ Aside0 (kq ≤ k) ∧ Aside0 (Kd.S (Kd.slice 113 k113) 28 w' w.heap.size (fun _ => True) v224 x3_1) ∧ Aside0 (Below w.heap.size w w'))
   case atStart => exact ⟨(y223), (0), (zF), H', ⟨Nat.le_refl _⟩, ⟨zS HO225.out⟩, ⟨zB HB.out⟩⟩
   case round =>
    clear H'; (try clear c2); (try clear c2b0); (try clear c2b1); (try clear p2); (try clear c3); (try clear c3b0); (try clear c3b1); (try clear c4); obtain ⟨x3_1, x4_1, rfl, HA, HK1, HO_3, HB⟩ := hrel
    cases gk with
    | zero => exact absurd HA.out (by simp [laws_toPullSS.l0])
    | succ k1 =>
     have H := HA.out; clear HA
     simp only [laws_toPullSS.l0] at H
     by_cases c6 : x4_1 < (l0.length : Int)
     ·rw [if_pos c6] at H
      have c6b0 : decide (x4_1 < (l0.length : Int)) = true := decide_eq_true c6; clear c6
      by_cases c7 : 0 ≤ x4_1
      ·rw [if_pos c7] at H
       have c7b0 : decide (0 ≤ x4_1) = true := decide_eq_true c7; clear c7; replace H := Option.bind_eq_some_iff.mp H; obtain ⟨t227, A80, H⟩ := H; replace H : (if x4_1 < (x3_1.length : Int) then (laws_toPullSS.l0 k1 l0 (x3_1.set (x4_1 : Int).toNat t227) (wrap64 (x4_1 + 1))) else (none)) = some r := H; have A8 := zQ A80; clear A80
       by_cases c9 : x4_1 < (x3_1.length : Int)
       ·rw [if_pos c9] at H
        have c9b0 : decide (x4_1 < (x3_1.length : Int)) = true := decide_eq_true c9; clear c9; obtain ⟨y230, hy230⟩ : ∃ y_ : List (List (S113)), y_ = (x3_1.set (x4_1 : Int).toNat t227) := ⟨_, rfl⟩; replace H : (laws_toPullSS.l0 k1 l0 y230 (wrap64 (x4_1 + 1))) = some r := zh H; have Ny230 := zQ hy230; clear hy230; have H' := zQ H; clear H; have p226 : 0 ≤ (x4_1 : Int) := of_decide_eq_true zA; have q226 : x4_1 < (l0.length : Int) := of_decide_eq_true zA; obtain ⟨ad226, A226_0, c226_0, e226, hx226_0, hl226_0, hi226_0⟩ := at_L7 HR0.out x4_1 p226 q226
        cases e226
        replace hx226_0 := zw HB.out hx226_0; have HR226_0 := zQ hi226_0; have HC226_0 := zQ hl226_0; clear hi226_0 hl226_0; replace p226 := eq_true p226; replace q226 := eq_true q226
        go_wp2_with (first | ((with_reducible refine zgc 37 ?_); refine zgo (some 20) Try.func37 #[.slice A226_0 (rd_L7 l0 x4_1).length c226_0] ?_; (with_reducible refine (laws_toPullS.calls k1 _ _ (rd_L7 l0 x4_1) t227 _ (zC HR226_0.out HB.out) HC226_0.out A8.out).mono ?_); rintro e w11 ⟨v228, rfl, ho0, hb⟩; (try have ev228 := Kd.R_slice ho0); refine ⟨_, rfl, ?_⟩; have HO229 := zQ (Kd.R_lower ho0 (below_size (zB HB.out))); replace HO_3 := zQ (Kd.S_elder' (zS HO_3.out) (Kd.R_base ho0) hb); replace HB := zbs HB.out hb; (try clear hb); (try clear ho0); have p10 : 0 ≤ (x4_1 : Int) := of_decide_eq_true zA; have q10 : (x4_1 : Int) < ((x3_1.length : Int) : Int) := of_decide_eq_true zA; obtain ⟨go10, co10, eo10, gb10, gl10, cl10, HG10⟩ := Kd.S_form HO_3.out (by omega); (first | cases eo10 | (injection eo10 with ea_ en_ ec_; (first | subst ea_ | (injection ea_ with ea_; subst ea_)); subst ec_; clear en_)); have GB10 := zQ gb10; have GG10 := zQ HG10; clear gb10 gl10 HG10; obtain ⟨_, ce10, hcl10, hM10, hcc10, hfr10, _, _⟩ := Kd.S_elem HO_3.out [] (x4_1 : Int) p10 q10; obtain ⟨ve10_0, rfl, ge10_0⟩ := hM10; have hx10_0 := hcc10 0 _ rfl; have hf10_0 := hfr10 0; (try simp only [show ((Kd.slice 113 k113)).sz = 1 from rfl, Nat.mul_one, Nat.add_zero] at hx10_0); (try simp only [show ((Kd.slice 113 k113)).sz = 1 from rfl, Nat.mul_one, Nat.add_zero] at hf10_0); (try clear hM10); clear hcl10 hcc10 hfr10; replace p10 := eq_true p10; replace q10 := eq_true q10; have n_ := zQ (Kd.S_mono (ok' := (fun k_ => some k_ ≠ (v228 : Value).ownBlock)) HO_3.out (fun k_ hk => hk.2)); clear HO_3; have HO_3 := n_; clear n_; have HX12 := zQ (show Kd.S (Kd.slice 113 k113) 28 w11 w.heap.size (fun k_ => ((fun _ => True)) k_ ∧ ¬ ((fun k_ => some k_ = (v228 : Value).ownBlock)) k_) (.slice (some ⟨go10, 0, none⟩) x3_1.length co10) x3_1 from (by (with_reducible repeat (first | apply Kd.S_alloc | apply Kd.S_drewN | apply Kd.S_drew)); exact Kd.S_mono HO_3.out (fun k_ hk => ⟨trivial, fun e_ => hk e_⟩))); obtain ⟨oki12, ce12, hcl12, hM12, hcc12, hfr12, hoki12, hH12⟩ := Kd.S_elem HX12.out [] (x4_1 : Int) (of_decide_eq_true zA) (by have h_ : (x4_1 : Int) < ((x3_1.length : Int) : Int) := of_decide_eq_true zA; first | exact h_ | (have e_ := (Kd.S_reads' HO_3.out).1; omega) | simpa using h_); obtain ⟨ve12_0, rfl, ge12_0⟩ := hM12; have HP12 := Kd.S_seg hH12 (of_decide_eq_true zA) (by have h_ : (x4_1 : Int) < ((x3_1.length : Int) : Int) := of_decide_eq_true zA; first | exact h_ | (have e_ := (Kd.S_reads' HO_3.out).1; omega) | simpa using h_) (seg := [v228]) (j := 0) (show 1 ≤ 1 from by decide) (x' := t227) (Kd.M_row (Kd.R_mono (Kd.R_tight rfl (Kd.R_mono (ok' := fun k_ => ((fun _ => True)) k_ ∧ k_ ≠ go10) (Kd.R_apart' (HO229.out) (Kd.S_typed HO_3.out) (by decide)) (fun k_ hk => ⟨trivial, fun e_ => (hk.2) (by rw [e_]; rfl)⟩))) (fun _ h_ => Or.inr (h_)))) (fun _ hk => hk) (fun k_ hk_ => ((Kd.R_mono (ok' := fun k_ => ((fun _ => True)) k_ ∧ k_ ≠ go10) (Kd.R_apart' (HO229.out) (Kd.S_typed HO_3.out) (by decide)) (fun k_ hk => ⟨trivial, fun e_ => (hk.2) (by rw [e_]; rfl)⟩))).1 k_ hk_.symm); have hx12_0 := hcc12 0 _ rfl; (try simp only [show ((Kd.slice 113 k113)).sz = 1 from rfl, Nat.mul_one, Nat.add_zero] at hx12_0); have hf12_0 := hfr12 0; (try simp only [show ((Kd.slice 113 k113)).sz = 1 from rfl, Nat.mul_one, Nat.add_zero] at hf12_0); (try clear hM12); clear hcl12 hcc12 hfr12 hoki12 hH12; (try simp only [show ((Kd.slice 113 k113)).sz = 1 from rfl, Nat.mul_one, Nat.add_zero] at HP12)) | ((with_reducible refine gate_store (t := 28) (p := 21) rfl ?_); refine store_event (t := 28) (p := 21) (v := ?vo_w13) (w1 := (w11.setCell ⟨go10, (x4_1 : Int).toNat, none⟩ (v228))) ?hg ?ho ?hn ?hr ?_; (case ho => rfl); (case hg => rfl); (case hn => rfl); (case hr => first | (go_simp; done) | (go_simp; rfl) | (obtain ⟨_, _, rfl⟩ := ev228; go_simp; done) | (obtain ⟨_, _, rfl⟩ := ev228; go_simp; rfl)); intro w13 hw; have hg : w11.grownBy w13 (some go10) := (by rw [hw]; exact HP12.2); have hp_ : Kd.S (Kd.slice 113 k113) 28 w13 w.heap.size (fun _ => True) (.slice (some ⟨go10, 0, none⟩) x3_1.length co10) y230 := (by rw [hw, Ny230.out]; exact HP12.1); clear HP12; replace HO_3 := zQ (hp_); replace HB := zQ ((by rw [hw]; exact below_set (HB.out) GB10.out : Below w.heap.size w w13)); clear HO229 hg hw hp_))
        go_roundg k1
        case measure => have := HK1.out; omega
        case rel => exact ⟨(y230), (wrap64 (x4_1 + 1)), (zF), H', ⟨by have := HK1.out; omega⟩, ⟨zS HO_3.out⟩, ⟨zB HB.out⟩⟩
       ·rw [if_neg c9] at H
        exact absurd H (by simp)
      ·rw [if_neg c7] at H
       exact absurd H (by simp)
     ·rw [if_neg c6] at H
      have c6b0 : decide (x4_1 < (l0.length : Int)) = false := decide_eq_false c6; clear c6; obtain rfl := Option.some.inj H
      go_wp2
      go_ret
      exact ⟨_, zE, zS HO_3.out, zB HB.out⟩
  ·rw [if_neg c3] at H
   exact absurd H (by simp)
 ·rw [if_neg c2] at H
  exact absurd H (by simp)

/-! ### impl_windsCode: function 107 -/
def impl_windsCode.l0 : Nat → List (List (S113)) → List Int → List (List (S113)) → Int → Int → List (S164) → List (S115) → Option (Int)
 | 0, _, _, _, _, _, _, _ => none
 | k + 1, x1, x2, x12, x13, x14, x251000, x251001 => if x14 < x13 then (if 0 ≤ x14 then (if x14 < (x12.length : Int) then ((impl_ValidLoads.f k x251000 x251001 (rd_L9 x12 x14)).bind fun t253 => (if t253 = true then (impl_windsCode.l0 k x1 x2 x12 x13 (wrap64 (x14 + 1)) x251000 x251001) else (some 1))) else (none)) else (none)) else (if (x1.length : Int) > 4 then (some 2) else ((impl_areBars.f k x251000 x251001 x2).bind fun t254 => (if t254 = true then (some 0) else (some 2))))
def impl_windsCode.f (k : Nat) (l0_0 : List (S164)) (l0_1 : List (S115)) (l1 : List (List (S113))) (l2 : List Int) : Option (Int) := (impl_ValidFrame.f k l0_0 l0_1).bind fun t251 => (if t251 = true then (impl_windsCode.l0 k l1 l2 l1 (l1.length : Int) 0 l0_0 l0_1) else (some 1))
theorem impl_windsCode.mono_l : ∀ k, (∀ y0 y1 y2 y3 y4 y5 y6, LeO (impl_windsCode.l0 k y0 y1 y2 y3 y4 y5 y6) (impl_windsCode.l0 (k + 1) y0 y1 y2 y3 y4 y5 y6))
 | 0 => fun _ _ _ _ _ _ _ r h => by simp [impl_windsCode.l0] at h
 | k + 1 => by
  have ih0 := impl_windsCode.mono_l k
  ·intro y0 y1 y2 y3 y4 y5 y6
   unfold impl_windsCode.l0
   (with_reducible repeat' first | apply ih0 | apply impl_ValidFrame.mono | apply impl_ValidLoads.mono | apply impl_areBars.mono | apply LeO.refl | apply LeO.none | refine LeO.ite ?_ ?_ | refine LeO.bind ?_ (fun _ => ?_))
   repeat' first | apply ih0 | apply impl_ValidFrame.mono | apply impl_ValidLoads.mono | apply impl_areBars.mono | apply LeO.none | refine LeO.ite ?_ ?_ | refine LeO.bind ?_ (fun _ => ?_)
theorem impl_windsCode.mono : ∀ a0 a1 a2 a3 k, LeO (impl_windsCode.f k a0 a1 a2 a3) (impl_windsCode.f (k + 1) a0 a1 a2 a3) := by
 intro a0 a1 a2 a3 k
 have ih0 := impl_windsCode.mono_l k
 unfold impl_windsCode.f
 (with_reducible repeat' first | apply ih0 | apply impl_ValidFrame.mono | apply impl_ValidLoads.mono | apply impl_areBars.mono | apply LeO.refl | apply LeO.none | refine LeO.ite ?_ ?_ | refine LeO.bind ?_ (fun _ => ?_))
 repeat' first | apply ih0 | apply impl_ValidFrame.mono | apply impl_ValidLoads.mono | apply impl_areBars.mono | apply LeO.none | refine LeO.ite ?_ ?_ | refine LeO.bind ?_ (fun _ => ?_)
set_option maxHeartbeats 8000000 in
set_option maxRecDepth 100000 in
theorem impl_windsCode.calls (k : Nat) (A0_0 : Option Addr) (c0_0 : Nat) (l0_0 : List (S164)) (A0_1 : Option Addr) (c0_1 : Nat) (l0_1 : List (S115)) (A1 : Option Addr) (c1 : Nat) (l1 : List (List (S113))) (A2 : Option Addr) (c2 : Nat) (l2 : List Int) (r : Int) (w : World) (hr0_0 : Kd.C k164 w A0_0 l0_0.length l0_0) (hc0_0 : l0_0.length ≤ c0_0) (hr0_1 : Kd.C k115 w A0_1 l0_1.length l0_1) (hc0_1 : l0_1.length ≤ c0_1) (hr1 : Kd.C (Kd.slice 113 k113) w A1 l1.length l1) (hc1 : l1.length ≤ c1) (hr2 : Kd.C (Kd.int .i64) w A2 l2.length l2) (hc2 : l2.length ≤ c2) (h : impl_windsCode.f k l0_0 l0_1 l1 l2 = some r) :
  Calls Try.prog 107 #[.agg #[.slice A0_0 l0_0.length c0_0, .slice A0_1 l0_1.length c0_1], .slice A1 l1.length c1, .slice A2 l2.length c2] w fun e w' => e = .returned (.int .i64 r) ∧ Below w.heap.size w w' := by
 have hu27 := Try.underlying27
 have HR0_0 := zQ hr0_0
 have HC0_0 := zQ hc0_0
 clear hr0_0 hc0_0
 have HR0_1 := zQ hr0_1
 have HC0_1 := zQ hc0_1
 clear hr0_1 hc0_1
 have HR1 := zQ hr1
 have HC1 := zQ hc1
 clear hr1 hc1
 have HR2 := zQ hr2
 have HC2 := zQ hc2
 clear hr2 hc2
 have HB := zQ (Below.refl w.heap.size w)
 have H : ((impl_ValidFrame.f k l0_0 l0_1).bind fun t251 => (if t251 = true then (impl_windsCode.l0 k l1 l2 l1 (l1.length : Int) 0 l0_0 l0_1) else (some 1))) = some r := h
 clear h
 replace H := Option.bind_eq_some_iff.mp H
 obtain ⟨t251, A40, H⟩ := H
 replace H : (if t251 = true then (impl_windsCode.l0 k l1 l2 l1 (l1.length : Int) 0 l0_0 l0_1) else (some 1)) = some r := H
 have A4 := zQ A40
 clear A40
 by_cases c5 : t251 = true
 ·subst c5
  have H1 : (impl_windsCode.l0 k l1 l2 l1 (l1.length : Int) 0 l0_0 l0_1) = some r := by rw [if_pos rfl] at H; exact H
  clear H; have H := H1; clear H1; have H' := zQ H; clear H
  go_enter Try.func107, Try.ntmps107
  go_wp2_with (first | ((with_reducible refine zd 3 ?_); refine zbx (N := 3) (cs := #[.slice A0_0 l0_0.length c0_0, .slice A0_1 l0_1.length c0_1]) (t := 27) ?_; intro gb250 hg w6 hbox hb; have BK250 := zQ (hbox); have GW250 := zgz hg HB.out; have GE250 := GW250; replace HB := zbs HB.out hb; clear hb hbox hg; have hcz7_0 := zc0 BK250.out; have hcz7_1 := zc1 BK250.out; have hfz7_0 := zfz BK250.out 0; have hfz7_1 := zfz BK250.out 1) | ((with_reducible refine zgc 115 ?_); refine goesL_ (some 10) rfl rfl Try.func115 (by kernel_rfl) rfl #[.agg #[.slice A0_0 l0_0.length c0_0, .slice A0_1 l0_1.length c0_1]] rfl zM ?_; (with_reducible refine (impl_ValidFrame.calls k _ _ l0_0 _ _ l0_1 true _ (zC HR0_0.out HB.out) HC0_0.out (zC HR0_1.out HB.out) HC0_1.out A4.out).mono ?_); rintro e w8 ⟨rfl, hb⟩; refine ⟨_, rfl, ?_⟩; replace BK250 := zbl BK250.out hb; replace HB := zbs2 HB.out GE250.out hb; (try clear hb)))
  go_loopg [14] k (fun kq v14 w' => ∃ (x14_1 : Int), v14 = .int .i64 x14_1 ∧ Aside0 (impl_windsCode.l0 kq l1 l2 l1 (l1.length : Int) x14_1 l0_0 l0_1 = some r) ∧ Aside0 (kq ≤ k) ∧ Aside0 (w'.heap[gb250]? = some (.cells #[(.slice A0_0 l0_0.length c0_0), (.slice A0_1 l0_1.length c0_1)] 27 (0, 0))) ∧ Aside0 (Below w.heap.size w w'))
  case atStart => exact ⟨(0), (zF), H', ⟨Nat.le_refl _⟩, ⟨zb BK250.out⟩, ⟨zB2 HB.out GE250.out⟩⟩
  case round =>
   clear H'; (try clear c1); (try clear c2); (try clear p2); (try clear c5); (try clear hcz7_0); (try clear hcz7_1); (try clear hfz7_0); (try clear hfz7_1); obtain ⟨x14_1, rfl, HA, HK1, BK250, HB⟩ := hrel
   cases gk with
   | zero => exact absurd HA.out (by simp [impl_windsCode.l0])
   | succ k1 =>
    have H := HA.out; clear HA
    simp only [impl_windsCode.l0] at H
    by_cases c9 : x14_1 < (l1.length : Int)
    ·rw [if_pos c9] at H
     have c9b0 : decide (x14_1 < (l1.length : Int)) = true := decide_eq_true c9; clear c9
     by_cases c10 : 0 ≤ x14_1
     ·rw [if_pos c10] at H
      have c10b0 : decide (0 ≤ x14_1) = true := decide_eq_true c10; clear c10
      by_cases c11 : x14_1 < (l1.length : Int)
      ·rw [if_pos c11] at H
       have c11b0 : decide (x14_1 < (l1.length : Int)) = true := decide_eq_true c11; clear c11; replace H := Option.bind_eq_some_iff.mp H; obtain ⟨t253, A120, H⟩ := H; replace H : (if t253 = true then (impl_windsCode.l0 k1 l1 l2 l1 (l1.length : Int) (wrap64 (x14_1 + 1)) l0_0 l0_1) else (some 1)) = some r := H; have A12 := zQ A120; clear A120
       by_cases c13 : t253 = true
       ·subst c13
        have H1 : (impl_windsCode.l0 k1 l1 l2 l1 (l1.length : Int) (wrap64 (x14_1 + 1)) l0_0 l0_1) = some r := by rw [if_pos rfl] at H; exact H
        clear H; have H := H1; clear H1; have H' := zQ H; clear H; have p252 : 0 ≤ (x14_1 : Int) := of_decide_eq_true zA; have q252 : x14_1 < (l1.length : Int) := of_decide_eq_true zA; obtain ⟨ad252, A252_0, c252_0, e252, hx252_0, hl252_0, hi252_0⟩ := at_L9 HR1.out x14_1 p252 q252
        cases e252
        replace hx252_0 := zw HB.out hx252_0; have HR252_0 := zQ hi252_0; have HC252_0 := zQ hl252_0; clear hi252_0 hl252_0; replace p252 := eq_true p252; replace q252 := eq_true q252; have hcz14_0 := zc0 BK250.out; have hcz14_1 := zc1 BK250.out; have hfz14_0 := zfz BK250.out 0; have hfz14_1 := zfz BK250.out 1
        go_wp2_with (first | ((with_reducible refine zgc 67 ?_); refine goesL_ (some 20) rfl rfl Try.func67 (by kernel_rfl) rfl #[.agg #[.slice A0_0 l0_0.length c0_0, .slice A0_1 l0_1.length c0_1], .slice A252_0 (rd_L9 l1 x14_1).length c252_0] rfl zM ?_; (with_reducible refine (impl_ValidLoads.calls k1 _ _ l0_0 _ _ l0_1 _ _ (rd_L9 l1 x14_1) true _ (zC HR0_0.out HB.out) HC0_0.out (zC HR0_1.out HB.out) HC0_1.out (zC HR252_0.out HB.out) HC252_0.out A12.out).mono ?_); rintro e w15 ⟨rfl, hb⟩; refine ⟨_, rfl, ?_⟩; replace BK250 := zbl BK250.out hb; replace HB := zbs2 HB.out GE250.out hb; (try clear hb)))
        go_roundg k1
        case measure => have := HK1.out; omega
        case rel => exact ⟨(wrap64 (x14_1 + 1)), (zF), H', ⟨by have := HK1.out; omega⟩, ⟨zb BK250.out⟩, ⟨zB2 HB.out GE250.out⟩⟩
       ·replace c13 := Bool.eq_false_iff.mpr c13
        subst c13
        have H1 : (some 1) = some r := by rw [if_neg (show ¬ (false = true) by decide)] at H; exact H
        clear H; have H := H1; clear H1; obtain rfl := Option.some.inj H; have p252 : 0 ≤ (x14_1 : Int) := of_decide_eq_true zA; have q252 : x14_1 < (l1.length : Int) := of_decide_eq_true zA; obtain ⟨ad252, A252_0, c252_0, e252, hx252_0, hl252_0, hi252_0⟩ := at_L9 HR1.out x14_1 p252 q252
        cases e252
        replace hx252_0 := zw HB.out hx252_0; have HR252_0 := zQ hi252_0; have HC252_0 := zQ hl252_0; clear hi252_0 hl252_0; replace p252 := eq_true p252; replace q252 := eq_true q252; have hcz16_0 := zc0 BK250.out; have hcz16_1 := zc1 BK250.out; have hfz16_0 := zfz BK250.out 0; have hfz16_1 := zfz BK250.out 1
        go_wp2_with (first | ((with_reducible refine zgc 67 ?_); refine goesL_ (some 20) rfl rfl Try.func67 (by kernel_rfl) rfl #[.agg #[.slice A0_0 l0_0.length c0_0, .slice A0_1 l0_1.length c0_1], .slice A252_0 (rd_L9 l1 x14_1).length c252_0] rfl zM ?_; (with_reducible refine (impl_ValidLoads.calls k1 _ _ l0_0 _ _ l0_1 _ _ (rd_L9 l1 x14_1) false _ (zC HR0_0.out HB.out) HC0_0.out (zC HR0_1.out HB.out) HC0_1.out (zC HR252_0.out HB.out) HC252_0.out A12.out).mono ?_); rintro e w17 ⟨rfl, hb⟩; refine ⟨_, rfl, ?_⟩; replace BK250 := zbl BK250.out hb; replace HB := zbs2 HB.out GE250.out hb; (try clear hb)))
        go_ret
        exact ⟨zE, zB2 HB.out GE250.out⟩
      ·rw [if_neg c11] at H
       exact absurd H (by simp)
     ·rw [if_neg c10] at H
      exact absurd H (by simp)
    ·rw [if_neg c9] at H
     have c9b0 : decide (x14_1 < (l1.length : Int)) = false := decide_eq_false c9; clear c9
     by_cases c18 : (l1.length : Int) > 4
     ·rw [if_pos c18] at H
      have c18b0 : decide (4 < (l1.length : Int)) = true := decide_eq_true c18; have c18b1 : decide (4 < l1.length) = true := decide_eq_true (by omega); clear c18; obtain rfl := Option.some.inj H
      go_wp2
      go_ret
      exact ⟨zE, zB2 HB.out GE250.out⟩
     ·rw [if_neg c18] at H
      have c18b0 : decide (4 < (l1.length : Int)) = false := decide_eq_false c18; have c18b1 : decide (4 < l1.length) = false := decide_eq_false (by omega); clear c18; replace H := Option.bind_eq_some_iff.mp H; obtain ⟨t254, A190, H⟩ := H; replace H : (if t254 = true then (some 0) else (some 2)) = some r := H; have A19 := zQ A190; clear A190
      by_cases c20 : t254 = true
      ·subst c20
       have H1 : (some 0) = some r := by rw [if_pos rfl] at H; exact H
       clear H; have H := H1; clear H1; obtain rfl := Option.some.inj H; have hcz21_0 := zc0 BK250.out; have hcz21_1 := zc1 BK250.out; have hfz21_0 := zfz BK250.out 0; have hfz21_1 := zfz BK250.out 1
       go_wp2_with (first | (go_at_call 76; (with_reducible refine (impl_areBars.calls k1 _ _ l0_0 _ _ l0_1 _ _ l2 true _ (zC HR0_0.out HB.out) HC0_0.out (zC HR0_1.out HB.out) HC0_1.out (zC HR2.out HB.out) HC2.out A19.out).mono ?_); rintro e w22 ⟨rfl, hb⟩; replace BK250 := zbl BK250.out hb; replace HB := zbs2 HB.out GE250.out hb; (try clear hb); (try clear hb2); (try clear hk); (try clear hi)))
       go_ret
       exact ⟨zE, zB2 HB.out GE250.out⟩
      ·replace c20 := Bool.eq_false_iff.mpr c20
       subst c20
       have H1 : (some 2) = some r := by rw [if_neg (show ¬ (false = true) by decide)] at H; exact H
       clear H; have H := H1; clear H1; obtain rfl := Option.some.inj H; have hcz23_0 := zc0 BK250.out; have hcz23_1 := zc1 BK250.out; have hfz23_0 := zfz BK250.out 0; have hfz23_1 := zfz BK250.out 1
       go_wp2_with (first | (go_at_call 76; (with_reducible refine (impl_areBars.calls k1 _ _ l0_0 _ _ l0_1 _ _ l2 false _ (zC HR0_0.out HB.out) HC0_0.out (zC HR0_1.out HB.out) HC0_1.out (zC HR2.out HB.out) HC2.out A19.out).mono ?_); rintro e w24 ⟨rfl, hb⟩; replace BK250 := zbl BK250.out hb; replace HB := zbs2 HB.out GE250.out hb; (try clear hb); (try clear hb2); (try clear hk); (try clear hi)))
       go_ret
       exact ⟨zE, zB2 HB.out GE250.out⟩
 ·replace c5 := Bool.eq_false_iff.mpr c5
  subst c5
  have H1 : (some 1) = some r := by rw [if_neg (show ¬ (false = true) by decide)] at H; exact H
  clear H; have H := H1; clear H1; obtain rfl := Option.some.inj H
  go_enter Try.func107, Try.ntmps107
  go_wp2_with (first | ((with_reducible refine zd 3 ?_); refine zbx (N := 3) (cs := #[.slice A0_0 l0_0.length c0_0, .slice A0_1 l0_1.length c0_1]) (t := 27) ?_; intro gb250 hg w25 hbox hb; have BK250 := zQ (hbox); have GW250 := zgz hg HB.out; have GE250 := GW250; replace HB := zbs HB.out hb; clear hb hbox hg; have hcz26_0 := zc0 BK250.out; have hcz26_1 := zc1 BK250.out; have hfz26_0 := zfz BK250.out 0; have hfz26_1 := zfz BK250.out 1) | ((with_reducible refine zgc 115 ?_); refine goesL_ (some 10) rfl rfl Try.func115 (by kernel_rfl) rfl #[.agg #[.slice A0_0 l0_0.length c0_0, .slice A0_1 l0_1.length c0_1]] rfl zM ?_; (with_reducible refine (impl_ValidFrame.calls k _ _ l0_0 _ _ l0_1 false _ (zC HR0_0.out HB.out) HC0_0.out (zC HR0_1.out HB.out) HC0_1.out A4.out).mono ?_); rintro e w27 ⟨rfl, hb⟩; refine ⟨_, rfl, ?_⟩; replace BK250 := zbl BK250.out hb; replace HB := zbs2 HB.out GE250.out hb; (try clear hb)))
  go_ret
  exact ⟨zE, zB2 HB.out GE250.out⟩

/-! ### laws_eqPullSS: function 50 -/
def laws_eqPullSS.l0 : Nat → List (List (S113)) → List (List (S113)) → Int → Option (Bool)
 | 0, _, _, _ => none
 | k + 1, x0, x1, x5 => if x5 < (x0.length : Int) then (if 0 ≤ x5 then (if x5 < (x1.length : Int) then ((laws_eqPullS.f k (rd_L9 x0 x5) (rd_L9 x1 x5)).bind fun t321 => (if t321 = true then (laws_eqPullSS.l0 k x0 x1 (wrap64 (x5 + 1))) else (some false))) else (none)) else (none)) else (some true)
def laws_eqPullSS.f (k : Nat) (l0 : List (List (S113))) (l1 : List (List (S113))) : Option (Bool) := if (l0.length : Int) = (l1.length : Int) then (laws_eqPullSS.l0 k l0 l1 0) else (some false)
theorem laws_eqPullSS.mono_l : ∀ k, (∀ y0 y1 y2, LeO (laws_eqPullSS.l0 k y0 y1 y2) (laws_eqPullSS.l0 (k + 1) y0 y1 y2))
 | 0 => fun _ _ _ r h => by simp [laws_eqPullSS.l0] at h
 | k + 1 => by
  have ih0 := laws_eqPullSS.mono_l k
  ·intro y0 y1 y2
   unfold laws_eqPullSS.l0
   (with_reducible repeat' first | apply ih0 | apply laws_eqPullS.mono | apply LeO.refl | apply LeO.none | refine LeO.ite ?_ ?_ | refine LeO.bind ?_ (fun _ => ?_))
   repeat' first | apply ih0 | apply laws_eqPullS.mono | apply LeO.none | refine LeO.ite ?_ ?_ | refine LeO.bind ?_ (fun _ => ?_)
theorem laws_eqPullSS.mono : ∀ a0 a1 k, LeO (laws_eqPullSS.f k a0 a1) (laws_eqPullSS.f (k + 1) a0 a1) := by
 intro a0 a1 k
 have ih0 := laws_eqPullSS.mono_l k
 unfold laws_eqPullSS.f
 (with_reducible repeat' first | apply ih0 | apply laws_eqPullS.mono | apply LeO.refl | apply LeO.none | refine LeO.ite ?_ ?_ | refine LeO.bind ?_ (fun _ => ?_))
 repeat' first | apply ih0 | apply laws_eqPullS.mono | apply LeO.none | refine LeO.ite ?_ ?_ | refine LeO.bind ?_ (fun _ => ?_)
def laws_eqPullSS.T6 : Bool × List (List Nat × List Nat) := (true, [([], []), ([], []), ([0, 1], [0, 1]), ([2], [2]), ([], []), ([], []), ([4, 5], [4, 5]), ([6], [6]), ([3, 7], [3, 7]), ([8], [8])])
def laws_eqPullSS.B6 : List Nat := [0, 0, 3, 7, 0, 0, 48, 112, 255, 511]
theorem laws_eqPullSS.tab6 : rtab .any (opsOf Try.f50 6) = laws_eqPullSS.T6 := by kernel_rfl
theorem laws_eqPullSS.bits6 : waitsOk laws_eqPullSS.T6.2 laws_eqPullSS.B6 = true := by kernel_rfl
set_option maxHeartbeats 8000000 in
set_option maxRecDepth 100000 in
theorem laws_eqPullSS.calls (k : Nat) (A0 : Option Addr) (c0 : Nat) (l0 : List (List (S113))) (A1 : Option Addr) (c1 : Nat) (l1 : List (List (S113))) (r : Bool) (w : World) (hr0 : Kd.C (Kd.slice 113 k113) w A0 l0.length l0) (hc0 : l0.length ≤ c0) (hr1 : Kd.C (Kd.slice 113 k113) w A1 l1.length l1) (hc1 : l1.length ≤ c1) (h : laws_eqPullSS.f k l0 l1 = some r) :
  Calls Try.prog 50 #[.slice A0 l0.length c0, .slice A1 l1.length c1] w fun e w' => e = .returned (.bool r) ∧ Below w.heap.size w w' := by
 have HR0 := zQ hr0
 have HC0 := zQ hc0
 clear hr0 hc0
 have HR1 := zQ hr1
 have HC1 := zQ hc1
 clear hr1 hc1
 have HB := zQ (Below.refl w.heap.size w)
 have H : (if (l0.length : Int) = (l1.length : Int) then (laws_eqPullSS.l0 k l0 l1 0) else (some false)) = some r := h
 clear h
 by_cases c3 : (l0.length : Int) = (l1.length : Int)
 ·rw [if_pos c3] at H
  have c3b0 : ((l0.length : Int) == (l1.length : Int)) = true := beq_iff_eq.mpr c3; have c3b1 : ((l0.length : Int) != (l1.length : Int)) = false := bne_eq_false_iff_eq.mpr c3
  have c3b2 : (l0.length == l1.length) = true := by first | simpa using c3 | (simp at c3 ⊢; omega)
  clear c3; have H' := zQ H; clear H
  go_enter Try.func50, Try.ntmps50
  go_wp2
  go_loopg [5] k (fun kq v5 w' => ∃ (x5_1 : Int), v5 = .int .i64 x5_1 ∧ Aside0 (laws_eqPullSS.l0 kq l0 l1 x5_1 = some r) ∧ Aside0 (kq ≤ k) ∧ Aside0 (Below w.heap.size w w'))
  case atStart => exact ⟨(0), (zF), H', ⟨Nat.le_refl _⟩, ⟨zB HB.out⟩⟩
  case round =>
   clear H'; (try clear c1); (try clear p2); (try clear c3); (try clear c3b0); (try clear c3b1); (try clear c3b2); obtain ⟨x5_1, rfl, HA, HK1, HB⟩ := hrel
   cases gk with
   | zero => exact absurd HA.out (by simp [laws_eqPullSS.l0])
   | succ k1 =>
    have H := HA.out; clear HA
    simp only [laws_eqPullSS.l0] at H
    by_cases c4 : x5_1 < (l0.length : Int)
    ·rw [if_pos c4] at H
     have c4b0 : decide (x5_1 < (l0.length : Int)) = true := decide_eq_true c4; clear c4
     by_cases c5 : 0 ≤ x5_1
     ·rw [if_pos c5] at H
      have c5b0 : decide (0 ≤ x5_1) = true := decide_eq_true c5; clear c5
      by_cases c6 : x5_1 < (l1.length : Int)
      ·rw [if_pos c6] at H
       have c6b0 : decide (x5_1 < (l1.length : Int)) = true := decide_eq_true c6; clear c6; replace H := Option.bind_eq_some_iff.mp H; obtain ⟨t321, A70, H⟩ := H; replace H : (if t321 = true then (laws_eqPullSS.l0 k1 l0 l1 (wrap64 (x5_1 + 1))) else (some false)) = some r := H; have A7 := zQ A70; clear A70
       by_cases c8 : t321 = true
       ·subst c8
        have H1 : (laws_eqPullSS.l0 k1 l0 l1 (wrap64 (x5_1 + 1))) = some r := by rw [if_pos rfl] at H; exact H
        clear H; have H := H1; clear H1; have H' := zQ H; clear H
        try go_wp2
        have n0_ := zQ (below_drew1 HB.out); clear HB; have HB := n0_; clear n0_; have p319 : 0 ≤ (x5_1 : Int) := of_decide_eq_true zA; have q319 : x5_1 < (l0.length : Int) := of_decide_eq_true zA; obtain ⟨ad319, A319_0, c319_0, e319, hx319_0, hl319_0, hi319_0⟩ := at_L9 HR0.out x5_1 p319 q319; have hw319_0 := hx319_0
        cases e319
        replace hx319_0 := zw HB.out hx319_0; have HR319_0 := zQ hi319_0; have HC319_0 := zQ hl319_0; clear hi319_0 hl319_0; replace p319 := eq_true p319; replace q319 := eq_true q319; have p320 : 0 ≤ (x5_1 : Int) := of_decide_eq_true zA; have q320 : x5_1 < (l1.length : Int) := of_decide_eq_true zA; obtain ⟨ad320, A320_0, c320_0, e320, hx320_0, hl320_0, hi320_0⟩ := at_L9 HR1.out x5_1 p320 q320; have hw320_0 := hx320_0
        cases e320
        replace hx320_0 := zw HB.out hx320_0; have HR320_0 := zQ hi320_0; have HC320_0 := zQ hl320_0; clear hi320_0 hl320_0; replace p320 := eq_true p320; replace q320 := eq_true q320
        refine zs (fun w' => w'.cell? (ad319.add (x5_1).toNat) = some (.slice A319_0 (rd_L9 l0 x5_1).length c319_0) ∧ w'.cell? (ad320.add (x5_1).toNat) = some (.slice A320_0 (rd_L9 l1 x5_1).length c320_0)) [] 10 ⟨((HB.out.cell (World.block_lt_of_cell? w _ hw319_0)).trans hw319_0), ((HB.out.cell (World.block_lt_of_cell? w _ hw320_0)).trans hw320_0)⟩ (fun hHeld => ?_); refine with_tabW laws_eqPullSS.tab6 laws_eqPullSS.bits6 (fun HT_ HW_ => ?_)
        generalize wr.drew = w9 at HB HR319_0 HR320_0 hx319_0 hx320_0 hHeld ⊢
        refine zp 0 17 ?_
        refine zp 1 18 ?_
        refine zp 2 19 ?_
        refine zp 4 21 ?_
        refine zp 5 22 ?_
        refine zp 6 23 ?_
        refine zt 3 20 hHeld ?_
        refine zt 7 24 hHeld ?_
        refine zo 8 (some 25) (fun K hK => ?_)
        refine goes_ Try.func40 (by kernel_rfl) rfl #[.slice A319_0 (rd_L9 l0 x5_1).length c319_0, .slice A320_0 (rd_L9 l1 x5_1).length c320_0] (by rfl) rfl rfl zM ?_
        with_reducible refine (laws_eqPullS.calls k1 _ _ (rd_L9 l0 x5_1) _ _ (rd_L9 l1 x5_1) true _ ?side1 ?side2 ?side3 ?side4 A7.out).mono ?_
        (case side1 => exact zC HR319_0.out HB.out)
        (case side2 => exact HC319_0.out)
        (case side3 => exact zC HR320_0.out HB.out)
        (case side4 => exact HC320_0.out)
        rintro e w10 ⟨rfl, hb⟩
        refine ⟨_, rfl, ?_⟩
        have n0_ := zbs HB.out hb; clear HB; have HB := n0_; clear n0_
        (try clear hb)
        (try clear hb2)
        (try clear hk)
        (try clear hi)
        refine hK.out _ _ ⟨((HB.out.cell (World.block_lt_of_cell? w _ hw319_0)).trans hw319_0), ((HB.out.cell (World.block_lt_of_cell? w _ hw320_0)).trans hw320_0)⟩ (fun hHeld => ?_)
        clear hK K
        refine zn 25 ?_
        refine zp 9 26 ?_
        refine done_ (done_of HT_.out (by kernel_rfl)) ?_
        try go_wp2
        go_roundg k1
        case measure => have := HK1.out; omega
        case rel => exact ⟨(wrap64 (x5_1 + 1)), (zF), H', ⟨by have := HK1.out; omega⟩, ⟨zB HB.out⟩⟩
       ·replace c8 := Bool.eq_false_iff.mpr c8
        subst c8
        have H1 : (some false) = some r := by rw [if_neg (show ¬ (false = true) by decide)] at H; exact H
        clear H; have H := H1; clear H1; obtain rfl := Option.some.inj H
        try go_wp2
        have n0_ := zQ (below_drew1 HB.out); clear HB; have HB := n0_; clear n0_; have p319 : 0 ≤ (x5_1 : Int) := of_decide_eq_true zA; have q319 : x5_1 < (l0.length : Int) := of_decide_eq_true zA; obtain ⟨ad319, A319_0, c319_0, e319, hx319_0, hl319_0, hi319_0⟩ := at_L9 HR0.out x5_1 p319 q319; have hw319_0 := hx319_0
        cases e319
        replace hx319_0 := zw HB.out hx319_0; have HR319_0 := zQ hi319_0; have HC319_0 := zQ hl319_0; clear hi319_0 hl319_0; replace p319 := eq_true p319; replace q319 := eq_true q319; have p320 : 0 ≤ (x5_1 : Int) := of_decide_eq_true zA; have q320 : x5_1 < (l1.length : Int) := of_decide_eq_true zA; obtain ⟨ad320, A320_0, c320_0, e320, hx320_0, hl320_0, hi320_0⟩ := at_L9 HR1.out x5_1 p320 q320; have hw320_0 := hx320_0
        cases e320
        replace hx320_0 := zw HB.out hx320_0; have HR320_0 := zQ hi320_0; have HC320_0 := zQ hl320_0; clear hi320_0 hl320_0; replace p320 := eq_true p320; replace q320 := eq_true q320
        refine zs (fun w' => w'.cell? (ad319.add (x5_1).toNat) = some (.slice A319_0 (rd_L9 l0 x5_1).length c319_0) ∧ w'.cell? (ad320.add (x5_1).toNat) = some (.slice A320_0 (rd_L9 l1 x5_1).length c320_0)) [] 10 ⟨((HB.out.cell (World.block_lt_of_cell? w _ hw319_0)).trans hw319_0), ((HB.out.cell (World.block_lt_of_cell? w _ hw320_0)).trans hw320_0)⟩ (fun hHeld => ?_); refine with_tabW laws_eqPullSS.tab6 laws_eqPullSS.bits6 (fun HT_ HW_ => ?_)
        generalize wr.drew = w11 at HB HR319_0 HR320_0 hx319_0 hx320_0 hHeld ⊢
        refine zp 0 17 ?_
        refine zp 1 18 ?_
        refine zp 2 19 ?_
        refine zp 4 21 ?_
        refine zp 5 22 ?_
        refine zp 6 23 ?_
        refine zt 3 20 hHeld ?_
        refine zt 7 24 hHeld ?_
        refine zo 8 (some 25) (fun K hK => ?_)
        refine goes_ Try.func40 (by kernel_rfl) rfl #[.slice A319_0 (rd_L9 l0 x5_1).length c319_0, .slice A320_0 (rd_L9 l1 x5_1).length c320_0] (by rfl) rfl rfl zM ?_
        with_reducible refine (laws_eqPullS.calls k1 _ _ (rd_L9 l0 x5_1) _ _ (rd_L9 l1 x5_1) false _ ?side1 ?side2 ?side3 ?side4 A7.out).mono ?_
        (case side1 => exact zC HR319_0.out HB.out)
        (case side2 => exact HC319_0.out)
        (case side3 => exact zC HR320_0.out HB.out)
        (case side4 => exact HC320_0.out)
        rintro e w12 ⟨rfl, hb⟩
        refine ⟨_, rfl, ?_⟩
        have n0_ := zbs HB.out hb; clear HB; have HB := n0_; clear n0_
        (try clear hb)
        (try clear hb2)
        (try clear hk)
        (try clear hi)
        refine hK.out _ _ ⟨((HB.out.cell (World.block_lt_of_cell? w _ hw319_0)).trans hw319_0), ((HB.out.cell (World.block_lt_of_cell? w _ hw320_0)).trans hw320_0)⟩ (fun hHeld => ?_)
        clear hK K
        refine zn 25 ?_
        refine zp 9 26 ?_
        refine done_ (done_of HT_.out (by kernel_rfl)) ?_
        try go_wp2
        go_ret
        exact ⟨zE, zB HB.out⟩
      ·rw [if_neg c6] at H
       exact absurd H (by simp)
     ·rw [if_neg c5] at H
      exact absurd H (by simp)
    ·rw [if_neg c4] at H
     have c4b0 : decide (x5_1 < (l0.length : Int)) = false := decide_eq_false c4; clear c4; obtain rfl := Option.some.inj H
     go_wp2
     go_ret
     exact ⟨zE, zB HB.out⟩
 ·rw [if_neg c3] at H
  have c3b0 : ((l0.length : Int) == (l1.length : Int)) = false := beq_eq_false_iff_ne.mpr c3; have c3b1 : ((l0.length : Int) != (l1.length : Int)) = true := bne_iff_ne.mpr c3
  have c3b2 : (l0.length == l1.length) = false := by first | simpa using c3 | (simp at c3 ⊢; omega)
  obtain rfl := Option.some.inj H
  go_enter Try.func50, Try.ntmps50
  go_wp2
  go_ret
  exact ⟨zE, zB HB.out⟩

end
end Go.Proofs.Ytimjblgepbhoaaa.PStays
