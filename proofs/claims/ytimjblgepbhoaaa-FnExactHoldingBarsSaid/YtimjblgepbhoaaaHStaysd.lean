import Derived.Test.YtimjblgepbhoaaaHStays0
import Derived.Test.YtimjblgepbhoaaaHStaysa
namespace Go.Proofs.Ytimjblgepbhoaaa.PStays
noncomputable section
open Go.RowKit Go.Proofs.YtimjblgepbhoaaaW.PrintWords Go.Proofs.YtimjblgepbhoaaaW.PrintLast Go.Proofs.YtimjblgepbhoaaaW.PrintMore
attribute [local go_sem] max2_int min2_int max_two min_two max_three min_three max_four min_four   -- for this text's walks alone
set_option linter.unusedVariables false
set_option linter.unusedSimpArgs false
set_option maxHeartbeats 8000000
set_option maxRecDepth 100000

def spec_l09Loads.l0 : Nat → List (S113) → Int → Option (Bool)
 | 0, _, _ => none
 | k + 1, x1, x5 => if x5 < (x1.length : Int) then (if 0 ≤ x5 then ((spec_l00In.f ((rd_T113 x1 x5).f0) (-100) 100).bind fun t159 => (if t159 = true then ((spec_l00In.f ((rd_T113 x1 x5).f1) (-100) 100).bind fun t161 => (if t161 = true then (spec_l09Loads.l0 k x1 (wrap64 (x5 + 1))) else (some false))) else (some false))) else (none)) else (some true)
def spec_l09Loads.f (k : Nat) (l0_0 : List (S164)) (l0_1 : List (S115)) (l1 : List (S113)) : Option (Bool) := if (l1.length : Int) = (l0_0.length : Int) then (spec_l09Loads.l0 k l1 0) else (some false)
theorem spec_l09Loads.mono_l : ∀ k, (∀ y0 y1, LeO (spec_l09Loads.l0 k y0 y1) (spec_l09Loads.l0 (k + 1) y0 y1))
 | 0 => fun _ _ r h => by simp [spec_l09Loads.l0] at h
 | k + 1 => by
  have ih0 := spec_l09Loads.mono_l k
  ·intro y0 y1
   unfold spec_l09Loads.l0
   exact zM0
theorem spec_l09Loads.mono : ∀ a0 a1 a2 k, LeO (spec_l09Loads.f k a0 a1 a2) (spec_l09Loads.f (k + 1) a0 a1 a2) := by
 intro a0 a1 a2 k
 have ih0 := spec_l09Loads.mono_l k
 unfold spec_l09Loads.f
 exact zM0
theorem spec_l09Loads.calls (k : Nat) (g0 : Nat) (A0_0 : Option Addr) (c0_0 : Nat) (l0_0 : List (S164)) (A0_1 : Option Addr) (c0_1 : Nat) (l0_1 : List (S115)) (A1 : Option Addr) (c1 : Nat) (l1 : List (S113)) (r : Bool) (w : World) (hbk0 : w.heap[g0]? = some (.cells #[.slice A0_0 l0_0.length c0_0, .slice A0_1 l0_1.length c0_1] 27 (0, 0))) (hr0_0 : Kd.C k164 w A0_0 l0_0.length l0_0) (hc0_0 : l0_0.length ≤ c0_0) (hr0_1 : Kd.C k115 w A0_1 l0_1.length l0_1) (hc0_1 : l0_1.length ≤ c0_1) (hr1 : Kd.C k113 w A1 l1.length l1) (hc1 : l1.length ≤ c1) (h : spec_l09Loads.f k l0_0 l0_1 l1 = some r) :
  Calls Try.prog 118 #[.pointer (some ⟨g0, 0, none⟩), .slice A1 l1.length c1] w fun e w' => e = .returned (.bool r) ∧ Below w.heap.size w w' := by
 have HR0_0 := zQ hr0_0
 have HC0_0 := zQ hc0_0
 clear hr0_0 hc0_0
 have HR0_1 := zQ hr0_1
 have HC0_1 := zQ hc0_1
 clear hr0_1 hc0_1
 have HR1 := zQ hr1
 have HC1 := zQ hc1
 clear hr1 hc1
 have BK0 := zQ hbk0
 clear hbk0
 have HB := zQ (Below.refl w.heap.size w)
 have H : (if (l1.length : Int) = (l0_0.length : Int) then (spec_l09Loads.l0 k l1 0) else (some false)) = some r := h
 clear h
 by_cases c3 : (l1.length : Int) = (l0_0.length : Int)
 ·rw [if_pos c3] at H
  have c3b0 : ((l1.length : Int) == (l0_0.length : Int)) = true := beq_iff_eq.mpr c3; have c3b1 : ((l1.length : Int) != (l0_0.length : Int)) = false := bne_eq_false_iff_eq.mpr c3
  have c3b2 : (l1.length == l0_0.length) = true := by first | simpa using c3 | (simp at c3 ⊢; omega)
  clear c3; have H' := zQ H; clear H; obtain ⟨hcz4_0, hcz4_1, hfz4_0, hfz4_1⟩ := zy2 BK0.out
  go_enter Try.func118, Try.ntmps118
  go_wp2
  go_loopg [5] k (fun kq v5 w' => ∃ (x5_1 : Int), v5 = .int .i64 x5_1 ∧ Aside0 (spec_l09Loads.l0 kq l1 x5_1 = some r) ∧ Aside0 (kq ≤ k) ∧ Aside0 (w'.heap[g0]? = some (.cells #[(.slice A0_0 l0_0.length c0_0), (.slice A0_1 l0_1.length c0_1)] 27 (0, 0))) ∧ Aside0 (Below w.heap.size w w'))
  case atStart => exact ⟨(0), (zF), H', ⟨Nat.le_refl _⟩, ⟨zb BK0.out⟩, ⟨zB HB.out⟩⟩
  case round =>
   clear H'; (try clear c1); (try clear p2); (try clear c3); (try clear c3b0); (try clear c3b1); (try clear c3b2); (try clear hcz4_0 hcz4_1 hfz4_0 hfz4_1); obtain ⟨x5_1, rfl, HA, HK1, BK0, HB⟩ := hrel
   cases gk with
   | zero => exact absurd HA.out (by simp [spec_l09Loads.l0])
   | succ k1 =>
    have H := HA.out; clear HA
    simp only [spec_l09Loads.l0] at H
    by_cases c5 : x5_1 < (l1.length : Int)
    ·rw [if_pos c5] at H
     have c5b0 := decide_eq_true c5; clear c5
     by_cases c6 : 0 ≤ x5_1
     ·rw [if_pos c6] at H
      have c6b0 := decide_eq_true c6; clear c6; replace H := zob H; obtain ⟨t159, A7, H⟩ := H
      by_cases c8 : t159 = true
      ·subst c8
       rw [if_pos rfl] at H; replace H := zob H; obtain ⟨t161, A9, H⟩ := H
       by_cases c10 : t161 = true
       ·subst c10
        rw [if_pos rfl] at H; have H' := zQ H; clear H; have p158 : 0 ≤ (x5_1 : Int) := zD; have q158 : x5_1 < (l1.length : Int) := zD; obtain ⟨ad158, e158, hx158_0, hx158_1⟩ := at_T113 HR1.out x5_1 p158 q158
        cases e158
        replace hx158_0 := zw HB.out hx158_0; replace hx158_1 := zw HB.out hx158_1; replace p158 := eq_true p158; replace q158 := eq_true q158
        go_wp2_with (first | ((with_reducible refine zgc 89 ?_); refine zgo (some 25) Try.func89 #[.int .i64 ((rd_T113 l1 x5_1).f0), .int .i64 (-100), .int .i64 100] ?_; (with_reducible refine (spec_l00In.calls ((rd_T113 l1 x5_1).f0) (-100) 100 true _ A7.out).mono ?_); rintro e w' ⟨rfl, ⟨nd, rfl⟩⟩; refine ⟨_, rfl, ?_⟩; have p160 : 0 ≤ (x5_1 : Int) := zD; have q160 : x5_1 < (l1.length : Int) := zD; obtain ⟨ad160, e160, hx160_0, hx160_1⟩ := at_T113 HR1.out x5_1 p160 q160; obtain rfl : ad158 = ad160 := (by injection e160); replace hx160_0 := zw HB.out hx160_0; replace hx160_1 := zw HB.out hx160_1; replace p160 := eq_true p160; replace q160 := eq_true q160) | (go_at_call 89; (with_reducible refine (spec_l00In.calls ((rd_T113 l1 x5_1).f1) (-100) 100 true _ A9.out).mono ?_); rintro e w' ⟨rfl, ⟨nd, rfl⟩⟩))
        go_roundg k1
        case measure => have := HK1.out; omega
        case rel => exact ⟨(wrap64 (x5_1 + 1)), (zF), H', ⟨by have := HK1.out; omega⟩, ⟨zb BK0.out⟩, ⟨zB HB.out⟩⟩
       ·replace c10 := Bool.eq_false_iff.mpr c10
        subst c10
        have H1 : (some false) = some r := by rw [if_neg (show ¬ (false = true) by decide)] at H; exact H
        clear H; have H := H1; clear H1; obtain rfl := Option.some.inj H; have p158 : 0 ≤ (x5_1 : Int) := zD; have q158 : x5_1 < (l1.length : Int) := zD; obtain ⟨ad158, e158, hx158_0, hx158_1⟩ := at_T113 HR1.out x5_1 p158 q158
        cases e158
        replace hx158_0 := zw HB.out hx158_0; replace hx158_1 := zw HB.out hx158_1; replace p158 := eq_true p158; replace q158 := eq_true q158
        go_wp2_with (first | ((with_reducible refine zgc 89 ?_); refine zgo (some 25) Try.func89 #[.int .i64 ((rd_T113 l1 x5_1).f0), .int .i64 (-100), .int .i64 100] ?_; (with_reducible refine (spec_l00In.calls ((rd_T113 l1 x5_1).f0) (-100) 100 true _ A7.out).mono ?_); rintro e w' ⟨rfl, ⟨nd, rfl⟩⟩; refine ⟨_, rfl, ?_⟩; have p160 : 0 ≤ (x5_1 : Int) := zD; have q160 : x5_1 < (l1.length : Int) := zD; obtain ⟨ad160, e160, hx160_0, hx160_1⟩ := at_T113 HR1.out x5_1 p160 q160; obtain rfl : ad158 = ad160 := (by injection e160); replace hx160_0 := zw HB.out hx160_0; replace hx160_1 := zw HB.out hx160_1; replace p160 := eq_true p160; replace q160 := eq_true q160) | (go_at_call 89; (with_reducible refine (spec_l00In.calls ((rd_T113 l1 x5_1).f1) (-100) 100 false _ A9.out).mono ?_); rintro e w' ⟨rfl, ⟨nd, rfl⟩⟩))
        go_ret
        exact ⟨zE, zB HB.out⟩
      ·replace c8 := Bool.eq_false_iff.mpr c8
       subst c8
       have H1 : (some false) = some r := by rw [if_neg (show ¬ (false = true) by decide)] at H; exact H
       clear H; have H := H1; clear H1; obtain rfl := Option.some.inj H; have p158 : 0 ≤ (x5_1 : Int) := zD; have q158 : x5_1 < (l1.length : Int) := zD; obtain ⟨ad158, e158, hx158_0, hx158_1⟩ := at_T113 HR1.out x5_1 p158 q158
       cases e158
       replace hx158_0 := zw HB.out hx158_0; replace hx158_1 := zw HB.out hx158_1; replace p158 := eq_true p158; replace q158 := eq_true q158
       go_wp2_with (first | ((with_reducible refine zgc 89 ?_); refine zgo (some 25) Try.func89 #[.int .i64 ((rd_T113 l1 x5_1).f0), .int .i64 (-100), .int .i64 100] ?_; (with_reducible refine (spec_l00In.calls ((rd_T113 l1 x5_1).f0) (-100) 100 false _ A7.out).mono ?_); rintro e w' ⟨rfl, ⟨nd, rfl⟩⟩; refine ⟨_, rfl, ?_⟩))
       go_ret
       exact ⟨zE, zB HB.out⟩
     ·rw [if_neg c6] at H
      exact absurd H (by simp)
    ·rw [if_neg c5] at H
     have c5b0 := decide_eq_false c5; clear c5; obtain rfl := Option.some.inj H
     go_wp2
     go_ret
     exact ⟨zE, zB HB.out⟩
 ·rw [if_neg c3] at H
  have c3b0 : ((l1.length : Int) == (l0_0.length : Int)) = false := beq_eq_false_iff_ne.mpr c3; have c3b1 : ((l1.length : Int) != (l0_0.length : Int)) = true := bne_iff_ne.mpr c3
  have c3b2 : (l1.length == l0_0.length) = false := by first | simpa using c3 | (simp at c3 ⊢; omega)
  obtain rfl := Option.some.inj H; obtain ⟨hcz11_0, hcz11_1, hfz11_0, hfz11_1⟩ := zy2 BK0.out
  go_enter Try.func118, Try.ntmps118
  go_wp2
  go_ret
  exact ⟨zE, zB HB.out⟩

def spec_l00Rises.l0 : Nat → List Int → Int → Int → Int → Option (Bool)
 | 0, _, _, _, _ => none
 | k + 1, x0, x1, x2, x7 => if x7 < (x0.length : Int) then (if 0 ≤ x7 then ((spec_l00In.f (rd x0 x7) x1 x2).bind fun t163 => (if t163 = true then (if x7 > 0 then (if 0 ≤ (wrap64 (x7 - 1)) then (if (wrap64 (x7 - 1)) < (x0.length : Int) then (if (rd x0 (wrap64 (x7 - 1))) ≥ (rd x0 x7) then (some false) else (spec_l00Rises.l0 k x0 x1 x2 (wrap64 (x7 + 1)))) else (none)) else (none)) else (spec_l00Rises.l0 k x0 x1 x2 (wrap64 (x7 + 1)))) else (some false))) else (none)) else (some true)
def spec_l00Rises.f (k : Nat) (l0 : List Int) (a1 : Int) (a2 : Int) : Option (Bool) := spec_l00Rises.l0 k l0 a1 a2 0
theorem spec_l00Rises.mono_l : ∀ k, (∀ y0 y1 y2 y3, LeO (spec_l00Rises.l0 k y0 y1 y2 y3) (spec_l00Rises.l0 (k + 1) y0 y1 y2 y3))
 | 0 => fun _ _ _ _ r h => by simp [spec_l00Rises.l0] at h
 | k + 1 => by
  have ih0 := spec_l00Rises.mono_l k
  ·intro y0 y1 y2 y3
   unfold spec_l00Rises.l0
   exact zM0
theorem spec_l00Rises.mono : ∀ a0 a1 a2 k, LeO (spec_l00Rises.f k a0 a1 a2) (spec_l00Rises.f (k + 1) a0 a1 a2) := by
 intro a0 a1 a2 k
 have ih0 := spec_l00Rises.mono_l k
 unfold spec_l00Rises.f
 exact zM0
theorem spec_l00Rises.calls (k : Nat) (A0 : Option Addr) (c0 : Nat) (l0 : List Int) (a1 : Int) (a2 : Int) (r : Bool) (w : World) (hr0 : Kd.C (Kd.int .i64) w A0 l0.length l0) (hc0 : l0.length ≤ c0) (h : spec_l00Rises.f k l0 a1 a2 = some r) :
  Calls Try.prog 135 #[.slice A0 l0.length c0, .int .i64 a1, .int .i64 a2] w fun e w' => e = .returned (.bool r) ∧ Drawn0 w w' := by
 have HR0 := zQ hr0
 have HC0 := zQ hc0
 clear hr0 hc0
 have H : (spec_l00Rises.l0 k l0 a1 a2 0) = some r := h
 clear h
 have H' := zQ H
 clear H
 go_enter Try.func135, Try.ntmps135
 go_wp2
 repeat (go_quiet (fail); try go_wp2)
 go_loopg [7] k (fun kq v7 w' => ∃ (x7_1 : Int), v7 = .int .i64 x7_1 ∧ Aside0 (spec_l00Rises.l0 kq l0 a1 a2 x7_1 = some r) ∧ Aside0 (kq ≤ k) ∧ Drawn0 w w')
 case atStart => exact ⟨(0), (zF), H', ⟨Nat.le_refl _⟩, by repeat (first | exact Drawn0.refl _ | apply Drawn0.step)⟩
 case round =>
  clear H'; (try clear c1); (try clear p2); obtain ⟨x7_1, rfl, HA, HK1, ⟨m1, rfl⟩⟩ := hrel
  cases gk with
  | zero => exact absurd HA.out (by simp [spec_l00Rises.l0])
  | succ k1 =>
   have H := HA.out; clear HA
   simp only [spec_l00Rises.l0] at H
   by_cases c4 : x7_1 < (l0.length : Int)
   ·rw [if_pos c4] at H
    have c4b0 := decide_eq_true c4; clear c4
    by_cases c5 : 0 ≤ x7_1
    ·rw [if_pos c5] at H
     have c5b0 := decide_eq_true c5; clear c5; replace H := zob H; obtain ⟨t163, A6, H⟩ := H
     by_cases c7 : t163 = true
     ·subst c7
      rw [if_pos rfl] at H
      by_cases c8 : x7_1 > 0
      ·rw [if_pos c8] at H
       have c8b0 := decide_eq_true c8; clear c8; obtain ⟨ji9, hji9⟩ : ∃ j_ : Int, (wrap64 (x7_1 - 1)) = j_ := ⟨_, rfl⟩
       replace H : (if 0 ≤ (ji9) then (if (ji9) < (l0.length : Int) then (if (rd l0 (ji9)) ≥ (rd l0 x7_1) then (some false) else (spec_l00Rises.l0 k1 l0 a1 a2 (wrap64 (x7_1 + 1)))) else (none)) else (none)) = some r := by first | (rw [hji9] at H; exact H) | (simp only [hji9] at H ⊢; exact H)
       (try rw [hji9] at A6)
       have hji9w : (IntKind.i64.wrap (x7_1 - 1)) = ji9 := (i64_w _).trans hji9
       by_cases c10 : 0 ≤ (ji9)
       ·rw [if_pos c10] at H
        have c10b0 := decide_eq_true c10; clear c10
        by_cases c11 : (ji9) < (l0.length : Int)
        ·rw [if_pos c11] at H
         have c11b0 := decide_eq_true c11; clear c11
         by_cases c12 : (rd l0 (ji9)) ≥ (rd l0 x7_1)
         ·rw [if_pos c12] at H
          have c12b0 := decide_eq_true c12; clear c12; obtain rfl := Option.some.inj H; have p162 : 0 ≤ (x7_1 : Int) := zD; have q162 : x7_1 < (l0.length : Int) := zD; obtain ⟨ad162, e162, hx162_0⟩ := Kd.at_int HR0.out x7_1 p162 q162
          cases e162
          replace p162 := eq_true p162; replace q162 := eq_true q162
          go_wp2_with (first | (go_at_call 89; (with_reducible refine (spec_l00In.calls (rd l0 x7_1) a1 a2 true _ A6.out).mono ?_); rintro e w' ⟨rfl, ⟨nd, rfl⟩⟩; (try first | exact ⟨rfl, _, World.drewN_drewN _ _ _⟩ | exact ⟨rfl, _, Eq.trans (World.drewN_drewN _ _ _) (congrArg (World.drewN _) (Nat.add_assoc _ _ _))⟩); have p164 : 0 ≤ ((ji9) : Int) := zD; have q164 : (ji9) < (l0.length : Int) := zD; obtain ⟨ad164, e164, hx164_0⟩ := Kd.at_int HR0.out (ji9) p164 q164; obtain rfl : ad162 = ad164 := (by injection e164); replace p164 := eq_true p164; replace q164 := eq_true q164; have p165 : 0 ≤ (x7_1 : Int) := zD; have q165 : x7_1 < (l0.length : Int) := zD; obtain ⟨ad165, e165, hx165_0⟩ := Kd.at_int HR0.out x7_1 p165 q165; obtain rfl : ad162 = ad165 := (by injection e165); replace p165 := eq_true p165; replace q165 := eq_true q165))
          repeat (go_quiet (first | (go_at_call 89; (with_reducible refine (spec_l00In.calls (rd l0 x7_1) a1 a2 true _ A6.out).mono ?_); rintro e w' ⟨rfl, ⟨nd, rfl⟩⟩; (try first | exact ⟨rfl, _, World.drewN_drewN _ _ _⟩ | exact ⟨rfl, _, Eq.trans (World.drewN_drewN _ _ _) (congrArg (World.drewN _) (Nat.add_assoc _ _ _))⟩); have p164 : 0 ≤ ((ji9) : Int) := zD; have q164 : (ji9) < (l0.length : Int) := zD; obtain ⟨ad164, e164, hx164_0⟩ := Kd.at_int HR0.out (ji9) p164 q164; obtain rfl : ad162 = ad164 := (by injection e164); replace p164 := eq_true p164; replace q164 := eq_true q164; have p165 : 0 ≤ (x7_1 : Int) := zD; have q165 : x7_1 < (l0.length : Int) := zD; obtain ⟨ad165, e165, hx165_0⟩ := Kd.at_int HR0.out x7_1 p165 q165; obtain rfl : ad162 = ad165 := (by injection e165); replace p165 := eq_true p165; replace q165 := eq_true q165)); try go_wp2_with (first | (go_at_call 89; (with_reducible refine (spec_l00In.calls (rd l0 x7_1) a1 a2 true _ A6.out).mono ?_); rintro e w' ⟨rfl, ⟨nd, rfl⟩⟩; (try first | exact ⟨rfl, _, World.drewN_drewN _ _ _⟩ | exact ⟨rfl, _, Eq.trans (World.drewN_drewN _ _ _) (congrArg (World.drewN _) (Nat.add_assoc _ _ _))⟩); have p164 : 0 ≤ ((ji9) : Int) := zD; have q164 : (ji9) < (l0.length : Int) := zD; obtain ⟨ad164, e164, hx164_0⟩ := Kd.at_int HR0.out (ji9) p164 q164; obtain rfl : ad162 = ad164 := (by injection e164); replace p164 := eq_true p164; replace q164 := eq_true q164; have p165 : 0 ≤ (x7_1 : Int) := zD; have q165 : x7_1 < (l0.length : Int) := zD; obtain ⟨ad165, e165, hx165_0⟩ := Kd.at_int HR0.out x7_1 p165 q165; obtain rfl : ad162 = ad165 := (by injection e165); replace p165 := eq_true p165; replace q165 := eq_true q165)))
          go_ret
          exact ⟨by first | rfl | (simp; done) | (simp only [← hji9] <;> (first | rfl | simp)) | (simp [*]; done), by repeat (first | exact Drawn0.refl _ | apply Drawn0.step)⟩
         ·rw [if_neg c12] at H
          have c12b0 := decide_eq_false c12; clear c12; have H' := zQ H; clear H; have p162 : 0 ≤ (x7_1 : Int) := zD; have q162 : x7_1 < (l0.length : Int) := zD; obtain ⟨ad162, e162, hx162_0⟩ := Kd.at_int HR0.out x7_1 p162 q162
          cases e162
          replace p162 := eq_true p162; replace q162 := eq_true q162
          go_wp2_with (first | (go_at_call 89; (with_reducible refine (spec_l00In.calls (rd l0 x7_1) a1 a2 true _ A6.out).mono ?_); rintro e w' ⟨rfl, ⟨nd, rfl⟩⟩; (try first | exact ⟨rfl, _, World.drewN_drewN _ _ _⟩ | exact ⟨rfl, _, Eq.trans (World.drewN_drewN _ _ _) (congrArg (World.drewN _) (Nat.add_assoc _ _ _))⟩); have p164 : 0 ≤ ((ji9) : Int) := zD; have q164 : (ji9) < (l0.length : Int) := zD; obtain ⟨ad164, e164, hx164_0⟩ := Kd.at_int HR0.out (ji9) p164 q164; obtain rfl : ad162 = ad164 := (by injection e164); replace p164 := eq_true p164; replace q164 := eq_true q164; have p165 : 0 ≤ (x7_1 : Int) := zD; have q165 : x7_1 < (l0.length : Int) := zD; obtain ⟨ad165, e165, hx165_0⟩ := Kd.at_int HR0.out x7_1 p165 q165; obtain rfl : ad162 = ad165 := (by injection e165); replace p165 := eq_true p165; replace q165 := eq_true q165))
          repeat (go_quiet (first | (go_at_call 89; (with_reducible refine (spec_l00In.calls (rd l0 x7_1) a1 a2 true _ A6.out).mono ?_); rintro e w' ⟨rfl, ⟨nd, rfl⟩⟩; (try first | exact ⟨rfl, _, World.drewN_drewN _ _ _⟩ | exact ⟨rfl, _, Eq.trans (World.drewN_drewN _ _ _) (congrArg (World.drewN _) (Nat.add_assoc _ _ _))⟩); have p164 : 0 ≤ ((ji9) : Int) := zD; have q164 : (ji9) < (l0.length : Int) := zD; obtain ⟨ad164, e164, hx164_0⟩ := Kd.at_int HR0.out (ji9) p164 q164; obtain rfl : ad162 = ad164 := (by injection e164); replace p164 := eq_true p164; replace q164 := eq_true q164; have p165 : 0 ≤ (x7_1 : Int) := zD; have q165 : x7_1 < (l0.length : Int) := zD; obtain ⟨ad165, e165, hx165_0⟩ := Kd.at_int HR0.out x7_1 p165 q165; obtain rfl : ad162 = ad165 := (by injection e165); replace p165 := eq_true p165; replace q165 := eq_true q165)); try go_wp2_with (first | (go_at_call 89; (with_reducible refine (spec_l00In.calls (rd l0 x7_1) a1 a2 true _ A6.out).mono ?_); rintro e w' ⟨rfl, ⟨nd, rfl⟩⟩; (try first | exact ⟨rfl, _, World.drewN_drewN _ _ _⟩ | exact ⟨rfl, _, Eq.trans (World.drewN_drewN _ _ _) (congrArg (World.drewN _) (Nat.add_assoc _ _ _))⟩); have p164 : 0 ≤ ((ji9) : Int) := zD; have q164 : (ji9) < (l0.length : Int) := zD; obtain ⟨ad164, e164, hx164_0⟩ := Kd.at_int HR0.out (ji9) p164 q164; obtain rfl : ad162 = ad164 := (by injection e164); replace p164 := eq_true p164; replace q164 := eq_true q164; have p165 : 0 ≤ (x7_1 : Int) := zD; have q165 : x7_1 < (l0.length : Int) := zD; obtain ⟨ad165, e165, hx165_0⟩ := Kd.at_int HR0.out x7_1 p165 q165; obtain rfl : ad162 = ad165 := (by injection e165); replace p165 := eq_true p165; replace q165 := eq_true q165)))
          go_roundg k1
          case measure => have := HK1.out; omega
          case rel => exact ⟨(wrap64 (x7_1 + 1)), (zF), H', ⟨by have := HK1.out; omega⟩, by repeat (first | exact Drawn0.refl _ | apply Drawn0.step)⟩
        ·rw [if_neg c11] at H
         exact absurd H (by simp)
       ·rw [if_neg c10] at H
        exact absurd H (by simp)
      ·rw [if_neg c8] at H
       have c8b0 := decide_eq_false c8; clear c8; have H' := zQ H; clear H; have p162 : 0 ≤ (x7_1 : Int) := zD; have q162 : x7_1 < (l0.length : Int) := zD; obtain ⟨ad162, e162, hx162_0⟩ := Kd.at_int HR0.out x7_1 p162 q162
       cases e162
       replace p162 := eq_true p162; replace q162 := eq_true q162
       go_wp2_with (first | (go_at_call 89; (with_reducible refine (spec_l00In.calls (rd l0 x7_1) a1 a2 true _ A6.out).mono ?_); rintro e w' ⟨rfl, ⟨nd, rfl⟩⟩; (try first | exact ⟨rfl, _, World.drewN_drewN _ _ _⟩ | exact ⟨rfl, _, Eq.trans (World.drewN_drewN _ _ _) (congrArg (World.drewN _) (Nat.add_assoc _ _ _))⟩)))
       repeat (go_quiet (first | (go_at_call 89; (with_reducible refine (spec_l00In.calls (rd l0 x7_1) a1 a2 true _ A6.out).mono ?_); rintro e w' ⟨rfl, ⟨nd, rfl⟩⟩; (try first | exact ⟨rfl, _, World.drewN_drewN _ _ _⟩ | exact ⟨rfl, _, Eq.trans (World.drewN_drewN _ _ _) (congrArg (World.drewN _) (Nat.add_assoc _ _ _))⟩))); try go_wp2_with (first | (go_at_call 89; (with_reducible refine (spec_l00In.calls (rd l0 x7_1) a1 a2 true _ A6.out).mono ?_); rintro e w' ⟨rfl, ⟨nd, rfl⟩⟩; (try first | exact ⟨rfl, _, World.drewN_drewN _ _ _⟩ | exact ⟨rfl, _, Eq.trans (World.drewN_drewN _ _ _) (congrArg (World.drewN _) (Nat.add_assoc _ _ _))⟩))))
       go_roundg k1
       case measure => have := HK1.out; omega
       case rel => exact ⟨(wrap64 (x7_1 + 1)), (zF), H', ⟨by have := HK1.out; omega⟩, by repeat (first | exact Drawn0.refl _ | apply Drawn0.step)⟩
     ·replace c7 := Bool.eq_false_iff.mpr c7
      subst c7
      have H1 : (some false) = some r := by rw [if_neg (show ¬ (false = true) by decide)] at H; exact H
      clear H; have H := H1; clear H1; obtain rfl := Option.some.inj H; have p162 : 0 ≤ (x7_1 : Int) := zD; have q162 : x7_1 < (l0.length : Int) := zD; obtain ⟨ad162, e162, hx162_0⟩ := Kd.at_int HR0.out x7_1 p162 q162
      cases e162
      replace p162 := eq_true p162; replace q162 := eq_true q162
      go_wp2_with (first | (go_at_call 89; (with_reducible refine (spec_l00In.calls (rd l0 x7_1) a1 a2 false _ A6.out).mono ?_); rintro e w' ⟨rfl, ⟨nd, rfl⟩⟩; (try first | exact ⟨rfl, _, World.drewN_drewN _ _ _⟩ | exact ⟨rfl, _, Eq.trans (World.drewN_drewN _ _ _) (congrArg (World.drewN _) (Nat.add_assoc _ _ _))⟩)))
      repeat (go_quiet (first | (go_at_call 89; (with_reducible refine (spec_l00In.calls (rd l0 x7_1) a1 a2 false _ A6.out).mono ?_); rintro e w' ⟨rfl, ⟨nd, rfl⟩⟩; (try first | exact ⟨rfl, _, World.drewN_drewN _ _ _⟩ | exact ⟨rfl, _, Eq.trans (World.drewN_drewN _ _ _) (congrArg (World.drewN _) (Nat.add_assoc _ _ _))⟩))); try go_wp2_with (first | (go_at_call 89; (with_reducible refine (spec_l00In.calls (rd l0 x7_1) a1 a2 false _ A6.out).mono ?_); rintro e w' ⟨rfl, ⟨nd, rfl⟩⟩; (try first | exact ⟨rfl, _, World.drewN_drewN _ _ _⟩ | exact ⟨rfl, _, Eq.trans (World.drewN_drewN _ _ _) (congrArg (World.drewN _) (Nat.add_assoc _ _ _))⟩))))
      go_ret
      exact ⟨zF, by repeat (first | exact Drawn0.refl _ | apply Drawn0.step)⟩
    ·rw [if_neg c5] at H
     exact absurd H (by simp)
   ·rw [if_neg c4] at H
    have c4b0 := decide_eq_false c4; clear c4; obtain rfl := Option.some.inj H
    go_wp2
    repeat (go_quiet (fail); try go_wp2)
    go_ret
    exact ⟨zF, by repeat (first | exact Drawn0.refl _ | apply Drawn0.step)⟩

def spec_l09Some.f (k : Nat) (l0_0 : List (S164)) (l0_1 : List (S115)) (l1 : List Int) : Option (Bool) := (spec_l00Rises.f k l1 0 (wrap64 ((l0_1.length : Int) - 1))).bind fun t166 => (some t166)
theorem spec_l09Some.mono : ∀ a0 a1 a2 k, LeO (spec_l09Some.f k a0 a1 a2) (spec_l09Some.f (k + 1) a0 a1 a2) := by
 intro a0 a1 a2 k
 unfold spec_l09Some.f
 have m0 := @spec_l00Rises.mono; exact zM0
theorem spec_l09Some.calls (k : Nat) (g0 : Nat) (A0_0 : Option Addr) (c0_0 : Nat) (l0_0 : List (S164)) (A0_1 : Option Addr) (c0_1 : Nat) (l0_1 : List (S115)) (A1 : Option Addr) (c1 : Nat) (l1 : List Int) (r : Bool) (w : World) (hbk0 : w.heap[g0]? = some (.cells #[.slice A0_0 l0_0.length c0_0, .slice A0_1 l0_1.length c0_1] 27 (0, 0))) (hr0_0 : Kd.C k164 w A0_0 l0_0.length l0_0) (hc0_0 : l0_0.length ≤ c0_0) (hr0_1 : Kd.C k115 w A0_1 l0_1.length l0_1) (hc0_1 : l0_1.length ≤ c0_1) (hr1 : Kd.C (Kd.int .i64) w A1 l1.length l1) (hc1 : l1.length ≤ c1) (h : spec_l09Some.f k l0_0 l0_1 l1 = some r) :
  Calls Try.prog 119 #[.pointer (some ⟨g0, 0, none⟩), .slice A1 l1.length c1] w fun e w' => e = .returned (.bool r) ∧ Below w.heap.size w w' := by
 have HR0_0 := zQ hr0_0
 have HC0_0 := zQ hc0_0
 clear hr0_0 hc0_0
 have HR0_1 := zQ hr0_1
 have HC0_1 := zQ hc0_1
 clear hr0_1 hc0_1
 have HR1 := zQ hr1
 have HC1 := zQ hc1
 clear hr1 hc1
 have BK0 := zQ hbk0
 clear hbk0
 have HB := zQ (Below.refl w.heap.size w)
 have H : ((spec_l00Rises.f k l1 0 (wrap64 ((l0_1.length : Int) - 1))).bind fun t166 => (some t166)) = some r := h
 clear h
 replace H := zob H; obtain ⟨t166, A3, H⟩ := H
 obtain rfl := Option.some.inj H
 have hcz4_0 := zc0 BK0.out
 have hcz4_1 := zc1 BK0.out
 have hfz4_0 := zfz BK0.out 0
 have hfz4_1 := zfz BK0.out 1
 go_enter Try.func119, Try.ntmps119
 go_wp2_with (first | ((with_reducible refine zgc 135 ?_); refine zgo (some 12) Try.func135 #[.slice A1 l1.length c1, .int .i64 0, .int .i64 (wrap64 ((l0_1.length : Int) - 1))] ?_; (with_reducible refine (spec_l00Rises.calls k _ _ l1 0 (wrap64 ((l0_1.length : Int) - 1)) t166 _ ?side1 HC1.out A3.out).mono ?_); (case side1 => repeat (first | exact HR1.out | (with_reducible refine Kd.C_alloc ?_ _) | (with_reducible refine Kd.C_drewN ?_ _) | (with_reducible refine Kd.C_drew ?_))); rintro e w' ⟨rfl, ⟨nd, rfl⟩⟩; refine ⟨_, rfl, ?_⟩))
 go_ret
 exact ⟨zE, zB HB.out⟩

def spec_l00Size.f (a0 : Int) : Option (Int) := if a0 < 0 then (some (wrap64 (-a0))) else (some a0)
theorem spec_l00Size.calls (a0 : Int) (r : Int) (w : World) (h : spec_l00Size.f a0 = some r) :
  Calls Try.prog 90 #[.int .i64 a0] w fun e w' => e = .returned (.int .i64 r) ∧ Drawn0 w w' := by
 have H : (if a0 < 0 then (some (wrap64 (-a0))) else (some a0)) = some r := h
 clear h
 by_cases c2 : a0 < 0
 ·rw [if_pos c2] at H
  have c2b0 := decide_eq_true c2; clear c2; obtain rfl := Option.some.inj H
  go_enter Try.func90, Try.ntmps90
  go_wp2
  go_ret
  exact ⟨zF, by repeat (first | exact Drawn0.refl _ | apply Drawn0.step)⟩
 ·rw [if_neg c2] at H
  have c2b0 := decide_eq_false c2; clear c2; obtain rfl := Option.some.inj H
  go_enter Try.func90, Try.ntmps90
  go_wp2
  go_ret
  exact ⟨zF, by repeat (first | exact Drawn0.refl _ | apply Drawn0.step)⟩

def spec_l00Gcd.l0 : Nat → Int → Int → Option (Int)
 | 0, _, _ => none
 | k + 1, x0, x1 => if x1 = 0 then (some x0) else (spec_l00Gcd.l0 k x1 (Int.tmod x0 x1))
def spec_l00Gcd.f (k : Nat) (a0 : Int) (a1 : Int) : Option (Int) := spec_l00Gcd.l0 k a0 a1
theorem spec_l00Gcd.mono_l : ∀ k, (∀ y0 y1, LeO (spec_l00Gcd.l0 k y0 y1) (spec_l00Gcd.l0 (k + 1) y0 y1))
 | 0 => fun _ _ r h => by simp [spec_l00Gcd.l0] at h
 | k + 1 => by
  have ih0 := spec_l00Gcd.mono_l k
  ·intro y0 y1
   unfold spec_l00Gcd.l0
   exact zM0
theorem spec_l00Gcd.mono : ∀ a0 a1 k, LeO (spec_l00Gcd.f k a0 a1) (spec_l00Gcd.f (k + 1) a0 a1) := by
 intro a0 a1 k
 have ih0 := spec_l00Gcd.mono_l k
 unfold spec_l00Gcd.f
 exact zM0
theorem spec_l00Gcd.calls (k : Nat) (a0 : Int) (a1 : Int) (r : Int) (w : World) (h : spec_l00Gcd.f k a0 a1 = some r) :
  Calls Try.prog 141 #[.int .i64 a0, .int .i64 a1] w fun e w' => e = .returned (.int .i64 r) ∧ Drawn0 w w' := by
 have H : (spec_l00Gcd.l0 k a0 a1) = some r := h
 clear h
 have H' := zQ H
 clear H
 go_enter Try.func141, Try.ntmps141
 go_wp2
 go_loopg [0, 1] k (fun kq v0 v1 w' => ∃ (x0_1 : Int) (x1_1 : Int), v0 = .int .i64 x0_1 ∧ v1 = .int .i64 x1_1 ∧ Aside0 (spec_l00Gcd.l0 kq x0_1 x1_1 = some r) ∧ Aside0 (kq ≤ k) ∧ Drawn0 w w')
 case atStart => exact ⟨(a0), (a1), (zF), (zF), H', ⟨Nat.le_refl _⟩, by repeat (first | exact Drawn0.refl _ | apply Drawn0.step)⟩
 case round =>
  clear H'; (try clear c1); (try clear p2); obtain ⟨x0_1, x1_1, rfl, rfl, HA, HK1, ⟨m1, rfl⟩⟩ := hrel
  cases gk with
  | zero => exact absurd HA.out (by simp [spec_l00Gcd.l0])
  | succ k1 =>
   have H := HA.out; clear HA
   simp only [spec_l00Gcd.l0] at H
   by_cases c3 : x1_1 = 0
   ·rw [if_pos c3] at H
    have c3b0 : (x1_1 == 0) = true := beq_iff_eq.mpr c3; have c3b1 : (x1_1 != 0) = false := bne_eq_false_iff_eq.mpr c3; clear c3; obtain rfl := Option.some.inj H
    go_wp2
    go_ret
    exact ⟨zF, by repeat (first | exact Drawn0.refl _ | apply Drawn0.step)⟩
   ·rw [if_neg c3] at H
    have c3b0 : (x1_1 == 0) = false := beq_eq_false_iff_ne.mpr c3; have c3b1 : (x1_1 != 0) = true := bne_iff_ne.mpr c3; have H' := zQ H; clear H
    go_wp2
    go_roundg k1
    case measure => have := HK1.out; omega
    case rel => exact ⟨(x1_1), (Int.tmod x0_1 x1_1), (zF), (zF), H', ⟨by have := HK1.out; omega⟩, by repeat (first | exact Drawn0.refl _ | apply Drawn0.step)⟩

mutual
def spec_l09Lowest.l0 : Nat → List Int → Int → Int → Int → Option (List Int × Int)
 | 0, _, _, _, _ => none
 | k + 1, x0, x1, x5, x6 => if x6 < (x0.length : Int) then (if 0 ≤ x6 then ((spec_l00Size.f (rd x0 x6)).bind fun t174 => ((spec_l00Gcd.f k x5 t174).bind fun t175 => (spec_l09Lowest.l0 k x0 x1 t175 (wrap64 (x6 + 1))))) else (none)) else (if x1 < 0 then (spec_l09Lowest.j1 k x0 x1 (wrap64 (-x5))) else (spec_l09Lowest.j1 k x0 x1 x5))
def spec_l09Lowest.j1 : Nat → List Int → Int → Int → Option (List Int × Int)
 | 0, _, _, _ => none
 | k + 1, x0, x1, x5 => if x5 = 0 then (none) else (spec_l09Lowest.l1 k x0 x5 0 (([] : List Int)) (wrap64 (Int.tdiv x1 x5)))
def spec_l09Lowest.l1 : Nat → List Int → Int → Int → List Int → Int → Option (List Int × Int)
 | 0, _, _, _, _, _ => none
 | k + 1, x0, x5, x8, x180000, x180001 => if x8 < (x0.length : Int) then (if 0 ≤ x8 then (if x5 = 0 then (none) else (if x180000.length < 17592186044416 then (spec_l09Lowest.l1 k x0 x5 (wrap64 (x8 + 1)) (x180000 ++ [wrap64 (Int.tdiv (rd x0 x8) x5)]) x180001) else (none))) else (none)) else (some (x180000, x180001))
end
def spec_l09Lowest.f (k : Nat) (l0 : List Int) (a1 : Int) : Option (List Int × Int) := (spec_l00Size.f a1).bind fun t172 => (spec_l09Lowest.l0 k l0 a1 t172 0)
theorem spec_l09Lowest.mono_l : ∀ k, (∀ y0 y1 y2 y3, LeO (spec_l09Lowest.l0 k y0 y1 y2 y3) (spec_l09Lowest.l0 (k + 1) y0 y1 y2 y3)) ∧ (∀ y0 y1 y2, LeO (spec_l09Lowest.j1 k y0 y1 y2) (spec_l09Lowest.j1 (k + 1) y0 y1 y2)) ∧ (∀ y0 y1 y2 y3 y4, LeO (spec_l09Lowest.l1 k y0 y1 y2 y3 y4) (spec_l09Lowest.l1 (k + 1) y0 y1 y2 y3 y4))
 | 0 => ⟨fun _ _ _ _ r h => by simp [spec_l09Lowest.l0] at h, fun _ _ _ r h => by simp [spec_l09Lowest.j1] at h, fun _ _ _ _ _ r h => by simp [spec_l09Lowest.l1] at h⟩
 | k + 1 => by
  obtain ⟨ih0, ih1, ih2⟩ := spec_l09Lowest.mono_l k
  refine ⟨?_, ?_, ?_⟩
  ·intro y0 y1 y2 y3
   unfold spec_l09Lowest.l0
   have m0 := @spec_l00Gcd.mono; exact zM0
  ·intro y0 y1 y2
   unfold spec_l09Lowest.j1
   have m0 := @spec_l00Gcd.mono; exact zM0
  ·intro y0 y1 y2 y3 y4
   unfold spec_l09Lowest.l1
   have m0 := @spec_l00Gcd.mono; exact zM0
theorem spec_l09Lowest.mono : ∀ a0 a1 k, LeO (spec_l09Lowest.f k a0 a1) (spec_l09Lowest.f (k + 1) a0 a1) := by
 intro a0 a1 k
 obtain ⟨ih0, ih1, ih2⟩ := spec_l09Lowest.mono_l k
 unfold spec_l09Lowest.f
 have m0 := @spec_l00Gcd.mono; exact zM0
def spec_l09Lowest.T12 : Bool × List (List Nat × List Nat) := (true, [([], []), ([0], [0]), ([], []), ([], []), ([2, 3], [2, 3]), ([4], [4]), ([], []), ([5, 6], [5, 6]), ([7], [7]), ([1, 8], [1, 8]), ([0, 1, 2, 3, 4, 5, 6, 7, 8, 9], []), ([10, 9, 9, 0, 1, 2, 3, 4, 5, 6, 7, 8, 9], [9, 10])])
def spec_l09Lowest.B12 : List Nat := [0, 1, 0, 0, 12, 28, 0, 124, 252, 511, 1023, 2047]
theorem spec_l09Lowest.tab12 : rtab .any (opsOf Try.f129 12) = spec_l09Lowest.T12 := by kernel_rfl
theorem spec_l09Lowest.bits12 : waitsOk spec_l09Lowest.T12.2 spec_l09Lowest.B12 = true := by kernel_rfl
theorem spec_l09Lowest.calls (k : Nat) (A0 : Option Addr) (c0 : Nat) (l0 : List Int) (a1 : Int) (r1 : List Int) (r2 : Int) (w : World) (hr0 : Kd.C (Kd.int .i64) w A0 l0.length l0) (hc0 : l0.length ≤ c0) (h : spec_l09Lowest.f k l0 a1 = some (r1, r2)) :
  Calls Try.prog 129 #[.slice A0 l0.length c0, .int .i64 a1] w fun e w' => ∃ v0_ : Value, e = .returned (.agg #[v0_, .int .i64 r2]) ∧ Kd.R (Kd.int .i64) 2 w' w.heap.size (fun _ => True) v0_ r1 ∧ Below w.heap.size w w' := by
 have hu35 := Try.underlying35
 have HR0 := zQ hr0
 have HC0 := zQ hc0
 clear hr0 hc0
 have HB := zQ (Below.refl w.heap.size w)
 have H : ((spec_l00Size.f a1).bind fun t172 => (spec_l09Lowest.l0 k l0 a1 t172 0)) = some (r1, r2) := h
 clear h
 replace H := zob H; obtain ⟨t172, A3, H⟩ := H
 have H' := zQ H
 clear H
 go_enter Try.func129, Try.ntmps129
 go_wp2_with (first | ((with_reducible refine zd 4 ?_); refine zbx (N := 4) (cs := #[.slice none 0 0, .int .i64 0]) (t := 35) ?_; intro gb171 hg w4 hbox hb; have BK171 := zQ (hbox); have GW171 := zgz hg HB.out; have GE171 := GW171; replace HB := zbs HB.out hb; clear hb hbox hg) | ((with_reducible refine zgc 90 ?_); refine zgo (some 10) Try.func90 #[.int .i64 a1] ?_; (with_reducible refine (spec_l00Size.calls a1 t172 _ A3.out).mono ?_); rintro e w' ⟨rfl, ⟨nd, rfl⟩⟩; refine ⟨_, rfl, ?_⟩))
 go_loopg [5, 6] k (fun kq v5 v6 w' => ∃ (x5_1 : Int) (x6_1 : Int), v5 = .int .i64 x5_1 ∧ v6 = .int .i64 x6_1 ∧ Aside0 (spec_l09Lowest.l0 kq l0 a1 x5_1 x6_1 = some (r1, r2)) ∧ Aside0 (kq ≤ k) ∧ Aside0 (w'.heap[gb171]? = some (.cells #[(.slice none 0 0), .int .i64 0] 35 (0, 0))) ∧ Aside0 (Below w.heap.size w w'))
 case atStart => exact ⟨(t172), (0), (zF), (zF), H', ⟨Nat.le_refl _⟩, ⟨zb BK171.out⟩, ⟨zB2 HB.out GE171.out⟩⟩
 case round =>
  clear H'; (try clear c1); (try clear p2); obtain ⟨x5_1, x6_1, rfl, rfl, HA, HK1, BK171, HB⟩ := hrel
  cases gk with
  | zero => exact absurd HA.out (by simp [spec_l09Lowest.l0])
  | succ k1 =>
   have H := HA.out; clear HA
   simp only [spec_l09Lowest.l0] at H
   by_cases c5 : x6_1 < (l0.length : Int)
   ·rw [if_pos c5] at H
    have c5b0 := decide_eq_true c5; clear c5
    by_cases c6 : 0 ≤ x6_1
    ·rw [if_pos c6] at H
     have c6b0 := decide_eq_true c6; clear c6; replace H := zob H; obtain ⟨t174, A7, H⟩ := H; replace H := zob H; obtain ⟨t175, A8, H⟩ := H; have H' := zQ H; clear H; have p173 : 0 ≤ (x6_1 : Int) := zD; have q173 : x6_1 < (l0.length : Int) := zD; obtain ⟨ad173, e173, hx173_0⟩ := Kd.at_int HR0.out x6_1 p173 q173
     cases e173
     replace hx173_0 := zw HB.out hx173_0; replace p173 := eq_true p173; replace q173 := eq_true q173
     go_wp2_with (first | ((with_reducible refine zgc 90 ?_); refine zgo (some 22) Try.func90 #[.int .i64 (rd l0 x6_1)] ?_; (with_reducible refine (spec_l00Size.calls (rd l0 x6_1) t174 _ A7.out).mono ?_); rintro e w' ⟨rfl, ⟨nd, rfl⟩⟩; refine ⟨_, rfl, ?_⟩) | ((with_reducible refine zgc 141 ?_); refine zgo (some 23) Try.func141 #[.int .i64 x5_1, .int .i64 t174] ?_; (with_reducible refine (spec_l00Gcd.calls k1 x5_1 t174 t175 _ A8.out).mono ?_); rintro e w' ⟨rfl, ⟨nd, rfl⟩⟩; refine ⟨_, rfl, ?_⟩))
     go_roundg k1
     case measure => have := HK1.out; omega
     case rel => exact ⟨(t175), (wrap64 (x6_1 + 1)), (zF), (zF), H', ⟨by have := HK1.out; omega⟩, ⟨zb BK171.out⟩, ⟨zB2 HB.out GE171.out⟩⟩
    ·rw [if_neg c6] at H
     exact absurd H (by simp)
   ·rw [if_neg c5] at H
    have c5b0 := decide_eq_false c5; clear c5; have HC9 := zQ H; clear H
    go_upto_if 25 with (fail)
    go_cut [5] (fun v5 wc => ∃ (kq : Nat) (x5_8 : Int), v5 = .int .i64 x5_8 ∧ Aside0 (spec_l09Lowest.j1 kq l0 a1 x5_8 = some (r1, r2)) ∧ Aside0 (kq ≤ k1) ∧ Aside0 (wc.heap[gb171]? = some (.cells #[(.slice none 0 0), .int .i64 0] 35 (0, 0))) ∧ Aside0 (Below w.heap.size w wc))
    case first =>
     have H := HC9.out; clear HC9
     by_cases c10 : a1 < 0
     ·rw [if_pos c10] at H
      have c10b0 := decide_eq_true c10; clear c10
      (first | rw [c10b0] | (simp only [i64_w, i32_w]; rw [c10b0]) | skip)
      have H' := zQ H; clear H
      go_wp2
      go_meet
      case rel => exact ⟨_, (wrap64 (-x5_1)), (zF), H', ⟨by have := HK1.out; first | omega | exact Nat.le_refl _⟩, ⟨zb BK171.out⟩, ⟨zB2 HB.out GE171.out⟩⟩
     ·rw [if_neg c10] at H
      have c10b0 := decide_eq_false c10; clear c10
      (first | rw [c10b0] | (simp only [i64_w, i32_w]; rw [c10b0]) | skip)
      have H' := zQ H; clear H
      go_wp2
      go_meet
      case rel => exact ⟨_, (x5_1), (zF), H', ⟨by have := HK1.out; first | omega | exact Nat.le_refl _⟩, ⟨zb BK171.out⟩, ⟨zB2 HB.out GE171.out⟩⟩
    case rest =>
     clear HC9; (try clear c1); (try clear p1); (try clear q1); (try clear hx1); (try clear p2); (try clear c5); (try clear c5b0); (try clear c6); (try clear c6b0); (try clear p6); (try clear c9); (try clear c10); (try clear c10b0); (try clear hx173_0); (try clear p173); (try clear p2); (try clear q173); obtain ⟨kq, x5_8, rfl, HA, HJ8, BK171, HB⟩ := hcut
     cases kq with
     | zero => exact absurd HA.out (by simp [spec_l09Lowest.j1])
     | succ kj8 =>
      have H := HA.out; clear HA
      simp only [spec_l09Lowest.j1] at H
      obtain ⟨y176, hy176⟩ : ∃ y_ : List Int, y_ = (([] : List Int)) := ⟨_, rfl⟩; replace H : (if x5_8 = 0 then (none) else (spec_l09Lowest.l1 kj8 l0 x5_8 0 y176 (wrap64 (Int.tdiv a1 x5_8)))) = some (r1, r2) := zh H; have Ny176 := zQ hy176; clear hy176
      by_cases c11 : x5_8 = 0
      ·rw [if_pos c11] at H
       exact absurd H (by simp)
      ·rw [if_neg c11] at H
       have c11b0 : (x5_8 == 0) = false := beq_eq_false_iff_ne.mpr c11; have c11b1 : (x5_8 != 0) = true := bne_iff_ne.mpr c11; have H' := zQ H; clear H
       go_wp2_with (first | ((with_reducible refine zd 28 ?_); refine Kd.R_lit (Kd.int .i64) _ 2 ?hg (N := 28) ?hd (xs := ([] : List Int)) (inner := []) (ok := fun _ => True) (okp := fun _ => True) ?hr ?hp (fun _ hk => hk) trivial (Below.refl _ _) (Nat.le_refl _) (by simp) ?_; (case hd => rfl); (case hg => rfl); (case hr => first | (go_simp; done) | (go_simp; rfl)); (case hp => exact (Reps.none _ _)); intro v177 w12 ho13 hb hg_ hnew_; clear hg_ hnew_; (first | rw [← Ny176.out] at ho13 | (simp only [Int.reduceToNat] at ho13; rw [← Ny176.out] at ho13)); have HO178 := zQ (Kd.R_lower ho13 (below_size (zB2 HB.out GE171.out))); replace BK171 := zbl BK171.out hb; replace HB := zbs2 HB.out GE171.out hb; clear hb ho13; obtain ⟨Ao14, co14, eo14⟩ := Kd.R_slice HO178.out; subst eo14) | ((with_reducible refine zd 7 ?_); refine zbx (N := 7) (cs := #[.slice none 0 0, .int .i64 0]) (t := 35) ?_; intro gb179 hg w15 hbox hb; have BK179 := zQ (hbox); have GW179 := zgz2 hg HB.out GE171.out; have GE179 := GW179; have NB171_179 := zn1 hg BK171.out; have NB179_171 := zn2 hg BK171.out; replace HO178 := zRb HO178.out hb; replace BK171 := zbl BK171.out hb; replace HB := zbs2 HB.out GE171.out hb; clear hb hbox hg; have hnb16 := NB179_171.out; have hnc16 := NB171_179.out; obtain ⟨hcz17_0, hcz17_1, hfz17_0, hfz17_1⟩ := zy2 BK179.out))
       go_loopg [8] kj8 (fun kq v8 w' => ∃ (x8_3 : Int) (x180000_3 : List Int) (u180000 : Value), v8 = .int .i64 x8_3 ∧ Aside0 (spec_l09Lowest.l1 kq l0 x5_8 x8_3 x180000_3 (wrap64 (Int.tdiv a1 x5_8)) = some (r1, r2)) ∧ Aside0 (kq ≤ kj8) ∧ Aside0 (Kd.R (Kd.int .i64) 2 w' w.heap.size (fun _ => True) u180000 x180000_3) ∧ Aside0 (w'.heap[gb171]? = some (.cells #[(.slice none 0 0), .int .i64 0] 35 (0, 0))) ∧ Aside0 (w'.heap[gb179]? = some (.cells #[u180000, .int .i64 (wrap64 (Int.tdiv a1 x5_8))] 35 (0, 0))) ∧ Aside0 (Below w.heap.size w w'))
       case atStart => exact ⟨(0), (y176), (.slice Ao14 y176.length co14), (zF), H', ⟨Nat.le_refl _⟩, ⟨by (with_reducible repeat (first | apply Kd.R_alloc | apply Kd.R_drewN | apply Kd.R_drew)); exact Kd.R_mono (Kd.R_far (p := ⟨gb179, 1, none⟩) (Kd.R_far (p := ⟨gb179, 0, none⟩) (Kd.R_types HO178.out BK179.out (by decide)) (fun _ hk => hk.2) (.slice Ao14 y176.length co14)) (fun _ hk => hk.2) (.int .i64 (wrap64 (Int.tdiv a1 x5_8)))) (fun _ hk => trivial)⟩, ⟨by refine zb ?_; refine blk_far ?_ NB171_179.out _; refine zb ?_; refine blk_far ?_ NB171_179.out _; refine zb ?_; exact BK171.out⟩, ⟨by refine zb ?_; refine blk_put (cs := #[.slice Ao14 y176.length co14, .int .i64 0]) ?_ 1 _ rfl; refine zb ?_; refine blk_put (cs := #[.slice none 0 0, .int .i64 0]) ?_ 0 _ rfl; refine zb ?_; exact BK179.out⟩, ⟨zB3 HB.out GE171.out GE179.out⟩⟩
       case round =>
        clear H'; (try clear c1); (try clear p1); (try clear q1); (try clear hx1); (try clear p2); (try clear c5); (try clear c5b0); (try clear c6); (try clear c6b0); (try clear p6); (try clear c9); (try clear c10); (try clear c10b0); (try clear c11); (try clear c11b0); (try clear c11b1); (try clear c12); (try clear c14); (try clear c16); (try clear p17); (try clear q17); (try clear hx17); (try clear hcz17_0 hcz17_1 hfz17_0 hfz17_1); (try clear hx173_0); (try clear p1); (try clear p173); (try clear p2); (try clear p6); (try clear q1); (try clear q173); obtain ⟨x8_3, x180000_3, u180000, rfl, HA, HK3, HO_180000, BK171, BK179, HB⟩ := hrel
        cases gk with
        | zero => exact absurd HA.out (by simp [spec_l09Lowest.l1])
        | succ k3 =>
         have H := HA.out; clear HA
         simp only [spec_l09Lowest.l1] at H
         by_cases c18 : x8_3 < (l0.length : Int)
         ·rw [if_pos c18] at H
          have c18b0 := decide_eq_true c18; clear c18
          by_cases c19 : 0 ≤ x8_3
          ·rw [if_pos c19] at H
           have c19b0 := decide_eq_true c19; clear c19
           by_cases c20 : x5_8 = 0
           ·rw [if_pos c20] at H
            exact absurd H (by simp)
           ·rw [if_neg c20] at H
            have c20b0 : (x5_8 == 0) = false := beq_eq_false_iff_ne.mpr c20; have c20b1 : (x5_8 != 0) = true := bne_iff_ne.mpr c20
            by_cases c21 : x180000_3.length < 17592186044416
            ·rw [if_pos c21] at H
             have LMc21 := zQ c21; clear c21; obtain ⟨y181, hy181⟩ : ∃ y_ : List Int, y_ = (x180000_3 ++ [wrap64 (Int.tdiv (rd l0 x8_3) x5_8)]) := ⟨_, rfl⟩; replace H : (spec_l09Lowest.l1 k3 l0 x5_8 (wrap64 (x8_3 + 1)) y181 (wrap64 (Int.tdiv a1 x5_8))) = some (r1, r2) := zh H; have Ny181 := zQ hy181; clear hy181; have H' := zQ H; clear H
             try go_wp2
             have n0_ := zQ (Kd.R_drew HO_180000.out); have n1_ := zQ (blk_drew BK171.out); have n2_ := zQ (blk_drew BK179.out); have n3_ := zQ (below_drew1 HB.out); clear HO_180000; clear BK171; clear BK179; clear HB; have HO_180000 := n0_; have BK171 := n1_; have BK179 := n2_; have HB := n3_; clear n0_ n1_ n2_ n3_; have p180 : 0 ≤ (x8_3 : Int) := zD; have q180 : x8_3 < (l0.length : Int) := zD; obtain ⟨ad180, e180, hx180_0⟩ := Kd.at_int HR0.out x8_3 p180 q180; have hw180_0 := hx180_0
             cases e180
             replace hx180_0 := zw HB.out hx180_0; replace p180 := eq_true p180; replace q180 := eq_true q180
             refine zs (fun w' => w'.cell? ⟨gb179, 0, none⟩ = some (u180000) ∧ w'.cell? ⟨gb179, 1, none⟩ = some (.int .i64 (wrap64 (Int.tdiv a1 x5_8))) ∧ w'.cell? (ad180.add (x8_3).toNat) = some (.int .i64 (rd l0 x8_3))) [11] 12 ⟨(blk_cell BK179.out 0).trans rfl, (blk_cell BK179.out 1).trans rfl, ((HB.out.cell (World.block_lt_of_cell? w _ hw180_0)).trans hw180_0)⟩ (fun hHeld => ?_); refine with_tabW spec_l09Lowest.tab12 spec_l09Lowest.bits12 (fun HT_ HW_ => ?_)
             generalize wr.drew = w22 at HO_180000 BK171 BK179 HB hx180_0 hHeld ⊢
             refine zp 0 39 ?_
             refine zp 2 41 ?_
             refine zp 3 42 ?_
             refine zp 4 43 ?_
             refine zp 6 45 ?_
             refine zt 1 40 hHeld ?_
             refine zt 5 44 hHeld ?_
             refine zp 7 46 ?_
             refine zo 8 (some 47) (fun K hK => ?_)
             refine value_ (w1 := ?_) (v := ?_) (by rfl) rfl ?_ ?_
             rotate_left 2
             ·go_simp
              constructor
              ·rfl
              ·rfl
             refine hK.out _ _ ⟨(blk_cell (blk_alloc BK179.out _) 0).trans rfl, (blk_cell (blk_alloc BK179.out _) 1).trans rfl, (World.cell?_alloc_lt _ _ _ (World.block_lt_of_cell? _ _ (((HB.out.cell (World.block_lt_of_cell? w _ hw180_0)).trans hw180_0)))).trans (((HB.out.cell (World.block_lt_of_cell? w _ hw180_0)).trans hw180_0))⟩ (fun hHeld => ?_)
             clear hK K
             refine zn 47 ?_
             refine zo 9 (some 48) (fun K hK => ?_)
             refine Kd.R_append_step (Kd.int .i64) (w0 := w) w.heap.size (by rfl) (.tmp 40) (.tmp 47) 31 2 (.int .i64 0) 8 rfl Try.underlying31 info2 rfl (by decide) (by omega) u180000 x180000_3 (wrap64 (Int.tdiv (rd l0 x8_3) x5_8)) [.int .i64 (wrap64 (Int.tdiv (rd l0 x8_3) x5_8))] (fun _ => True) (fun _ => False) rfl rfl ?aP (fun _ hk => hk.elim) ?aF ?aO ?aB ?aS ?aL ?_
             (case aP => exact rfl)
             (case aB => exact (zB3 HB.out GE171.out GE179.out))
             (case aF => exact (fun _ _ => trivial))
             (case aO => exact (zR HO_180000.out))
             (case aS => exact (below_size (zB3 HB.out GE171.out GE179.out)))
             (case aL => have := LMc21.out; omega)
             intro v182 w23 ho hb hg hat
             rw [← Ny181.out] at ho; have n0_ := zQ (blk_grown (g := gb171) (o := .cells #[.slice none 0 0, .int .i64 0] 35 (0, 0)) (zb BK171.out) hg (Kd.R_ne HO_180000.out BK171.out (by decide))); have n1_ := zQ (blk_grown (g := gb179) (o := .cells #[u180000, .int .i64 (wrap64 (Int.tdiv a1 x5_8))] 35 (0, 0)) (zb BK179.out) hg (Kd.R_ne HO_180000.out BK179.out (by decide))); have n2_ := zQ (hb); have n3_ := zQ (ho); clear BK171; clear BK179; clear HB; clear HO_180000; have BK171 := n0_; have BK179 := n1_; have HB := n2_; have HO183 := n3_; clear n0_ n1_ n2_ n3_; clear ho hb hg hat; obtain ⟨Ao24, co24, eo24⟩ := Kd.R_slice HO183.out
             (first | subst eo24 | (injection eo24 with f1_ f2_ f3_; have f4_ := f1_.symm; have f5_ := f3_.symm; clear f1_ f2_ f3_; subst f4_; subst f5_))
             refine hK.out _ _ ⟨(blk_cell BK179.out 0).trans rfl, (blk_cell BK179.out 1).trans rfl, ((HB.out.cell (World.block_lt_of_cell? w _ hw180_0)).trans hw180_0)⟩ (fun hHeld => ?_)
             clear hK K
             refine zn 48 ?_
             refine zp 10 49 ?_
             refine last_ (i := 11) (N := none) (zm 12 4095) rfl rfl (one_of HT_.out (by kernel_rfl)) (by decide) (fun K hK => ?_)
             have hs25 : w23.cell? ⟨gb179, 0, none⟩ = some (u180000) := (blk_cell BK179.out 0).trans rfl; have hfs25 := zfz BK179.out 0; have hns25_0 := NB171_179.out; have hms25_0 := NB179_171.out
             refine skip_ (w1 := ?_) (by rfl) rfl ?_ ?_
             rotate_left
             ·go_simp
              rfl
             refine hK.out _ _ ?_
             clear hK K
             refine done_ (done_of HT_.out (by kernel_rfl)) ?_
             try go_wp2
             go_roundg k3
             case measure => have := HK1.out; have := HJ8.out; have := HK3.out; omega
             case rel => exact ⟨(wrap64 (x8_3 + 1)), (y181), (.slice Ao24 y181.length co24), (zF), H', ⟨by have := HK1.out; have := HJ8.out; have := HK3.out; omega⟩, ⟨by (with_reducible repeat (first | apply Kd.R_alloc | apply Kd.R_drewN | apply Kd.R_drew)); exact Kd.R_mono (Kd.R_far (p := ⟨gb179, 0, none⟩) (Kd.R_types HO183.out BK179.out (by decide)) (fun _ hk => hk.2) (.slice Ao24 y181.length co24)) (fun _ hk => trivial)⟩, ⟨by refine zb ?_; refine blk_far ?_ NB171_179.out _; refine zb ?_; exact BK171.out⟩, ⟨by refine zb ?_; refine blk_put (cs := #[u180000, .int .i64 (wrap64 (Int.tdiv a1 x5_8))]) ?_ 0 _ rfl; refine zb ?_; exact BK179.out⟩, ⟨zB3 HB.out GE171.out GE179.out⟩⟩
            ·rw [if_neg c21] at H
             exact absurd H (by simp)
          ·rw [if_neg c19] at H
           exact absurd H (by simp)
         ·rw [if_neg c18] at H
          have c18b0 := decide_eq_false c18; clear c18
          simp only [Option.some.injEq, Prod.mk.injEq] at H
          obtain ⟨rfl, rfl⟩ := H; have hnb26 := NB179_171.out; have hnc26 := NB171_179.out; obtain ⟨hcz27_0, hcz27_1, hfz27_0, hfz27_1⟩ := zy2 BK179.out; obtain ⟨Ao28, co28, eo28⟩ := Kd.R_slice HO_180000.out; subst eo28; obtain ⟨hcz29_0, hcz29_1, hfz29_0, hfz29_1⟩ := zy2 BK171.out
          go_wp2
          refine bodyPost_ret (results_cell_row rfl _ _ gb171 35 #[.slice Ao28 x180000_3.length co28, .int .i64 (wrap64 (Int.tdiv a1 x5_8))] (0, 0) _ rfl (by refine zb ?_; refine blk_put (cs := #[.slice Ao28 x180000_3.length co28, .int .i64 0]) ?_ 1 _ rfl; refine zb ?_; refine blk_put (cs := #[.slice none 0 0, .int .i64 0]) ?_ 0 _ rfl; refine zb ?_; exact BK171.out) Try.underlying35 rfl (by kernel_rfl)) rfl ?_
          exact ⟨_, zE, by (with_reducible repeat (first | apply Kd.R_alloc | apply Kd.R_drewN | apply Kd.R_drew)); exact Kd.R_mono (Kd.R_far (p := ⟨gb171, 1, none⟩) (Kd.R_far (p := ⟨gb171, 0, none⟩) (Kd.R_types HO_180000.out BK171.out (by decide)) (fun _ hk => hk.2) (.slice Ao28 x180000_3.length co28)) (fun _ hk => hk.2) (.int .i64 (wrap64 (Int.tdiv a1 x5_8)))) (fun _ hk => trivial), zB3 HB.out GE171.out GE179.out⟩

def spec_l09Pushed.l0 : Nat → List Int → Int → List (S164) → List (S115) → List Int → Int → Option (List Int)
 | 0, _, _, _, _, _, _ => none
 | k + 1, x5, x6, x1000, x1001, x2000, x2001 => if x6 < (x1001.length : Int) then (if 0 ≤ x6 then (if ((rd_T115 x1001 x6).f2 = true) then (spec_l09Pushed.l0 k x5 (wrap64 (x6 + 1)) x1000 x1001 x2000 x2001) else (if x6 < (x2000.length : Int) then (if (rd x2000 x6) < 0 then (if x5.length < 17592186044416 then (spec_l09Pushed.l0 k (x5 ++ [x6]) (wrap64 (x6 + 1)) x1000 x1001 x2000 x2001) else (none)) else (spec_l09Pushed.l0 k x5 (wrap64 (x6 + 1)) x1000 x1001 x2000 x2001)) else (none))) else (none)) else (some x5)
def spec_l09Pushed.f (k : Nat) (l0_0 : List (S164)) (l0_1 : List (S115)) (l1_0 : List Int) (a1_1 : Int) : Option (List Int) := spec_l09Pushed.l0 k (([] : List Int)) 0 l0_0 l0_1 l1_0 a1_1
theorem spec_l09Pushed.mono_l : ∀ k, (∀ y0 y1 y2 y3 y4 y5, LeO (spec_l09Pushed.l0 k y0 y1 y2 y3 y4 y5) (spec_l09Pushed.l0 (k + 1) y0 y1 y2 y3 y4 y5))
 | 0 => fun _ _ _ _ _ _ r h => by simp [spec_l09Pushed.l0] at h
 | k + 1 => by
  have ih0 := spec_l09Pushed.mono_l k
  ·intro y0 y1 y2 y3 y4 y5
   unfold spec_l09Pushed.l0
   exact zM0
theorem spec_l09Pushed.mono : ∀ a0 a1 a2 a3 k, LeO (spec_l09Pushed.f k a0 a1 a2 a3) (spec_l09Pushed.f (k + 1) a0 a1 a2 a3) := by
 intro a0 a1 a2 a3 k
 have ih0 := spec_l09Pushed.mono_l k
 unfold spec_l09Pushed.f
 exact zM0
theorem spec_l09Pushed.calls (k : Nat) (g0 : Nat) (A0_0 : Option Addr) (c0_0 : Nat) (l0_0 : List (S164)) (A0_1 : Option Addr) (c0_1 : Nat) (l0_1 : List (S115)) (g1 : Nat) (A1_0 : Option Addr) (c1_0 : Nat) (l1_0 : List Int) (a1_1 : Int) (r : List Int) (w : World) (hbk0 : w.heap[g0]? = some (.cells #[.slice A0_0 l0_0.length c0_0, .slice A0_1 l0_1.length c0_1] 27 (0, 0))) (hbk1 : w.heap[g1]? = some (.cells #[.slice A1_0 l1_0.length c1_0, .int .i64 a1_1] 35 (0, 0))) (hr0_0 : Kd.C k164 w A0_0 l0_0.length l0_0) (hc0_0 : l0_0.length ≤ c0_0) (hr0_1 : Kd.C k115 w A0_1 l0_1.length l0_1) (hc0_1 : l0_1.length ≤ c0_1) (hr1_0 : Kd.C (Kd.int .i64) w A1_0 l1_0.length l1_0) (hc1_0 : l1_0.length ≤ c1_0) (h : spec_l09Pushed.f k l0_0 l0_1 l1_0 a1_1 = some r) :
  Calls Try.prog 81 #[.pointer (some ⟨g0, 0, none⟩), .pointer (some ⟨g1, 0, none⟩)] w fun e w' => ∃ v0_ : Value, e = .returned (v0_) ∧ Kd.R (Kd.int .i64) 2 w' w.heap.size (fun _ => True) v0_ r ∧ Below w.heap.size w w' := by
 have HR0_0 := zQ hr0_0
 have HC0_0 := zQ hc0_0
 clear hr0_0 hc0_0
 have HR0_1 := zQ hr0_1
 have HC0_1 := zQ hc0_1
 clear hr0_1 hc0_1
 have HR1_0 := zQ hr1_0
 have HC1_0 := zQ hc1_0
 clear hr1_0 hc1_0
 have BK0 := zQ hbk0
 clear hbk0
 have BK1 := zQ hbk1
 clear hbk1
 have NB0_1 := zQ (show g0 ≠ g1 from fun e_ => by have h_ := BK0.out; rw [e_, BK1.out] at h_; simp at h_)
 have NB1_0 := zQ (show g1 ≠ g0 from fun e_ => by have h_ := BK1.out; rw [e_, BK0.out] at h_; simp at h_)
 have HB := zQ (Below.refl w.heap.size w)
 have H : (spec_l09Pushed.l0 k (([] : List Int)) 0 l0_0 l0_1 l1_0 a1_1) = some r := h
 clear h
 obtain ⟨y184, hy184⟩ : ∃ y_ : List Int, y_ = (([] : List Int)) := ⟨_, rfl⟩
 replace H : (spec_l09Pushed.l0 k y184 0 l0_0 l0_1 l1_0 a1_1) = some r := zh H
 have Ny184 := zQ hy184
 clear hy184
 have H' := zQ H
 clear H
 go_enter Try.func81, Try.ntmps81
 go_wp2_with (first | ((with_reducible refine zd 7 ?_); refine Kd.R_lit (Kd.int .i64) _ 2 ?hg (N := 7) ?hd (xs := ([] : List Int)) (inner := []) (ok := fun _ => True) (okp := fun _ => True) ?hr ?hp (fun _ hk => hk) trivial (Below.refl _ _) (Nat.le_refl _) (by simp) ?_; (case hd => rfl); (case hg => rfl); (case hr => first | (go_simp; done) | (go_simp; rfl)); (case hp => exact (Reps.none _ _)); intro v185 w3 ho4 hb hg_ hnew_; clear hg_ hnew_; (first | rw [← Ny184.out] at ho4 | (simp only [Int.reduceToNat] at ho4; rw [← Ny184.out] at ho4)); have HO186 := zQ (Kd.R_lower ho4 (below_size (zB HB.out))); replace BK0 := zbl BK0.out hb; replace BK1 := zbl BK1.out hb; replace HB := zbs HB.out hb; clear hb ho4))
 go_loopg [5, 6] k (fun kq v5 v6 w' => ∃ (x5_1 : List Int) (x6_1 : Int), v6 = .int .i64 x6_1 ∧ Aside0 (spec_l09Pushed.l0 kq x5_1 x6_1 l0_0 l0_1 l1_0 a1_1 = some r) ∧ Aside0 (kq ≤ k) ∧ Aside0 (Kd.R (Kd.int .i64) 2 w' w.heap.size (fun _ => True) v5 x5_1) ∧ Aside0 (w'.heap[g0]? = some (.cells #[(.slice A0_0 l0_0.length c0_0), (.slice A0_1 l0_1.length c0_1)] 27 (0, 0))) ∧ Aside0 (w'.heap[g1]? = some (.cells #[(.slice A1_0 l1_0.length c1_0), .int .i64 a1_1] 35 (0, 0))) ∧ Aside0 (Below w.heap.size w w'))
 case atStart => exact ⟨(y184), (0), (zF), H', ⟨Nat.le_refl _⟩, ⟨zR HO186.out⟩, ⟨zb BK0.out⟩, ⟨zb BK1.out⟩, ⟨zB HB.out⟩⟩
 case round =>
  clear H'; (try clear c1); (try clear p2); obtain ⟨x5_1, x6_1, rfl, HA, HK1, HO_5, BK0, BK1, HB⟩ := hrel
  cases gk with
  | zero => exact absurd HA.out (by simp [spec_l09Pushed.l0])
  | succ k1 =>
   have H := HA.out; clear HA
   simp only [spec_l09Pushed.l0] at H
   by_cases c5 : x6_1 < (l0_1.length : Int)
   ·rw [if_pos c5] at H
    have c5b0 := decide_eq_true c5; clear c5
    by_cases c6 : 0 ≤ x6_1
    ·rw [if_pos c6] at H
     have c6b0 := decide_eq_true c6; clear c6; obtain ⟨bq7, hbq7⟩ : ∃ b_ : Bool, b_ = ((rd_T115 l0_1 x6_1).f2) := ⟨_, rfl⟩
     replace H : (if (bq7 = true) then (spec_l09Pushed.l0 k1 x5_1 (wrap64 (x6_1 + 1)) l0_0 l0_1 l1_0 a1_1) else (if x6_1 < (l1_0.length : Int) then (if (rd l1_0 x6_1) < 0 then (if x5_1.length < 17592186044416 then (spec_l09Pushed.l0 k1 (x5_1 ++ [x6_1]) (wrap64 (x6_1 + 1)) l0_0 l0_1 l1_0 a1_1) else (none)) else (spec_l09Pushed.l0 k1 x5_1 (wrap64 (x6_1 + 1)) l0_0 l0_1 l1_0 a1_1)) else (none))) = some r := by rw [← hbq7] at H; exact H
     have Nbq7 := zQ hbq7; clear hbq7
     by_cases c8 : (bq7 = true)
     ·subst c8
      rw [if_pos rfl] at H; have H' := zQ H; clear H; have hnb9 := NB0_1.out; have hnc9 := NB1_0.out; obtain ⟨hcz10_0, hcz10_1, hfz10_0, hfz10_1⟩ := zy2 BK0.out; have p187 : 0 ≤ (x6_1 : Int) := zD; have q187 : x6_1 < (l0_1.length : Int) := zD; obtain ⟨ad187, e187, hx187_0, hx187_1, hx187_2⟩ := at_T115 HR0_1.out x6_1 p187 q187
      (try rw [← Nbq7.out] at hx187_2)
      cases e187
      replace hx187_0 := zw HB.out hx187_0; replace hx187_1 := zw HB.out hx187_1; replace hx187_2 := zw HB.out hx187_2; replace p187 := eq_true p187; replace q187 := eq_true q187
      go_wp2
      go_roundg k1
      case measure => have := HK1.out; omega
      case rel => exact ⟨(x5_1), (wrap64 (x6_1 + 1)), (zF), H', ⟨by have := HK1.out; omega⟩, ⟨zR HO_5.out⟩, ⟨zb BK0.out⟩, ⟨zb BK1.out⟩, ⟨zB HB.out⟩⟩
     ·replace c8 := Bool.eq_false_iff.mpr c8
      subst c8
      have H1 : (if x6_1 < (l1_0.length : Int) then (if (rd l1_0 x6_1) < 0 then (if x5_1.length < 17592186044416 then (spec_l09Pushed.l0 k1 (x5_1 ++ [x6_1]) (wrap64 (x6_1 + 1)) l0_0 l0_1 l1_0 a1_1) else (none)) else (spec_l09Pushed.l0 k1 x5_1 (wrap64 (x6_1 + 1)) l0_0 l0_1 l1_0 a1_1)) else (none)) = some r := by rw [if_neg (show ¬ (false = true) by decide)] at H; exact H
      clear H; have H := H1; clear H1
      by_cases c11 : x6_1 < (l1_0.length : Int)
      ·rw [if_pos c11] at H
       have c11b0 := decide_eq_true c11; clear c11
       by_cases c12 : (rd l1_0 x6_1) < 0
       ·rw [if_pos c12] at H
        have c12b0 := decide_eq_true c12; clear c12
        by_cases c13 : x5_1.length < 17592186044416
        ·rw [if_pos c13] at H
         have LMc13 := zQ c13; clear c13; obtain ⟨y189, hy189⟩ : ∃ y_ : List Int, y_ = (x5_1 ++ [x6_1]) := ⟨_, rfl⟩; replace H : (spec_l09Pushed.l0 k1 y189 (wrap64 (x6_1 + 1)) l0_0 l0_1 l1_0 a1_1) = some r := zh H; have Ny189 := zQ hy189; clear hy189; have H' := zQ H; clear H; have hnb14 := NB0_1.out; have hnc14 := NB1_0.out; obtain ⟨hcz15_0, hcz15_1, hfz15_0, hfz15_1⟩ := zy2 BK0.out; have p187 : 0 ≤ (x6_1 : Int) := zD; have q187 : x6_1 < (l0_1.length : Int) := zD; obtain ⟨ad187, e187, hx187_0, hx187_1, hx187_2⟩ := at_T115 HR0_1.out x6_1 p187 q187
         (try rw [← Nbq7.out] at hx187_2)
         cases e187
         replace hx187_0 := zw HB.out hx187_0; replace hx187_1 := zw HB.out hx187_1; replace hx187_2 := zw HB.out hx187_2; replace p187 := eq_true p187; replace q187 := eq_true q187; obtain ⟨hcz16_0, hcz16_1, hfz16_0, hfz16_1⟩ := zy2 BK1.out; have p188 : 0 ≤ (x6_1 : Int) := zD; have q188 : x6_1 < (l1_0.length : Int) := zD; obtain ⟨ad188, e188, hx188_0⟩ := Kd.at_int HR1_0.out x6_1 p188 q188
         cases e188
         replace hx188_0 := zw HB.out hx188_0; replace p188 := eq_true p188; replace q188 := eq_true q188
         go_wp2_with (first | ((with_reducible refine gate_builtin (b := .append) (xs := #[.tmp 36, .tmp 38]) rfl ?_); at_builtin; refine Kd.R_append (Kd.int .i64) (w0 := w) w.heap.size rfl (.tmp 36) (.tmp 38) 31 2 (.int .i64 0) 8 rfl Try.underlying31 info2 rfl (by decide) (by omega) u5 x5_1 x6_1 [.int .i64 x6_1] (fun _ => True) (fun _ => False) rfl rfl ?aP (fun _ hk => hk.elim) ?aF ?aO ?aB ?aS ?aL ?_; (case aP => exact rfl); (case aB => exact (zB HB.out)); (case aF => exact (fun _ _ => trivial)); (case aO => exact (zR HO_5.out)); (case aS => exact (below_size (zB HB.out))); (case aL => have := LMc13.out; omega); intro v190 w17 ho hb hg hat; rw [← Ny189.out] at ho; have HO191 := zQ (ho); replace BK0 := zQ (blk_grown (g := g0) (o := .cells #[.slice A0_0 l0_0.length c0_0, .slice (some ad187) l0_1.length c0_1] 27 (0, 0)) (zb BK0.out) hg (Kd.R_ne HO_5.out BK0.out (by decide))); replace BK1 := zQ (blk_grown (g := g1) (o := .cells #[.slice (some ad188) l1_0.length c1_0, .int .i64 a1_1] 35 (0, 0)) (zb BK1.out) hg (Kd.R_ne HO_5.out BK1.out (by decide))); replace HB := zQ (hb); clear HO_5 ho hb hg hat))
         go_roundg k1
         case measure => have := HK1.out; omega
         case rel => exact ⟨(y189), (wrap64 (x6_1 + 1)), (zF), H', ⟨by have := HK1.out; omega⟩, ⟨zR HO191.out⟩, ⟨zb BK0.out⟩, ⟨zb BK1.out⟩, ⟨zB HB.out⟩⟩
        ·rw [if_neg c13] at H
         exact absurd H (by simp)
       ·rw [if_neg c12] at H
        have c12b0 := decide_eq_false c12; clear c12; have H' := zQ H; clear H; have hnb18 := NB0_1.out; have hnc18 := NB1_0.out; obtain ⟨hcz19_0, hcz19_1, hfz19_0, hfz19_1⟩ := zy2 BK0.out; have p187 : 0 ≤ (x6_1 : Int) := zD; have q187 : x6_1 < (l0_1.length : Int) := zD; obtain ⟨ad187, e187, hx187_0, hx187_1, hx187_2⟩ := at_T115 HR0_1.out x6_1 p187 q187
        (try rw [← Nbq7.out] at hx187_2)
        cases e187
        replace hx187_0 := zw HB.out hx187_0; replace hx187_1 := zw HB.out hx187_1; replace hx187_2 := zw HB.out hx187_2; replace p187 := eq_true p187; replace q187 := eq_true q187; obtain ⟨hcz20_0, hcz20_1, hfz20_0, hfz20_1⟩ := zy2 BK1.out; have p188 : 0 ≤ (x6_1 : Int) := zD; have q188 : x6_1 < (l1_0.length : Int) := zD; obtain ⟨ad188, e188, hx188_0⟩ := Kd.at_int HR1_0.out x6_1 p188 q188
        cases e188
        replace hx188_0 := zw HB.out hx188_0; replace p188 := eq_true p188; replace q188 := eq_true q188
        go_wp2
        go_roundg k1
        case measure => have := HK1.out; omega
        case rel => exact ⟨(x5_1), (wrap64 (x6_1 + 1)), (zF), H', ⟨by have := HK1.out; omega⟩, ⟨zR HO_5.out⟩, ⟨zb BK0.out⟩, ⟨zb BK1.out⟩, ⟨zB HB.out⟩⟩
      ·rw [if_neg c11] at H
       exact absurd H (by simp)
    ·rw [if_neg c6] at H
     exact absurd H (by simp)
   ·rw [if_neg c5] at H
    have c5b0 := decide_eq_false c5; clear c5; obtain rfl := Option.some.inj H; have hnb21 := NB0_1.out; have hnc21 := NB1_0.out; obtain ⟨hcz22_0, hcz22_1, hfz22_0, hfz22_1⟩ := zy2 BK0.out
    go_wp2
    go_ret
    exact ⟨_, zE, zR HO_5.out, zB HB.out⟩

def impl_pushedWires.l0 : Nat → List Int → List (S115) → Int → Int → List Int → Int → Option (List Int)
 | 0, _, _, _, _, _, _ => none
 | k + 1, x5, x10, x11, x12, x277000, x277001 => if x12 < x11 then (if 0 ≤ x12 then (if x12 < (x10.length : Int) then (if ((rd_T115 x10 x12).f2 = true) then (impl_pushedWires.l0 k x5 x10 x11 (wrap64 (x12 + 1)) x277000 x277001) else (if x12 < (x277000.length : Int) then (if (rd x277000 x12) < 0 then (if x5.length < 17592186044416 then (impl_pushedWires.l0 k (x5 ++ [x12]) x10 x11 (wrap64 (x12 + 1)) x277000 x277001) else (none)) else (impl_pushedWires.l0 k x5 x10 x11 (wrap64 (x12 + 1)) x277000 x277001)) else (none))) else (none)) else (none)) else (some x5)
def impl_pushedWires.f (k : Nat) (l0_0 : List (S164)) (l0_1 : List (S115)) (l1_0 : List Int) (a1_1 : Int) : Option (List Int) := impl_pushedWires.l0 k (([] : List Int)) l0_1 (l0_1.length : Int) 0 l1_0 a1_1
theorem impl_pushedWires.mono_l : ∀ k, (∀ y0 y1 y2 y3 y4 y5, LeO (impl_pushedWires.l0 k y0 y1 y2 y3 y4 y5) (impl_pushedWires.l0 (k + 1) y0 y1 y2 y3 y4 y5))
 | 0 => fun _ _ _ _ _ _ r h => by simp [impl_pushedWires.l0] at h
 | k + 1 => by
  have ih0 := impl_pushedWires.mono_l k
  ·intro y0 y1 y2 y3 y4 y5
   unfold impl_pushedWires.l0
   exact zM0
theorem impl_pushedWires.mono : ∀ a0 a1 a2 a3 k, LeO (impl_pushedWires.f k a0 a1 a2 a3) (impl_pushedWires.f (k + 1) a0 a1 a2 a3) := by
 intro a0 a1 a2 a3 k
 have ih0 := impl_pushedWires.mono_l k
 unfold impl_pushedWires.f
 exact zM0
theorem impl_pushedWires.calls (k : Nat) (A0_0 : Option Addr) (c0_0 : Nat) (l0_0 : List (S164)) (A0_1 : Option Addr) (c0_1 : Nat) (l0_1 : List (S115)) (A1_0 : Option Addr) (c1_0 : Nat) (l1_0 : List Int) (a1_1 : Int) (r : List Int) (w : World) (hr0_0 : Kd.C k164 w A0_0 l0_0.length l0_0) (hc0_0 : l0_0.length ≤ c0_0) (hr0_1 : Kd.C k115 w A0_1 l0_1.length l0_1) (hc0_1 : l0_1.length ≤ c0_1) (hr1_0 : Kd.C (Kd.int .i64) w A1_0 l1_0.length l1_0) (hc1_0 : l1_0.length ≤ c1_0) (h : impl_pushedWires.f k l0_0 l0_1 l1_0 a1_1 = some r) :
  Calls Try.prog 77 #[.agg #[.slice A0_0 l0_0.length c0_0, .slice A0_1 l0_1.length c0_1], .agg #[.slice A1_0 l1_0.length c1_0, .int .i64 a1_1]] w fun e w' => ∃ v0_ : Value, e = .returned (v0_) ∧ Kd.R (Kd.int .i64) 2 w' w.heap.size (fun _ => True) v0_ r ∧ Below w.heap.size w w' := by
 have hu27 := Try.underlying27
 have hu35 := Try.underlying35
 have hu115 := Try.underlying115
 have HR0_0 := zQ hr0_0
 have HC0_0 := zQ hc0_0
 clear hr0_0 hc0_0
 have HR0_1 := zQ hr0_1
 have HC0_1 := zQ hc0_1
 clear hr0_1 hc0_1
 have HR1_0 := zQ hr1_0
 have HC1_0 := zQ hc1_0
 clear hr1_0 hc1_0
 have HB := zQ (Below.refl w.heap.size w)
 have H : (impl_pushedWires.l0 k (([] : List Int)) l0_1 (l0_1.length : Int) 0 l1_0 a1_1) = some r := h
 clear h
 obtain ⟨y277, hy277⟩ : ∃ y_ : List Int, y_ = (([] : List Int)) := ⟨_, rfl⟩
 replace H : (impl_pushedWires.l0 k y277 l0_1 (l0_1.length : Int) 0 l1_0 a1_1) = some r := zh H
 have Ny277 := zQ hy277
 clear hy277
 have H' := zQ H
 clear H
 go_enter Try.func77, Try.ntmps77
 go_wp2_with (first | ((with_reducible refine zd 2 ?_); refine zbx (N := 2) (cs := #[.slice A0_0 l0_0.length c0_0, .slice A0_1 l0_1.length c0_1]) (t := 27) ?_; intro gb275 hg w3 hbox hb; have BK275 := zQ (hbox); have GW275 := zgz hg HB.out; have GE275 := GW275; replace HB := zbs HB.out hb; clear hb hbox hg) | ((with_reducible refine zd 3 ?_); refine zbx (N := 3) (cs := #[.slice A1_0 l1_0.length c1_0, .int .i64 a1_1]) (t := 35) ?_; intro gb276 hg w4 hbox hb; have BK276 := zQ (hbox); have GW276 := zgz2 hg HB.out GE275.out; have GE276 := GW276; have NB275_276 := zn1 hg BK275.out; have NB276_275 := zn2 hg BK275.out; replace BK275 := zbl BK275.out hb; replace HB := zbs2 HB.out GE275.out hb; clear hb hbox hg) | ((with_reducible refine zd 8 ?_); refine Kd.R_lit (Kd.int .i64) _ 2 ?hg (N := 8) ?hd (xs := ([] : List Int)) (inner := []) (ok := fun _ => True) (okp := fun _ => True) ?hr ?hp (fun _ hk => hk) trivial (Below.refl _ _) (Nat.le_refl _) (by simp) ?_; (case hd => rfl); (case hg => rfl); (case hr => first | (go_simp; done) | (go_simp; rfl)); (case hp => exact (Reps.none _ _)); intro v278 w5 ho6 hb hg_ hnew_; clear hg_ hnew_; (first | rw [← Ny277.out] at ho6 | (simp only [Int.reduceToNat] at ho6; rw [← Ny277.out] at ho6)); have HO279 := zQ (Kd.R_lower ho6 (below_size (zB3 HB.out GE275.out GE276.out))); replace BK275 := zbl BK275.out hb; replace BK276 := zbl BK276.out hb; replace HB := zQ (below_step (zB3 HB.out GE275.out GE276.out) hb); clear hb ho6; have hnb7 := NB275_276.out; have hnc7 := NB276_275.out; obtain ⟨hcz8_0, hcz8_1, hfz8_0, hfz8_1⟩ := zy2 BK275.out))
 go_loopg [5, 12] k (fun kq v5 v12 w' => ∃ (x5_1 : List Int) (x12_1 : Int), v12 = .int .i64 x12_1 ∧ Aside0 (impl_pushedWires.l0 kq x5_1 l0_1 (l0_1.length : Int) x12_1 l1_0 a1_1 = some r) ∧ Aside0 (kq ≤ k) ∧ Aside0 (Kd.R (Kd.int .i64) 2 w' w.heap.size (fun _ => True) v5 x5_1) ∧ Aside0 (w'.heap[gb275]? = some (.cells #[(.slice A0_0 l0_0.length c0_0), (.slice A0_1 l0_1.length c0_1)] 27 (0, 0))) ∧ Aside0 (w'.heap[gb276]? = some (.cells #[(.slice A1_0 l1_0.length c1_0), .int .i64 a1_1] 35 (0, 0))) ∧ Aside0 (Below w.heap.size w w'))
 case atStart => exact ⟨(y277), (0), (zF), H', ⟨Nat.le_refl _⟩, ⟨zR HO279.out⟩, ⟨zb BK275.out⟩, ⟨zb BK276.out⟩, ⟨zB3 HB.out GE275.out GE276.out⟩⟩
 case round =>
  clear H'; (try clear c1); (try clear p2); (try clear c7); (try clear hcz8_0 hcz8_1 hfz8_0 hfz8_1); obtain ⟨x5_1, x12_1, rfl, HA, HK1, HO_5, BK275, BK276, HB⟩ := hrel
  cases gk with
  | zero => exact absurd HA.out (by simp [impl_pushedWires.l0])
  | succ k1 =>
   have H := HA.out; clear HA
   simp only [impl_pushedWires.l0] at H
   by_cases c9 : x12_1 < (l0_1.length : Int)
   ·rw [if_pos c9] at H
    have c9b0 := decide_eq_true c9; clear c9
    by_cases c10 : 0 ≤ x12_1
    ·rw [if_pos c10] at H
     have c10b0 := decide_eq_true c10; clear c10
     by_cases c11 : x12_1 < (l0_1.length : Int)
     ·rw [if_pos c11] at H
      have c11b0 := decide_eq_true c11; clear c11; obtain ⟨bq12, hbq12⟩ : ∃ b_ : Bool, b_ = ((rd_T115 l0_1 x12_1).f2) := ⟨_, rfl⟩
      replace H : (if (bq12 = true) then (impl_pushedWires.l0 k1 x5_1 l0_1 (l0_1.length : Int) (wrap64 (x12_1 + 1)) l1_0 a1_1) else (if x12_1 < (l1_0.length : Int) then (if (rd l1_0 x12_1) < 0 then (if x5_1.length < 17592186044416 then (impl_pushedWires.l0 k1 (x5_1 ++ [x12_1]) l0_1 (l0_1.length : Int) (wrap64 (x12_1 + 1)) l1_0 a1_1) else (none)) else (impl_pushedWires.l0 k1 x5_1 l0_1 (l0_1.length : Int) (wrap64 (x12_1 + 1)) l1_0 a1_1)) else (none))) = some r := by rw [← hbq12] at H; exact H
      have Nbq12 := zQ hbq12; clear hbq12
      by_cases c13 : (bq12 = true)
      ·subst c13
       rw [if_pos rfl] at H; have H' := zQ H; clear H; have p280 : 0 ≤ (x12_1 : Int) := zD; have q280 : x12_1 < (l0_1.length : Int) := zD; obtain ⟨ad280, e280, hx280_0, hx280_1, hx280_2⟩ := at_T115 HR0_1.out x12_1 p280 q280
       (try rw [← Nbq12.out] at hx280_2)
       cases e280
       replace hx280_0 := zw HB.out hx280_0; replace hx280_1 := zw HB.out hx280_1; replace hx280_2 := zw HB.out hx280_2; replace p280 := eq_true p280; replace q280 := eq_true q280
       go_wp2_with (first | ((with_reducible refine zd 7 ?_); refine zbx (N := 7) (cs := #[.int .i64 0, .int .i64 0, .bool false]) (t := 115) ?_; intro gb281 hg w14 hbox hb; have BK281 := zQ (hbox); have GW281 := zQ ((by rw [hg]; exact (below_size (zB3 HB.out GE275.out GE276.out)) : w.heap.size ≤ gb281)); have GE281 := zQ ((by rw [hg]; exact (below_size (zB3 HB.out GE275.out GE276.out)) : w.heap.size ≤ gb281)); have NB275_281 := zn1 hg BK275.out; have NB281_275 := zn2 hg BK275.out; have NB276_281 := zn1 hg BK276.out; have NB281_276 := zn2 hg BK276.out; replace HO_5 := zRb HO_5.out hb; replace BK275 := zbl BK275.out hb; replace BK276 := zbl BK276.out hb; replace HB := zQ (below_step (zB3 HB.out GE275.out GE276.out) hb); clear hb hbox hg; have hnb15 := NB281_275.out; have hnc15 := NB275_281.out; have hnb16 := NB281_276.out; have hnc16 := NB276_281.out; obtain ⟨hcz17_0, hcz17_1, hcz17_2, hfz17_0, hfz17_1, hfz17_2⟩ := zy3 BK281.out))
       go_roundg k1
       case measure => have := HK1.out; omega
       case rel => exact ⟨(x5_1), (wrap64 (x12_1 + 1)), (zF), H', ⟨by have := HK1.out; omega⟩, ⟨by (with_reducible repeat (first | apply Kd.R_alloc | apply Kd.R_drewN | apply Kd.R_drew)); exact Kd.R_mono (Kd.R_far (p := ⟨gb281, 2, none⟩) (Kd.R_far (p := ⟨gb281, 1, none⟩) (Kd.R_far (p := ⟨gb281, 0, none⟩) (Kd.R_types HO_5.out BK281.out (by decide)) (fun _ hk => hk.2) (.int .i64 ((rd_T115 l0_1 x12_1).f0))) (fun _ hk => hk.2) (.int .i64 ((rd_T115 l0_1 x12_1).f1))) (fun _ hk => hk.2) (.bool true)) (fun _ hk => trivial)⟩, ⟨by refine zb ?_; refine blk_far ?_ NB275_281.out _; refine zb ?_; refine blk_far ?_ NB275_281.out _; refine zb ?_; refine blk_far ?_ NB275_281.out _; refine zb ?_; exact BK275.out⟩, ⟨by refine zb ?_; refine blk_far ?_ NB276_281.out _; refine zb ?_; refine blk_far ?_ NB276_281.out _; refine zb ?_; refine blk_far ?_ NB276_281.out _; refine zb ?_; exact BK276.out⟩, ⟨by repeat (first | (with_reducible first | exact HB.out | apply below_alloc | apply pw_below_drewN | apply below_drew1 | refine below_set ?_ GE275.out | refine below_set ?_ GE276.out | refine below_set ?_ GE281.out) | exact HB.out)⟩⟩
      ·replace c13 := Bool.eq_false_iff.mpr c13
       subst c13
       have H1 : (if x12_1 < (l1_0.length : Int) then (if (rd l1_0 x12_1) < 0 then (if x5_1.length < 17592186044416 then (impl_pushedWires.l0 k1 (x5_1 ++ [x12_1]) l0_1 (l0_1.length : Int) (wrap64 (x12_1 + 1)) l1_0 a1_1) else (none)) else (impl_pushedWires.l0 k1 x5_1 l0_1 (l0_1.length : Int) (wrap64 (x12_1 + 1)) l1_0 a1_1)) else (none)) = some r := by rw [if_neg (show ¬ (false = true) by decide)] at H; exact H
       clear H; have H := H1; clear H1
       by_cases c18 : x12_1 < (l1_0.length : Int)
       ·rw [if_pos c18] at H
        have c18b0 := decide_eq_true c18; clear c18
        by_cases c19 : (rd l1_0 x12_1) < 0
        ·rw [if_pos c19] at H
         have c19b0 := decide_eq_true c19; clear c19
         by_cases c20 : x5_1.length < 17592186044416
         ·rw [if_pos c20] at H
          have LMc20 := zQ c20; clear c20; obtain ⟨y283, hy283⟩ : ∃ y_ : List Int, y_ = (x5_1 ++ [x12_1]) := ⟨_, rfl⟩; replace H : (impl_pushedWires.l0 k1 y283 l0_1 (l0_1.length : Int) (wrap64 (x12_1 + 1)) l1_0 a1_1) = some r := zh H; have Ny283 := zQ hy283; clear hy283; have H' := zQ H; clear H; have p280 : 0 ≤ (x12_1 : Int) := zD; have q280 : x12_1 < (l0_1.length : Int) := zD; obtain ⟨ad280, e280, hx280_0, hx280_1, hx280_2⟩ := at_T115 HR0_1.out x12_1 p280 q280
          (try rw [← Nbq12.out] at hx280_2)
          cases e280
          replace hx280_0 := zw HB.out hx280_0; replace hx280_1 := zw HB.out hx280_1; replace hx280_2 := zw HB.out hx280_2; replace p280 := eq_true p280; replace q280 := eq_true q280
          go_wp2_with (first | ((with_reducible refine zd 7 ?_); refine zbx (N := 7) (cs := #[.int .i64 0, .int .i64 0, .bool false]) (t := 115) ?_; intro gb281 hg w21 hbox hb; have BK281 := zQ (hbox); have GW281 := zQ ((by rw [hg]; exact (below_size (zB3 HB.out GE275.out GE276.out)) : w.heap.size ≤ gb281)); have GE281 := zQ ((by rw [hg]; exact (below_size (zB3 HB.out GE275.out GE276.out)) : w.heap.size ≤ gb281)); have NB275_281 := zn1 hg BK275.out; have NB281_275 := zn2 hg BK275.out; have NB276_281 := zn1 hg BK276.out; have NB281_276 := zn2 hg BK276.out; replace HO_5 := zRb HO_5.out hb; replace BK275 := zbl BK275.out hb; replace BK276 := zbl BK276.out hb; replace HB := zQ (below_step (zB3 HB.out GE275.out GE276.out) hb); clear hb hbox hg; have hnb22 := NB281_275.out; have hnc22 := NB275_281.out; have hnb23 := NB281_276.out; have hnc23 := NB276_281.out; obtain ⟨hcz24_0, hcz24_1, hcz24_2, hfz24_0, hfz24_1, hfz24_2⟩ := zy3 BK281.out; have hnb25 := NB276_275.out; have hnc25 := NB275_276.out; obtain ⟨hcz26_0, hcz26_1, hfz26_0, hfz26_1⟩ := zy2 BK276.out; have p282 : 0 ≤ (x12_1 : Int) := zD; have q282 : x12_1 < (l1_0.length : Int) := zD; obtain ⟨ad282, e282, hx282_0⟩ := Kd.at_int HR1_0.out x12_1 p282 q282; cases e282; have hn282_0 : ad282.block ≠ gb281 := Nat.ne_of_lt (Nat.lt_of_lt_of_le (by have := World.block_lt_of_cell? _ _ hx282_0; first | rwa [add_block] at this | exact this) GW281.out); have hn282_1 : ad282.block ≠ gb281 := Nat.ne_of_lt (Nat.lt_of_lt_of_le (by have := World.block_lt_of_cell? _ _ hx282_0; first | rwa [add_block] at this | exact this) GW281.out); have hn282_2 : ad282.block ≠ gb281 := Nat.ne_of_lt (Nat.lt_of_lt_of_le (by have := World.block_lt_of_cell? _ _ hx282_0; first | rwa [add_block] at this | exact this) GW281.out); replace hx282_0 := zw HB.out hx282_0; replace hx282_0 := (cell_far (p := ⟨gb281, 0, none⟩) (by first | (rw [add_block]; exact hn282_0) | (show (Addr.add _ _).block ≠ _; rw [add_block]; exact hn282_0) | exact hn282_0) (.int .i64 ((rd_T115 l0_1 x12_1).f0))).trans hx282_0; replace hx282_0 := (cell_far (p := ⟨gb281, 1, none⟩) (by first | (rw [add_block]; exact hn282_1) | (show (Addr.add _ _).block ≠ _; rw [add_block]; exact hn282_1) | exact hn282_1) (.int .i64 ((rd_T115 l0_1 x12_1).f1))).trans hx282_0; replace hx282_0 := (cell_far (p := ⟨gb281, 2, none⟩) (by first | (rw [add_block]; exact hn282_2) | (show (Addr.add _ _).block ≠ _; rw [add_block]; exact hn282_2) | exact hn282_2) (.bool false)).trans hx282_0; clear hn282_0; clear hn282_1; clear hn282_2; replace p282 := eq_true p282; replace q282 := eq_true q282) | ((with_reducible refine gate_builtin (b := .append) (xs := #[.tmp 28, .tmp 30]) rfl ?_); at_builtin; refine Kd.R_append (Kd.int .i64) (w0 := w) w.heap.size rfl (.tmp 28) (.tmp 30) 31 2 (.int .i64 0) 8 rfl Try.underlying31 info2 rfl (by decide) (by omega) u5 x5_1 x12_1 [.int .i64 x12_1] (fun _ => True) (fun _ => False) rfl (by first | (go_simp; done) | (go_simp; rfl)) ?aP (fun _ hk => hk.elim) ?aF ?aO ?aB ?aS ?aL ?_; (case aP => exact rfl); (case aB => exact (by repeat (first | (with_reducible first | exact HB.out | apply below_alloc | apply pw_below_drewN | apply below_drew1 | refine below_set ?_ GE275.out | refine below_set ?_ GE276.out | refine below_set ?_ GE281.out) | exact HB.out))); (case aF => exact (fun _ _ => trivial)); (case aO => exact (by (with_reducible repeat (first | apply Kd.R_alloc | apply Kd.R_drewN | apply Kd.R_drew)); exact Kd.R_mono (Kd.R_far (p := ⟨gb281, 2, none⟩) (Kd.R_far (p := ⟨gb281, 1, none⟩) (Kd.R_far (p := ⟨gb281, 0, none⟩) (Kd.R_types HO_5.out BK281.out (by decide)) (fun _ hk => hk.2) (.int .i64 ((rd_T115 l0_1 x12_1).f0))) (fun _ hk => hk.2) (.int .i64 ((rd_T115 l0_1 x12_1).f1))) (fun _ hk => hk.2) (.bool false)) (fun _ hk => trivial))); (case aS => exact (below_size (by repeat (first | (with_reducible first | exact HB.out | apply below_alloc | apply pw_below_drewN | apply below_drew1 | refine below_set ?_ GE275.out | refine below_set ?_ GE276.out | refine below_set ?_ GE281.out) | exact HB.out)))); (case aL => have := LMc20.out; omega); intro v284 w27 ho hb hg hat; rw [← Ny283.out] at ho; have HO285 := zQ (ho); replace BK275 := zQ (blk_grown (g := gb275) (o := .cells #[.slice A0_0 l0_0.length c0_0, .slice (some ad280) l0_1.length c0_1] 27 (0, 0)) (by refine zb ?_; refine blk_far ?_ NB275_281.out _; refine zb ?_; refine blk_far ?_ NB275_281.out _; refine zb ?_; refine blk_far ?_ NB275_281.out _; refine zb ?_; exact BK275.out) hg (Kd.R_ne HO_5.out BK275.out (by decide))); replace BK276 := zQ (blk_grown (g := gb276) (o := .cells #[.slice (some ad282) l1_0.length c1_0, .int .i64 a1_1] 35 (0, 0)) (by refine zb ?_; refine blk_far ?_ NB276_281.out _; refine zb ?_; refine blk_far ?_ NB276_281.out _; refine zb ?_; refine blk_far ?_ NB276_281.out _; refine zb ?_; exact BK276.out) hg (Kd.R_ne HO_5.out BK276.out (by decide))); replace BK281 := zQ (blk_grown (g := gb281) (o := .cells #[.int .i64 ((rd_T115 l0_1 x12_1).f0), .int .i64 ((rd_T115 l0_1 x12_1).f1), .bool false] 115 (0, 0)) (by refine zb ?_; refine blk_put (cs := #[.int .i64 ((rd_T115 l0_1 x12_1).f0), .int .i64 ((rd_T115 l0_1 x12_1).f1), .bool false]) ?_ 2 _ rfl; refine zb ?_; refine blk_put (cs := #[.int .i64 ((rd_T115 l0_1 x12_1).f0), .int .i64 0, .bool false]) ?_ 1 _ rfl; refine zb ?_; refine blk_put (cs := #[.int .i64 0, .int .i64 0, .bool false]) ?_ 0 _ rfl; refine zb ?_; exact BK281.out) hg (Kd.R_ne HO_5.out BK281.out (by decide))); replace HB := zQ (hb); clear HO_5 ho hb hg hat))
          go_roundg k1
          case measure => have := HK1.out; omega
          case rel => exact ⟨(y283), (wrap64 (x12_1 + 1)), (zF), H', ⟨by have := HK1.out; omega⟩, ⟨zR HO285.out⟩, ⟨zb BK275.out⟩, ⟨zb BK276.out⟩, ⟨by repeat (first | (with_reducible first | exact HB.out | apply below_alloc | apply pw_below_drewN | apply below_drew1 | refine below_set ?_ GE275.out | refine below_set ?_ GE276.out | refine below_set ?_ GE281.out) | exact HB.out)⟩⟩
         ·rw [if_neg c20] at H
          exact absurd H (by simp)
        ·rw [if_neg c19] at H
         have c19b0 := decide_eq_false c19; clear c19; have H' := zQ H; clear H; have p280 : 0 ≤ (x12_1 : Int) := zD; have q280 : x12_1 < (l0_1.length : Int) := zD; obtain ⟨ad280, e280, hx280_0, hx280_1, hx280_2⟩ := at_T115 HR0_1.out x12_1 p280 q280
         (try rw [← Nbq12.out] at hx280_2)
         cases e280
         replace hx280_0 := zw HB.out hx280_0; replace hx280_1 := zw HB.out hx280_1; replace hx280_2 := zw HB.out hx280_2; replace p280 := eq_true p280; replace q280 := eq_true q280
         go_wp2_with (first | ((with_reducible refine zd 7 ?_); refine zbx (N := 7) (cs := #[.int .i64 0, .int .i64 0, .bool false]) (t := 115) ?_; intro gb281 hg w28 hbox hb; have BK281 := zQ (hbox); have GW281 := zQ ((by rw [hg]; exact (below_size (zB3 HB.out GE275.out GE276.out)) : w.heap.size ≤ gb281)); have GE281 := zQ ((by rw [hg]; exact (below_size (zB3 HB.out GE275.out GE276.out)) : w.heap.size ≤ gb281)); have NB275_281 := zn1 hg BK275.out; have NB281_275 := zn2 hg BK275.out; have NB276_281 := zn1 hg BK276.out; have NB281_276 := zn2 hg BK276.out; replace HO_5 := zRb HO_5.out hb; replace BK275 := zbl BK275.out hb; replace BK276 := zbl BK276.out hb; replace HB := zQ (below_step (zB3 HB.out GE275.out GE276.out) hb); clear hb hbox hg; have hnb29 := NB281_275.out; have hnc29 := NB275_281.out; have hnb30 := NB281_276.out; have hnc30 := NB276_281.out; obtain ⟨hcz31_0, hcz31_1, hcz31_2, hfz31_0, hfz31_1, hfz31_2⟩ := zy3 BK281.out; have hnb32 := NB276_275.out; have hnc32 := NB275_276.out; obtain ⟨hcz33_0, hcz33_1, hfz33_0, hfz33_1⟩ := zy2 BK276.out; have p282 : 0 ≤ (x12_1 : Int) := zD; have q282 : x12_1 < (l1_0.length : Int) := zD; obtain ⟨ad282, e282, hx282_0⟩ := Kd.at_int HR1_0.out x12_1 p282 q282; cases e282; have hn282_0 : ad282.block ≠ gb281 := Nat.ne_of_lt (Nat.lt_of_lt_of_le (by have := World.block_lt_of_cell? _ _ hx282_0; first | rwa [add_block] at this | exact this) GW281.out); have hn282_1 : ad282.block ≠ gb281 := Nat.ne_of_lt (Nat.lt_of_lt_of_le (by have := World.block_lt_of_cell? _ _ hx282_0; first | rwa [add_block] at this | exact this) GW281.out); have hn282_2 : ad282.block ≠ gb281 := Nat.ne_of_lt (Nat.lt_of_lt_of_le (by have := World.block_lt_of_cell? _ _ hx282_0; first | rwa [add_block] at this | exact this) GW281.out); replace hx282_0 := zw HB.out hx282_0; replace hx282_0 := (cell_far (p := ⟨gb281, 0, none⟩) (by first | (rw [add_block]; exact hn282_0) | (show (Addr.add _ _).block ≠ _; rw [add_block]; exact hn282_0) | exact hn282_0) (.int .i64 ((rd_T115 l0_1 x12_1).f0))).trans hx282_0; replace hx282_0 := (cell_far (p := ⟨gb281, 1, none⟩) (by first | (rw [add_block]; exact hn282_1) | (show (Addr.add _ _).block ≠ _; rw [add_block]; exact hn282_1) | exact hn282_1) (.int .i64 ((rd_T115 l0_1 x12_1).f1))).trans hx282_0; replace hx282_0 := (cell_far (p := ⟨gb281, 2, none⟩) (by first | (rw [add_block]; exact hn282_2) | (show (Addr.add _ _).block ≠ _; rw [add_block]; exact hn282_2) | exact hn282_2) (.bool false)).trans hx282_0; clear hn282_0; clear hn282_1; clear hn282_2; replace p282 := eq_true p282; replace q282 := eq_true q282))
         go_roundg k1
         case measure => have := HK1.out; omega
         case rel => exact ⟨(x5_1), (wrap64 (x12_1 + 1)), (zF), H', ⟨by have := HK1.out; omega⟩, ⟨by (with_reducible repeat (first | apply Kd.R_alloc | apply Kd.R_drewN | apply Kd.R_drew)); exact Kd.R_mono (Kd.R_far (p := ⟨gb281, 2, none⟩) (Kd.R_far (p := ⟨gb281, 1, none⟩) (Kd.R_far (p := ⟨gb281, 0, none⟩) (Kd.R_types HO_5.out BK281.out (by decide)) (fun _ hk => hk.2) (.int .i64 ((rd_T115 l0_1 x12_1).f0))) (fun _ hk => hk.2) (.int .i64 ((rd_T115 l0_1 x12_1).f1))) (fun _ hk => hk.2) (.bool false)) (fun _ hk => trivial)⟩, ⟨by refine zb ?_; refine blk_far ?_ NB275_281.out _; refine zb ?_; refine blk_far ?_ NB275_281.out _; refine zb ?_; refine blk_far ?_ NB275_281.out _; refine zb ?_; exact BK275.out⟩, ⟨by refine zb ?_; refine blk_far ?_ NB276_281.out _; refine zb ?_; refine blk_far ?_ NB276_281.out _; refine zb ?_; refine blk_far ?_ NB276_281.out _; refine zb ?_; exact BK276.out⟩, ⟨by repeat (first | (with_reducible first | exact HB.out | apply below_alloc | apply pw_below_drewN | apply below_drew1 | refine below_set ?_ GE275.out | refine below_set ?_ GE276.out | refine below_set ?_ GE281.out) | exact HB.out)⟩⟩
       ·rw [if_neg c18] at H
        exact absurd H (by simp)
     ·rw [if_neg c11] at H
      exact absurd H (by simp)
    ·rw [if_neg c10] at H
     exact absurd H (by simp)
   ·rw [if_neg c9] at H
    have c9b0 := decide_eq_false c9; clear c9; obtain rfl := Option.some.inj H
    go_wp2
    go_ret
    exact ⟨_, zE, zR HO_5.out, zB3 HB.out GE275.out GE276.out⟩

end
end Go.Proofs.Ytimjblgepbhoaaa.PStays

