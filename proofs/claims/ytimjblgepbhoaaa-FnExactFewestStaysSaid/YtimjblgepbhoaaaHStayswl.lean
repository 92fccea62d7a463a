import Derived.Test.YtimjblgepbhoaaaHStays0
namespace Go.Proofs.Ytimjblgepbhoaaa.PStays
noncomputable section
open Go.RowKit Go.Proofs.YtimjblgepbhoaaaW.PrintWords Go.Proofs.YtimjblgepbhoaaaW.PrintLast Go.Proofs.YtimjblgepbhoaaaW.PrintMore
attribute [local go_sem] max2_int min2_int max_two min_two max_three min_three max_four min_four   -- for this text's walks alone
set_option linter.unusedVariables false
set_option linter.unusedSimpArgs false
set_option maxHeartbeats 8000000
set_option maxRecDepth 100000

def spec_l11Less.l0 : Nat → List Int → List Int → Int → Option (Bool)
 | 0, _, _, _ => none
 | k + 1, x0, x1, x5 => if x5 < (x0.length : Int) then (if 0 ≤ x5 then (if x5 < (x1.length : Int) then (if (rd x0 x5) = (rd x1 x5) then (spec_l11Less.l0 k x0 x1 (wrap64 (x5 + 1))) else (some (decide ((rd x0 x5) < (rd x1 x5))))) else (none)) else (none)) else (some false)
def spec_l11Less.f (k : Nat) (l0 : List Int) (l1 : List Int) : Option (Bool) := if (l0.length : Int) = (l1.length : Int) then (spec_l11Less.l0 k l0 l1 0) else (some (decide ((l0.length : Int) < (l1.length : Int))))
theorem spec_l11Less.mono_l : ∀ k, (∀ y0 y1 y2, LeO (spec_l11Less.l0 k y0 y1 y2) (spec_l11Less.l0 (k + 1) y0 y1 y2))
 | 0 => fun _ _ _ r h => by simp [spec_l11Less.l0] at h
 | k + 1 => by
  have ih0 := spec_l11Less.mono_l k
  ·intro y0 y1 y2
   unfold spec_l11Less.l0
   exact zM0
theorem spec_l11Less.mono : ∀ a0 a1 k, LeO (spec_l11Less.f k a0 a1) (spec_l11Less.f (k + 1) a0 a1) := by
 intro a0 a1 k
 have ih0 := spec_l11Less.mono_l k
 unfold spec_l11Less.f
 exact zM0
theorem spec_l11Less.calls (k : Nat) (A0 : Option Addr) (c0 : Nat) (l0 : List Int) (A1 : Option Addr) (c1 : Nat) (l1 : List Int) (r : Bool) (w : World) (EA : Kd.C (Kd.int .i64) w A0 l0.length l0) (GA : l0.length ≤ c0) (DA : Kd.C (Kd.int .i64) w A1 l1.length l1) (FA : l1.length ≤ c1) (h : spec_l11Less.f k l0 l1 = some r) :
  Calls Try.prog 112 #[.slice A0 l0.length c0, .slice A1 l1.length c1] w fun e w' => e = .returned (.bool r) ∧ Drawn0 w w' := by
 have CA := zQ EA
 have MA := zQ GA
 clear EA GA
 have BA := zQ DA
 have LA := zQ FA
 clear DA FA
 have H := h; unfold spec_l11Less.f at H
 clear h
 by_cases c3 : (l0.length : Int) = (l1.length : Int)
 ·rw [if_pos c3] at H
  have rA : ((l0.length : Int) == (l1.length : Int)) = true := beq_iff_eq.mpr c3; have qA : ((l0.length : Int) != (l1.length : Int)) = false := bne_eq_false_iff_eq.mpr c3
  have pA : (l0.length == l1.length) = true := by first | simpa using c3 | (simp at c3 ⊢; omega)
  clear c3; have H' := zQ H; clear H
  go_enter Try.func112, Try.ntmps112
  go_wp2
  repeat (go_quiet (fail); try go_wp2)
  go_loopg [5] k (fun kq v5 w' => ∃ (aA : Int), v5 = .int .i64 aA ∧ Aside0 (spec_l11Less.l0 kq l0 l1 aA = some r) ∧ Aside0 (kq ≤ k) ∧ Drawn0 w w')
  case atStart => exact ⟨(0), (zF), H', ⟨Nat.le_refl _⟩, by repeat (first | exact Drawn0.refl _ | apply Drawn0.step)⟩
  case round =>
   clear H'; (try clear c1); (try clear p2); (try clear c3); (try clear rA); (try clear qA); (try clear pA); obtain ⟨aA, rfl, HA, IA, ⟨m1, rfl⟩⟩ := hrel
   cases gk with
   | zero => exact absurd HA.out (by simp [spec_l11Less.l0])
   | succ k1 =>
    have H := HA.out; clear HA
    simp only [spec_l11Less.l0] at H
    by_cases c4 : aA < (l0.length : Int)
    ·rw [if_pos c4] at H
     have AA := decide_eq_true c4; clear c4
     by_cases c5 : 0 ≤ aA
     ·rw [if_pos c5] at H
      have KA := decide_eq_true c5; clear c5
      by_cases c6 : aA < (l1.length : Int)
      ·rw [if_pos c6] at H
       have JA := decide_eq_true c6; clear c6
       by_cases c7 : (rd l0 aA) = (rd l1 aA)
       ·rw [if_pos c7] at H
        have zA : ((rd l0 aA) == (rd l1 aA)) = true := beq_iff_eq.mpr c7; have yA : ((rd l0 aA) != (rd l1 aA)) = false := bne_eq_false_iff_eq.mpr c7; clear c7; have H' := zQ H; clear H; have eA : 0 ≤ (aA : Int) := zD; have cA : aA < (l0.length : Int) := zD; obtain ⟨iA, oA, gA⟩ := Kd.at_int CA.out aA eA cA
        cases oA
        replace eA := eq_true eA; replace cA := eq_true cA; have dA : 0 ≤ (aA : Int) := zD; have bA : aA < (l1.length : Int) := zD; obtain ⟨hA, nA, fA⟩ := Kd.at_int BA.out aA dA bA
        cases nA
        replace dA := eq_true dA; replace bA := eq_true bA
        go_wp2
        repeat (go_quiet (fail); try go_wp2)
        go_roundg k1
        case measure => have := IA.out; omega
        case rel => exact ⟨(wrap64 (aA + 1)), (zF), H', ⟨by have := IA.out; omega⟩, by repeat (first | exact Drawn0.refl _ | apply Drawn0.step)⟩
       ·rw [if_neg c7] at H
        have zA : ((rd l0 aA) == (rd l1 aA)) = false := beq_eq_false_iff_ne.mpr c7; have yA : ((rd l0 aA) != (rd l1 aA)) = true := bne_iff_ne.mpr c7; obtain rfl := Option.some.inj H; have eA : 0 ≤ (aA : Int) := zD; have cA : aA < (l0.length : Int) := zD; obtain ⟨iA, oA, gA⟩ := Kd.at_int CA.out aA eA cA
        cases oA
        replace eA := eq_true eA; replace cA := eq_true cA; have dA : 0 ≤ (aA : Int) := zD; have bA : aA < (l1.length : Int) := zD; obtain ⟨hA, nA, fA⟩ := Kd.at_int BA.out aA dA bA
        cases nA
        replace dA := eq_true dA; replace bA := eq_true bA; have mA : 0 ≤ (aA : Int) := zD; have kA : aA < (l0.length : Int) := zD; obtain ⟨tA, xA, vA⟩ := Kd.at_int CA.out aA mA kA; obtain rfl : iA = tA := (by injection xA); replace mA := eq_true mA; replace kA := eq_true kA; have lA : 0 ≤ (aA : Int) := zD; have jA : aA < (l1.length : Int) := zD; obtain ⟨sA, wA, uA⟩ := Kd.at_int BA.out aA lA jA; obtain rfl : hA = sA := (by injection wA); replace lA := eq_true lA; replace jA := eq_true jA
        go_wp2
        repeat (go_quiet (fail); try go_wp2)
        go_ret
        exact ⟨zF, by repeat (first | exact Drawn0.refl _ | apply Drawn0.step)⟩
      ·rw [if_neg c6] at H
       exact absurd H (by simp)
     ·rw [if_neg c5] at H
      exact absurd H (by simp)
    ·rw [if_neg c4] at H
     have AA := decide_eq_false c4; clear c4; obtain rfl := Option.some.inj H
     go_wp2
     repeat (go_quiet (fail); try go_wp2)
     go_ret
     exact ⟨zF, by repeat (first | exact Drawn0.refl _ | apply Drawn0.step)⟩
 ·rw [if_neg c3] at H
  have rA : ((l0.length : Int) == (l1.length : Int)) = false := beq_eq_false_iff_ne.mpr c3; have qA : ((l0.length : Int) != (l1.length : Int)) = true := bne_iff_ne.mpr c3
  have pA : (l0.length == l1.length) = false := by first | simpa using c3 | (simp at c3 ⊢; omega)
  obtain rfl := Option.some.inj H
  go_enter Try.func112, Try.ntmps112
  go_wp2
  repeat (go_quiet (fail); try go_wp2)
  go_ret
  exact ⟨zF, by repeat (first | exact Drawn0.refl _ | apply Drawn0.step)⟩

end
end Go.Proofs.Ytimjblgepbhoaaa.PStays

