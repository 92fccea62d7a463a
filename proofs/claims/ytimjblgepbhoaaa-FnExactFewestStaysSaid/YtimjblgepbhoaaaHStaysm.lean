import Derived.Test.YtimjblgepbhoaaaHStays0
import Derived.Test.YtimjblgepbhoaaaHStaysa
namespace Go.Proofs.Ytimjblgepbhoaaa.PStays
noncomputable section
open Go.RowKit Go.Proofs.YtimjblgepbhoaaaW.PrintWords Go.Proofs.YtimjblgepbhoaaaW.PrintLast Go.Proofs.YtimjblgepbhoaaaW.PrintMore
attribute [local go_sem] max2_int min2_int max_two min_two max_three min_three max_four min_four   -- for this text's walks alone
set_option linter.unusedVariables false
set_option linter.unusedSimpArgs false
set_option maxHeartbeats 8000000
set_option maxRecDepth 100000

def impl_areBars.l0 : Nat → List Int → List Int → Int → Int → List (S164) → List (S115) → Option (Bool)
 | 0, _, _, _, _, _, _ => none
 | k + 1, x1, x7, x8, x9, oA, iA => if x9 < x8 then (if 0 ≤ x9 then (if x9 < (x7.length : Int) then ((impl_within.f (rd x7 x9) 0 (wrap64 ((iA.length : Int) - 1))).bind fun uA => (if uA = true then (if x9 > 0 then (if 0 ≤ (wrap64 (x9 - 1)) then (if (wrap64 (x9 - 1)) < (x1.length : Int) then (if (rd x7 x9) ≤ (rd x1 (wrap64 (x9 - 1))) then (some false) else (impl_areBars.l0 k x1 x7 x8 (wrap64 (x9 + 1)) oA iA)) else (none)) else (none)) else (impl_areBars.l0 k x1 x7 x8 (wrap64 (x9 + 1)) oA iA)) else (some false))) else (none)) else (none)) else (some true)
def impl_areBars.f (k : Nat) (l0_0 : List (S164)) (l0_1 : List (S115)) (l1 : List Int) : Option (Bool) := impl_areBars.l0 k l1 l1 (l1.length : Int) 0 l0_0 l0_1
theorem impl_areBars.calls (k : Nat) (A0_0 : Option Addr) (c0_0 : Nat) (l0_0 : List (S164)) (A0_1 : Option Addr) (c0_1 : Nat) (l0_1 : List (S115)) (A1 : Option Addr) (c1 : Nat) (l1 : List Int) (r : Bool) (w : World) (rA : Kd.C k164 w A0_0 l0_0.length l0_0) (tA : l0_0.length ≤ c0_0) (qA : Kd.C k115 w A0_1 l0_1.length l0_1) (sA : l0_1.length ≤ c0_1) (YA : Kd.C (Kd.int .i64) w A1 l1.length l1) (ZA : l1.length ≤ c1) (h : impl_areBars.f k l0_0 l0_1 l1 = some r) :
  Calls Try.prog 76 #[.agg #[.slice A0_0 l0_0.length c0_0, .slice A0_1 l0_1.length c0_1], .slice A1 l1.length c1] w fun e w' => e = .returned (.bool r) ∧ Below w.heap.size w w' := by
 have gB := Try.underlying27
 have dB := zQ rA
 have fB := zQ tA
 clear rA tA
 have cB := zQ qA
 have eB := zQ sA
 clear qA sA
 have xA := zQ YA
 have jB := zQ ZA
 clear YA ZA
 have HB := zQ (Below.refl w.heap.size w)
 have H := h; unfold impl_areBars.f at H
 clear h
 have H' := zQ H
 clear H
 go_enter Try.func76, Try.ntmps76
 go_wp2_with (first | ((with_reducible refine zd 2 ?_); refine zbx (N := 2) (cs := #[.slice A0_0 l0_0.length c0_0, .slice A0_1 l0_1.length c0_1]) (t := 27) ?_; intro zA hg w3 yA hb; have gA := zQ (yA); have BA := zgz hg HB.out; have hA := BA; replace HB := zbs HB.out hb; clear hb yA hg))
 go_loopg [9] k (fun kq v9 w' => ∃ (aA : Int), v9 = .int .i64 aA ∧ Aside0 (impl_areBars.l0 kq l1 l1 (l1.length : Int) aA l0_0 l0_1 = some r) ∧ Aside0 (kq ≤ k) ∧ Aside0 (w'.heap[zA]? = some (.cells #[(.slice A0_0 l0_0.length c0_0), (.slice A0_1 l0_1.length c0_1)] 27 (0, 0))) ∧ Aside0 (Below w.heap.size w w'))
 case atStart => exact ⟨(0), (zF), H', ⟨Nat.le_refl _⟩, ⟨zb gA.out⟩, ⟨zB2 HB.out hA.out⟩⟩
 case round =>
  clear H'; (try clear c1); (try clear p2); obtain ⟨aA, rfl, HA, VA, gA, HB⟩ := hrel
  cases gk with
  | zero => exact absurd HA.out (by simp [impl_areBars.l0])
  | succ k1 =>
   have H := HA.out; clear HA
   simp only [impl_areBars.l0] at H
   by_cases c4 : aA < (l1.length : Int)
   ·rw [if_pos c4] at H
    have XA := decide_eq_true c4; clear c4
    by_cases c5 : 0 ≤ aA
    ·rw [if_pos c5] at H
     have iB := decide_eq_true c5; clear c5
     by_cases c6 : aA < (l1.length : Int)
     ·rw [if_pos c6] at H
      have hB := decide_eq_true c6; clear c6; replace H := zob H; obtain ⟨uA, A7, H⟩ := H
      by_cases c8 : uA = true
      ·subst c8
       rw [if_pos rfl] at H
       by_cases c9 : aA > 0
       ·rw [if_pos c9] at H
        have WA := decide_eq_true c9; clear c9; obtain ⟨fA, jA⟩ : ∃ j_ : Int, (wrap64 (aA - 1)) = j_ := ⟨_, rfl⟩
        replace H : (if 0 ≤ (fA) then (if (fA) < (l1.length : Int) then (if (rd l1 aA) ≤ (rd l1 (fA)) then (some false) else (impl_areBars.l0 k1 l1 l1 (l1.length : Int) (wrap64 (aA + 1)) l0_0 l0_1)) else (none)) else (none)) = some r := by first | (rw [jA] at H; exact H) | (simp only [jA] at H ⊢; exact H)
        (try rw [jA] at A7)
        have hji10w : (IntKind.i64.wrap (aA - 1)) = fA := (i64_w _).trans jA
        by_cases UA : 0 ≤ (fA)
        ·rw [if_pos UA] at H
         have bB := decide_eq_true UA; clear UA
         by_cases TA : (fA) < (l1.length : Int)
         ·rw [if_pos TA] at H
          have aB := decide_eq_true TA; clear TA
          by_cases wA : (rd l1 aA) ≤ (rd l1 (fA))
          ·rw [if_pos wA] at H
           have AA := decide_eq_true wA; clear wA; obtain rfl := Option.some.inj H; have dA : 0 ≤ (aA : Int) := zD; have cA : aA < (l1.length : Int) := zD; obtain ⟨kA, nA, bA⟩ := Kd.at_int xA.out aA dA cA
           cases nA
           replace bA := zw HB.out bA; replace dA := eq_true dA; replace cA := eq_true cA; obtain ⟨SA, RA, KA, JA⟩ := zy2 gA.out
           go_wp2_with (first | ((with_reducible refine zgc 88 ?_); refine zgo (some 19) Try.func88 #[.int .i64 (rd l1 aA), .int .i64 0, .int .i64 (wrap64 ((l0_1.length : Int) - 1))] ?_; (with_reducible refine (impl_within.calls (rd l1 aA) 0 (wrap64 ((l0_1.length : Int) - 1)) true _ A7.out).mono ?_); rintro e w' ⟨rfl, ⟨nd, rfl⟩⟩; refine ⟨_, rfl, ?_⟩; have mA : 0 ≤ ((fA) : Int) := zD; have lA : (fA) < (l1.length : Int) := zD; obtain ⟨pA, vA, eA⟩ := Kd.at_int xA.out (fA) mA lA; obtain rfl : kA = pA := (by injection vA); replace eA := zw HB.out eA; replace mA := eq_true mA; replace lA := eq_true lA))
           go_ret
           exact ⟨by first | rfl | (simp [errW_none, errW_some] <;> rfl) | (simp only [← jA]; first | rfl | (simp [errW_none, errW_some] <;> rfl)) | (simp [*, errW_none, errW_some] <;> rfl), zB2 HB.out hA.out⟩
          ·rw [if_neg wA] at H
           have AA := decide_eq_false wA; clear wA; have H' := zQ H; clear H; have dA : 0 ≤ (aA : Int) := zD; have cA : aA < (l1.length : Int) := zD; obtain ⟨kA, nA, bA⟩ := Kd.at_int xA.out aA dA cA
           cases nA
           replace bA := zw HB.out bA; replace dA := eq_true dA; replace cA := eq_true cA; obtain ⟨QA, PA, IA, GA⟩ := zy2 gA.out
           go_wp2_with (first | ((with_reducible refine zgc 88 ?_); refine zgo (some 19) Try.func88 #[.int .i64 (rd l1 aA), .int .i64 0, .int .i64 (wrap64 ((l0_1.length : Int) - 1))] ?_; (with_reducible refine (impl_within.calls (rd l1 aA) 0 (wrap64 ((l0_1.length : Int) - 1)) true _ A7.out).mono ?_); rintro e w' ⟨rfl, ⟨nd, rfl⟩⟩; refine ⟨_, rfl, ?_⟩; have mA : 0 ≤ ((fA) : Int) := zD; have lA : (fA) < (l1.length : Int) := zD; obtain ⟨pA, vA, eA⟩ := Kd.at_int xA.out (fA) mA lA; obtain rfl : kA = pA := (by injection vA); replace eA := zw HB.out eA; replace mA := eq_true mA; replace lA := eq_true lA))
           go_roundg k1
           case measure => have := VA.out; omega
           case rel => exact ⟨(wrap64 (aA + 1)), (zF), H', ⟨by have := VA.out; omega⟩, ⟨zb gA.out⟩, ⟨zB2 HB.out hA.out⟩⟩
         ·rw [if_neg TA] at H
          exact absurd H (by simp)
        ·rw [if_neg UA] at H
         exact absurd H (by simp)
       ·rw [if_neg c9] at H
        have WA := decide_eq_false c9; clear c9; have H' := zQ H; clear H; have dA : 0 ≤ (aA : Int) := zD; have cA : aA < (l1.length : Int) := zD; obtain ⟨kA, nA, bA⟩ := Kd.at_int xA.out aA dA cA
        cases nA
        replace bA := zw HB.out bA; replace dA := eq_true dA; replace cA := eq_true cA; obtain ⟨OA, NA, FA, EA⟩ := zy2 gA.out
        go_wp2_with (first | ((with_reducible refine zgc 88 ?_); refine zgo (some 19) Try.func88 #[.int .i64 (rd l1 aA), .int .i64 0, .int .i64 (wrap64 ((l0_1.length : Int) - 1))] ?_; (with_reducible refine (impl_within.calls (rd l1 aA) 0 (wrap64 ((l0_1.length : Int) - 1)) true _ A7.out).mono ?_); rintro e w' ⟨rfl, ⟨nd, rfl⟩⟩; refine ⟨_, rfl, ?_⟩))
        go_roundg k1
        case measure => have := VA.out; omega
        case rel => exact ⟨(wrap64 (aA + 1)), (zF), H', ⟨by have := VA.out; omega⟩, ⟨zb gA.out⟩, ⟨zB2 HB.out hA.out⟩⟩
      ·replace c8 := Bool.eq_false_iff.mpr c8
       subst c8
       rw [if_neg Bool.false_ne_true] at H; obtain rfl := Option.some.inj H; have dA : 0 ≤ (aA : Int) := zD; have cA : aA < (l1.length : Int) := zD; obtain ⟨kA, nA, bA⟩ := Kd.at_int xA.out aA dA cA
       cases nA
       replace bA := zw HB.out bA; replace dA := eq_true dA; replace cA := eq_true cA; obtain ⟨MA, LA, DA, CA⟩ := zy2 gA.out
       go_wp2_with (first | ((with_reducible refine zgc 88 ?_); refine zgo (some 19) Try.func88 #[.int .i64 (rd l1 aA), .int .i64 0, .int .i64 (wrap64 ((l0_1.length : Int) - 1))] ?_; (with_reducible refine (impl_within.calls (rd l1 aA) 0 (wrap64 ((l0_1.length : Int) - 1)) false _ A7.out).mono ?_); rintro e w' ⟨rfl, ⟨nd, rfl⟩⟩; refine ⟨_, rfl, ?_⟩))
       go_ret
       exact ⟨zE, zB2 HB.out hA.out⟩
     ·rw [if_neg c6] at H
      exact absurd H (by simp)
    ·rw [if_neg c5] at H
     exact absurd H (by simp)
   ·rw [if_neg c4] at H
    have XA := decide_eq_false c4; clear c4; obtain rfl := Option.some.inj H
    go_wp2
    go_ret
    exact ⟨zE, zB2 HB.out hA.out⟩

end
end Go.Proofs.Ytimjblgepbhoaaa.PStays

