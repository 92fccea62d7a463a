import Derived.Test.YtimjblgepbhoaaaHStays0
namespace Go.Proofs.Ytimjblgepbhoaaa.PStays
noncomputable section
open Go.RowKit Go.Proofs.YtimjblgepbhoaaaW.PrintWords Go.Proofs.YtimjblgepbhoaaaW.PrintLast Go.Proofs.YtimjblgepbhoaaaW.PrintMore
attribute [local go_sem] max2_int min2_int max_two min_two max_three min_three max_four min_four   -- for this text's walks alone
set_option linter.unusedVariables false
set_option linter.unusedSimpArgs false
set_option maxHeartbeats 8000000
set_option maxRecDepth 100000

def impl_withoutBar.l0 : Nat → Int → List Int → List Int → Int → Int → Option (List Int)
 | 0, _, _, _, _, _ => none
 | k + 1, x1, x5, x9, x10, x11 => if x11 < x10 then (if 0 ≤ x11 then (if x11 < (x9.length : Int) then (if (rd x9 x11) = x1 then (impl_withoutBar.l0 k x1 x5 x9 x10 (wrap64 (x11 + 1))) else (if x5.length < 17592186044416 then (impl_withoutBar.l0 k x1 (x5 ++ [rd x9 x11]) x9 x10 (wrap64 (x11 + 1))) else (none))) else (none)) else (none)) else (some x5)
def impl_withoutBar.f (k : Nat) (l0 : List Int) (a1 : Int) : Option (List Int) := impl_withoutBar.l0 k a1 (([] : List Int)) l0 (l0.length : Int) 0
theorem impl_withoutBar.calls (k : Nat) (A0 : Option Addr) (c0 : Nat) (l0 : List Int) (a1 : Int) (r : List Int) (w : World) (sA : Kd.C (Kd.int .i64) w A0 l0.length l0) (tA : l0.length ≤ c0) (h : impl_withoutBar.f k l0 a1 = some r) :
  Calls Try.prog 78 #[.slice A0 l0.length c0, .int .i64 a1] w fun e w' => ∃ v0_ : Value, e = .returned (v0_) ∧ Kd.R (Kd.int .i64) 2 w' w.heap.size (fun _ => True) v0_ r ∧ Below w.heap.size w w' := by
 have AA := zQ sA
 have QA := zQ tA
 clear sA tA
 have HB := zQ (Below.refl w.heap.size w)
 have H := h; unfold impl_withoutBar.f at H
 clear h
 obtain ⟨rA, lA⟩ : ∃ y_ : List Int, y_ = (([] : List Int)) := ⟨_, rfl⟩
 replace H : (impl_withoutBar.l0 k a1 rA l0 (l0.length : Int) 0) = some r := zh H
 have nA := zQ lA
 clear lA
 have H' := zQ H
 clear H
 go_enter Try.func78, Try.ntmps78
 go_wp2_with (first | ((with_reducible refine zd 8 ?_); refine Kd.R_lit (Kd.int .i64) _ 2 ?hg (N := 8) ?hd (xs := ([] : List Int)) (inner := []) (ok := fun _ => True) (okp := fun _ => True) ?hr ?hp (fun _ hk => hk) trivial (Below.refl _ _) (Nat.le_refl _) (by simp) ?_; (case hd => rfl); (case hg => rfl); (case hr => first | (go_simp; done) | (go_simp; rfl)); (case hp => exact (Reps.none _ _)); intro MA w3 gA hb hg_ hnew_; clear hg_ hnew_; (first | rw [← nA.out] at gA | (simp only [Int.reduceToNat] at gA; rw [← nA.out] at gA)); have zA := zQ (Kd.R_lower gA (below_size (zB HB.out))); replace HB := zbs HB.out hb; clear hb gA))
 go_loopg [5, 11] k (fun kq v5 NA w' => ∃ (dA : List Int) (aA : Int), NA = .int .i64 aA ∧ Aside0 (impl_withoutBar.l0 kq a1 dA l0 (l0.length : Int) aA = some r) ∧ Aside0 (kq ≤ k) ∧ Aside0 (Kd.R (Kd.int .i64) 2 w' w.heap.size (fun _ => True) v5 dA) ∧ Aside0 (Below w.heap.size w w'))
 case atStart => exact ⟨(rA), (0), (zF), H', ⟨Nat.le_refl _⟩, ⟨zR zA.out⟩, ⟨zB HB.out⟩⟩
 case round =>
  clear H'; (try clear p2); obtain ⟨dA, aA, rfl, HA, BA, hA, HB⟩ := hrel
  cases gk with
  | zero => exact absurd HA.out (by simp [impl_withoutBar.l0])
  | succ k1 =>
   have H := HA.out; clear HA
   simp only [impl_withoutBar.l0] at H
   by_cases c5 : aA < (l0.length : Int)
   ·rw [if_pos c5] at H
    have GA := decide_eq_true c5; clear c5
    by_cases c6 : 0 ≤ aA
    ·rw [if_pos c6] at H
     have PA := decide_eq_true c6; clear c6
     by_cases c7 : aA < (l0.length : Int)
     ·rw [if_pos c7] at H
      have OA := decide_eq_true c7; clear c7
      by_cases c8 : (rd l0 aA) = a1
      ·rw [if_pos c8] at H
       have FA : ((rd l0 aA) == a1) = true := beq_iff_eq.mpr c8; have EA : ((rd l0 aA) != a1) = false := bne_eq_false_iff_eq.mpr c8; clear c8; have H' := zQ H; clear H; have fA : 0 ≤ (aA : Int) := zD; have eA : aA < (l0.length : Int) := zD; obtain ⟨uA, pA, bA⟩ := Kd.at_int AA.out aA fA eA
       cases pA
       replace bA := zw HB.out bA; replace fA := eq_true fA; replace eA := eq_true eA
       go_wp2
       go_roundg k1
       case measure => have := BA.out; omega
       case rel => exact ⟨(dA), (wrap64 (aA + 1)), (zF), H', ⟨by have := BA.out; omega⟩, ⟨zR hA.out⟩, ⟨zB HB.out⟩⟩
      ·rw [if_neg c8] at H
       have FA : ((rd l0 aA) == a1) = false := beq_eq_false_iff_ne.mpr c8; have EA : ((rd l0 aA) != a1) = true := bne_iff_ne.mpr c8
       by_cases c9 : dA.length < 17592186044416
       ·rw [if_pos c9] at H
        have IA := zQ c9; clear c9; obtain ⟨qA, kA⟩ : ∃ y_ : List Int, y_ = (dA ++ [rd l0 aA]) := ⟨_, rfl⟩; replace H : (impl_withoutBar.l0 k1 a1 qA l0 (l0.length : Int) (wrap64 (aA + 1))) = some r := zh H; have wA := zQ kA; clear kA; have H' := zQ H; clear H; have fA : 0 ≤ (aA : Int) := zD; have eA : aA < (l0.length : Int) := zD; obtain ⟨uA, pA, bA⟩ := Kd.at_int AA.out aA fA eA
        cases pA
        replace bA := zw HB.out bA; replace fA := eq_true fA; replace eA := eq_true eA
        go_wp2_with (first | ((with_reducible refine gate_builtin (b := .append) (xs := #[.tmp 18, .tmp 20]) rfl ?_); at_builtin; refine Kd.R_append (Kd.int .i64) (w0 := w) w.heap.size rfl (.tmp 18) (.tmp 20) 31 2 (.int .i64 0) 8 rfl Try.underlying31 info2 rfl (by decide) (by omega) u5 dA (rd l0 aA) [.int .i64 (rd l0 aA)] (fun _ => True) (fun _ => False) rfl rfl ?aP (fun _ hk => hk.elim) ?aF ?aO ?aB ?aS ?aL ?_; (case aP => exact rfl); (case aB => exact (zB HB.out)); (case aF => exact (fun _ _ => trivial)); (case aO => exact (zR hA.out)); (case aS => exact (below_size (zB HB.out))); (case aL => have := IA.out; omega); intro LA RA ho hb hg hat; rw [← wA.out] at ho; have yA := zQ (ho); replace HB := zQ (hb); clear hA ho hb hg hat))
        go_roundg k1
        case measure => have := BA.out; omega
        case rel => exact ⟨(qA), (wrap64 (aA + 1)), (zF), H', ⟨by have := BA.out; omega⟩, ⟨zR yA.out⟩, ⟨zB HB.out⟩⟩
       ·rw [if_neg c9] at H
        exact absurd H (by simp)
     ·rw [if_neg c7] at H
      exact absurd H (by simp)
    ·rw [if_neg c6] at H
     exact absurd H (by simp)
   ·rw [if_neg c5] at H
    have GA := decide_eq_false c5; clear c5; obtain rfl := Option.some.inj H
    go_wp2
    go_ret
    exact ⟨_, zE, zR hA.out, zB HB.out⟩

def spec_l00Own.f (l0 : List Int) : Option (List Int) := (some (([] : List Int) : List Int)).bind fun cA => (if cA.length + l0.length < 17592186044416 then (some (cA ++ l0)) else (none))
theorem spec_l00Own.calls (A0 : Option Addr) (c0 : Nat) (l0 : List Int) (r : List Int) (w : World) (sA : Kd.C (Kd.int .i64) w A0 l0.length l0) (tA : l0.length ≤ c0) (h : spec_l00Own.f l0 = some r) :
  Calls Try.prog 79 #[.slice A0 l0.length c0] w fun e w' => ∃ v0_ : Value, e = .returned (v0_) ∧ Kd.R (Kd.int .i64) 2 w' w.heap.size (fun _ => True) v0_ r ∧ Below w.heap.size w w' := by
 have AA := zQ sA
 have QA := zQ tA
 clear sA tA
 have HB := zQ (Below.refl w.heap.size w)
 have H := h; unfold spec_l00Own.f at H
 clear h
 obtain ⟨cA, jA⟩ : ∃ y_ : List Int, y_ = (([] : List Int)) := ⟨_, rfl⟩
 replace H : (if cA.length + l0.length < 17592186044416 then (some (cA ++ l0)) else (none)) = some r := zh H
 have mA := zQ jA
 clear jA
 by_cases c2 : cA.length + l0.length < 17592186044416
 ·rw [if_pos c2] at H
  have JA := zQ c2; clear c2; obtain ⟨CA, iA⟩ : ∃ y_ : List Int, y_ = (cA ++ l0) := ⟨_, rfl⟩; replace H : (some CA) = some r := zh H; have vA := zQ iA; clear iA; obtain rfl := Option.some.inj H
  go_enter Try.func79, Try.ntmps79
  go_wp2_with (first | ((with_reducible refine zd 3 ?_); refine Kd.R_lit (Kd.int .i64) _ 2 ?hg (N := 3) ?hd (xs := ([] : List Int)) (inner := []) (ok := fun _ => True) (okp := fun _ => True) ?hr ?hp (fun _ hk => hk) trivial (Below.refl _ _) (Nat.le_refl _) (by simp) ?_; (case hd => rfl); (case hg => rfl); (case hr => first | (go_simp; done) | (go_simp; rfl)); (case hp => exact (Reps.none _ _)); intro DA w3 gA hb hg_ hnew_; clear hg_ hnew_; (first | rw [← mA.out] at gA | (simp only [Int.reduceToNat] at gA; rw [← mA.out] at gA)); have oA := zQ (Kd.R_lower gA (below_size (zB HB.out))); replace HB := zbs HB.out hb; clear hb gA) | ((with_reducible refine gate_builtin (b := .append) (xs := #[.tmp 3, .tmp 4]) rfl ?_); at_builtin; refine Kd.R_append_rows (Kd.int .i64) (w0 := w) w.heap.size rfl (.tmp 3) (.tmp 4) 31 2 (.int .i64 0) 8 rfl Try.underlying31 info2 rfl (by decide) (by omega) DA cA l0 _ _ _ (fun _ => True) (fun _ => False) rfl rfl ?aO ?aR (fun _ _ h => h) (fun _ h => h.elim) ?aF ?aB ?aS ?aL ?_; (case aR => exact zC AA.out HB.out); (case aB => exact (zB HB.out)); (case aF => exact (fun _ _ => trivial)); (case aO => exact (zR oA.out)); (case aS => exact (below_size (zB HB.out))); (case aL => have := JA.out; omega); intro KA w5 ho hb hg hat; rw [← vA.out] at ho; have xA := zQ (ho); replace HB := zQ (hb); clear oA ho hb hg hat))
  go_ret
  exact ⟨_, zE, zR xA.out, zB HB.out⟩
 ·rw [if_neg c2] at H
  exact absurd H (by simp)

end
end Go.Proofs.Ytimjblgepbhoaaa.PStays

