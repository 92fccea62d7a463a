import Derived.Test.YtimjblgepbhoaaaHStays0
import Derived.Test.YtimjblgepbhoaaaPlain
import Derived.Test.YtimjblgepbhoaaaHStaysn
import Derived.Test.YtimjblgepbhoaaaHStaysw
import Derived.Test.YtimjblgepbhoaaaPureStaysA
namespace Go.Proofs.Ytimjblgepbhoaaa.Pure
open Go.RowKit Go.Proofs.Ytimjblgepbhoaaa.PStays Go.Proofs.Ytimjblgepbhoaaa.Plain Go.Proofs.YtimjblgepbhoaaaW.PrintWords Go.Proofs.YtimjblgepbhoaaaW.PrintMore
set_option linter.unusedVariables false
set_option linter.unusedSimpArgs false
def allB (n : Nat) : List Int := (List.range n).map (fun i : Nat => (i : Int))
theorem allB_len (n : Nat) : (allB n).length = n := by simp [allB]
theorem allB_succ (n : Nat) : allB (n + 1) = allB n ++ [(n : Int)] := by simp [allB, List.range_succ]
theorem allB_at {n i : Nat} (h : i < n) : (allB n).getD i 0 = (i : Int) := by
 rw [List.getD_eq_getElem?_getD, List.getElem?_eq_getElem (by rw [allB_len]; exact h)]
 simp [allB]
theorem allB_ok (br : List S115) : BsOk br (allB br.length) := by
 refine ⟨fun i j hi hj e => ?_, fun q hq => ?_⟩
 ·rw [allB_len] at hi hj
  rw [allB_at hi, allB_at hj] at e
  omega
 ·rw [allB_len] at hq
  rw [allB_at hq]
  omega
theorem allI (kn : List S164) {br : List S115} (h : br.length ≤ 8) : Ev (fun k => impl_allBars.f k kn br) (allB br.length) := by
 unfold impl_allBars.f
 refine loop_up' (fun k i => impl_allBars.l0 k (allB i) (br.length : Int) (i : Int)) br.length _ (fun _ => True) (fun i hi _ => .inl ⟨trivial, fun hn => ?_⟩) (fun _ => ?_) br.length 0 (by omega) (by omega) trivial
 ·refine ev_succ ?_
  simp only [impl_allBars.l0]
  rw [allB_succ] at hn
  rw [succ_cast i (by omega)]
  exact ev_if_pos (by omega) (ev_if_pos (by rw [allB_len]; omega) hn)
 ·refine ev_succ ?_
  simp only [impl_allBars.l0]
  exact ev_if_neg (by omega) (ev_now fun _ => rfl)
theorem allS (kn : List S164) {br : List S115} (h : br.length ≤ 8) : Ev (fun k => spec_l11All.f k kn br) (allB br.length) := by
 unfold spec_l11All.f
 refine loop_up' (fun k i => spec_l11All.l0 k (allB i) (i : Int) kn br) br.length _ (fun _ => True) (fun i hi _ => .inl ⟨trivial, fun hn => ?_⟩) (fun _ => ?_) br.length 0 (by omega) (by omega) trivial
 ·refine ev_succ ?_
  simp only [spec_l11All.l0]
  rw [allB_succ] at hn
  rw [succ_cast i (by omega)]
  exact ev_if_pos (by omega) (ev_if_pos (by rw [allB_len]; omega) hn)
 ·refine ev_succ ?_
  simp only [spec_l11All.l0]
  exact ev_if_neg (by omega) (ev_now fun _ => rfl)
def lexB : List Int → List Int → Bool
 | x :: a, y :: b => if x = y then lexB a b else decide (x < y)
 | _, _ => false
def lessB (a b : List Int) : Bool := if a.length = b.length then lexB a b else decide (a.length < b.length)
theorem lexB_trans : ∀ a b c : List Int, a.length = b.length → b.length = c.length → lexB a b = true → lexB b c = true → lexB a c = true
 | [], _, _, _, _, h, _ => by simp [lexB] at h
 | x :: a, [], _, h1, _, _, _ => by simp at h1
 | x :: a, y :: b, [], _, h2, _, _ => by simp at h2
 | x :: a, y :: b, z :: c, h1, h2, h3, h4 => by
  simp only [List.length_cons, Nat.add_right_cancel_iff] at h1 h2
  simp only [lexB] at h3 h4 ⊢
  by_cases e1 : x = y
  ·rw [if_pos e1] at h3
   by_cases e2 : y = z
   ·rw [if_pos e2] at h4
    rw [if_pos (e1.trans e2)]
    exact lexB_trans a b c h1 h2 h3 h4
   ·rw [if_neg e2] at h4
    rw [if_neg (by omega), e1]; exact h4
  ·rw [if_neg e1] at h3
   have h3 := of_decide_eq_true h3
   by_cases e2 : y = z
   ·rw [if_neg (by omega)]
    exact decide_eq_true (by omega)
   ·rw [if_neg e2] at h4
    have h4 := of_decide_eq_true h4
    rw [if_neg (by omega)]
    exact decide_eq_true (by omega)
theorem lessB_trans {a b c : List Int} (h1 : lessB a b = true) (h2 : lessB b c = true) : lessB a c = true := by
 unfold lessB at h1 h2 ⊢
 by_cases e1 : a.length = b.length
 ·rw [if_pos e1] at h1
  by_cases e2 : b.length = c.length
  ·rw [if_pos e2] at h2
   rw [if_pos (e1.trans e2)]
   exact lexB_trans a b c e1 e2 h1 h2
  ·rw [if_neg e2] at h2
   rw [if_neg (by omega), e1]; exact h2
 ·rw [if_neg e1] at h1
  have h1 := of_decide_eq_true h1
  by_cases e2 : b.length = c.length
  ·rw [if_neg (by omega)]
   exact decide_eq_true (by omega)
  ·rw [if_neg e2] at h2
   have h2 := of_decide_eq_true h2
   rw [if_neg (by omega)]
   exact decide_eq_true (by omega)
theorem lessE {a b : List Int} (ha : a.length ≤ 1048576) : Ev (fun k => spec_l11Less.f k a b) (lessB a b) := by
 unfold spec_l11Less.f lessB
 by_cases e : a.length = b.length
 ·rw [if_pos e]
  refine ev_if_pos (by omega) ?_
  have key : ∀ m i : Nat, i + m = a.length → Ev (fun k => spec_l11Less.l0 k a b (i : Int)) (lexB (a.drop i) (b.drop i)) := by
   intro m
   induction m with
   | zero =>
    intro i hi
    refine ev_succ ?_
    simp only [spec_l11Less.l0]
    rw [List.drop_eq_nil_of_le (by omega)]
    exact ev_if_neg (by omega) (ev_now fun _ => rfl)
   | succ m ih =>
    intro i hi
    have hia : i < a.length := by omega
    have hib : i < b.length := by omega
    have h1 : rd a (i : Int) = a[i] := by rw [rd_nat, List.getD_eq_getElem?_getD, List.getElem?_eq_getElem hia]; rfl
    have h2 : rd b (i : Int) = b[i] := by rw [rd_nat, List.getD_eq_getElem?_getD, List.getElem?_eq_getElem hib]; rfl
    refine ev_succ ?_
    simp only [spec_l11Less.l0]
    rw [List.drop_eq_getElem_cons hia, List.drop_eq_getElem_cons hib, h1, h2, succ_cast i (by omega)]
    refine ev_if_pos (by omega) (ev_if_pos (by omega) (ev_if_pos (by omega) ?_))
    simp only [lexB]
    by_cases h : a[i] = b[i]
    ·rw [if_pos h]
     exact ev_if_pos h (ih (i + 1) (by omega))
    ·rw [if_neg h]
     exact ev_if_neg h (ev_now fun _ => rfl)
  exact key a.length 0 (by omega)
 ·rw [if_neg e]
  refine ev_if_neg (by omega) (ev_now fun _ => ?_)
  rw [show decide ((a.length : Int) < (b.length : Int)) = decide (a.length < b.length) from by simp]
theorem bars_sorted0 : ∀ n : Fin 9, List.Pairwise (fun a b => lessB a b = true) (barsOf (allB n.val)) := by decide +kernel
theorem bars_sorted {n : Nat} (h : n ≤ 8) : List.Pairwise (fun a b => lessB a b = true) (barsOf (allB n)) := bars_sorted0 ⟨n, by omega⟩
end Go.Proofs.Ytimjblgepbhoaaa.Pure

