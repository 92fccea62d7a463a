import Derived.Test.YtimjblgepbhoaaaHStays0
import Derived.Test.YtimjblgepbhoaaaPlain
import Derived.Test.YtimjblgepbhoaaaHStaysn
import Derived.Test.YtimjblgepbhoaaaHStayswl
import Derived.Test.YtimjblgepbhoaaaPureStaysA
import Derived.Test.YtimjblgepbhoaaaPureStaysC
import Derived.Test.YtimjblgepbhoaaaPureStaysF
namespace Go.Proofs.Ytimjblgepbhoaaa.Pure
open Go.RowKit Go.Proofs.Ytimjblgepbhoaaa.PStays Go.Proofs.Ytimjblgepbhoaaa.Plain Go.Proofs.YtimjblgepbhoaaaW.PrintWords Go.Proofs.YtimjblgepbhoaaaW.PrintMore
set_option linter.unusedVariables false
set_option linter.unusedSimpArgs false
def lexB : List Int → List Int → Bool
 | x :: a, y :: b => if x = y then lexB a b else decide (x < y)
 | _, _ => false
def lessB (a b : List Int) : Bool := if a.length = b.length then lexB a b else decide (a.length < b.length)
theorem lexB_trans : ∀ a b c : List Int, a.length = b.length → b.length = c.length → lexB a b = true → lexB b c = true → lexB a c = true
 | [], _, _, _, _, h, _ => by simp [lexB] at h
 | x :: a, [], _, h1, _, _, _ => by simp at h1
 | x :: a, y :: b, [], _, h2, _, _ => by simp at h2
 | x :: a, y :: b, z :: c, h1, h2, h3, h4 => by
  simp only [List.length_cons, Nat.add_right_cancel_iff] at h1 h2
  simp only [lexB] at h3 h4 ⊢
  by_cases e1 : x = y
  ·rw [if_pos e1] at h3
   by_cases e2 : y = z
   ·rw [if_pos e2] at h4
    rw [if_pos (e1.trans e2)]
    exact lexB_trans a b c h1 h2 h3 h4
   ·rw [if_neg e2] at h4
    rw [if_neg (by omega), e1]; exact h4
  ·rw [if_neg e1] at h3
   have h3 := of_decide_eq_true h3
   by_cases e2 : y = z
   ·rw [if_neg (by omega)]
    exact decide_eq_true (by omega)
   ·rw [if_neg e2] at h4
    have h4 := of_decide_eq_true h4
    rw [if_neg (by omega)]
    exact decide_eq_true (by omega)
theorem lessB_trans {a b c : List Int} (h1 : lessB a b = true) (h2 : lessB b c = true) : lessB a c = true := by
 unfold lessB at h1 h2 ⊢
 by_cases e1 : a.length = b.length
 ·rw [if_pos e1] at h1
  by_cases e2 : b.length = c.length
  ·rw [if_pos e2] at h2
   rw [if_pos (e1.trans e2)]
   exact lexB_trans a b c e1 e2 h1 h2
  ·rw [if_neg e2] at h2
   rw [if_neg (by omega), e1]; exact h2
 ·rw [if_neg e1] at h1
  have h1 := of_decide_eq_true h1
  by_cases e2 : b.length = c.length
  ·rw [if_neg (by omega)]
   exact decide_eq_true (by omega)
  ·rw [if_neg e2] at h2
   have h2 := of_decide_eq_true h2
   rw [if_neg (by omega)]
   exact decide_eq_true (by omega)
theorem lessE {a b : List Int} (ha : a.length ≤ 1048576) : Ev (fun k => spec_l11Less.f k a b) (lessB a b) := by
 unfold spec_l11Less.f lessB
 by_cases e : a.length = b.length
 ·rw [if_pos e]
  refine ev_if_pos (by omega) ?_
  have key : ∀ m i : Nat, i + m = a.length → Ev (fun k => spec_l11Less.l0 k a b (i : Int)) (lexB (a.drop i) (b.drop i)) := by
   intro m
   induction m with
   | zero =>
    intro i hi
    refine ev_succ ?_
    simp only [spec_l11Less.l0]
    rw [List.drop_eq_nil_of_le (by omega)]
    exact ev_if_neg (by omega) (ev_now fun _ => rfl)
   | succ m ih =>
    intro i hi
    have hia : i < a.length := by omega
    have hib : i < b.length := by omega
    have h1 : rd a (i : Int) = a[i] := by rw [rd_nat, List.getD_eq_getElem?_getD, List.getElem?_eq_getElem hia]; rfl
    have h2 : rd b (i : Int) = b[i] := by rw [rd_nat, List.getD_eq_getElem?_getD, List.getElem?_eq_getElem hib]; rfl
    refine ev_succ ?_
    simp only [spec_l11Less.l0]
    rw [List.drop_eq_getElem_cons hia, List.drop_eq_getElem_cons hib, h1, h2, succ_cast i (by omega)]
    refine ev_if_pos (by omega) (ev_if_pos (by omega) (ev_if_pos (by omega) ?_))
    simp only [lexB]
    by_cases h : a[i] = b[i]
    ·rw [if_pos h]
     exact ev_if_pos h (ih (i + 1) (by omega))
    ·rw [if_neg h]
     exact ev_if_neg h (ev_now fun _ => rfl)
  exact key a.length 0 (by omega)
 ·rw [if_neg e]
  refine ev_if_neg (by omega) (ev_now fun _ => ?_)
  rw [show decide ((a.length : Int) < (b.length : Int)) = decide (a.length < b.length) from by simp]
theorem bars_sorted0 : ∀ n : Fin 9, List.Pairwise (fun a b => lessB a b = true) (barsOf (allB n.val)) := by decide +kernel
theorem bars_sorted {n : Nat} (h : n ≤ 8) : List.Pairwise (fun a b => lessB a b = true) (barsOf (allB n)) := bars_sorted0 ⟨n, by omega⟩
open Classical in
noncomputable def fewT (P : List Int → Prop) (al : List Int) : Nat → List Int × Bool
 | 0 => ([], false)
 | t + 1 => if (fewT P al t).2 = true ∧ lessB (sel al t) (fewT P al t).1 = false then fewT P al t else if P (sel al t) then (sel al t, true) else fewT P al t
open Classical in
theorem few_succ (P : List Int → Prop) (al : List Int) (t : Nat) : fewT P al (t + 1) = if (fewT P al t).2 = true ∧ lessB (sel al t) (fewT P al t).1 = false then fewT P al t else if P (sel al t) then (sel al t, true) else fewT P al t := rfl
theorem few_inv (P : List Int → Prop) (al : List Int) : ∀ t,
  ((fewT P al t).2 = false → ∀ u, u < t → ¬ P (sel al u)) ∧
  ((fewT P al t).2 = true → (∃ u, u < t ∧ (fewT P al t).1 = sel al u) ∧ P (fewT P al t).1 ∧ ∀ u, u < t → P (sel al u) → lessB (sel al u) (fewT P al t).1 = false)
 | 0 => ⟨fun _ u hu => by omega, fun h => by simp [fewT] at h⟩
 | t + 1 => by
  obtain ⟨i1, i2⟩ := few_inv P al t
  rw [few_succ]
  by_cases c1 : (fewT P al t).2 = true ∧ lessB (sel al t) (fewT P al t).1 = false
  ·rw [if_pos c1]
   refine ⟨fun h => by rw [c1.1] at h; exact absurd h (by decide), fun h => ?_⟩
   obtain ⟨⟨u, hu, e⟩, j2, j3⟩ := i2 h
   refine ⟨⟨u, by omega, e⟩, j2, fun v hv hh => ?_⟩
   rcases Nat.lt_or_ge v t with h1 | h1
   ·exact j3 v h1 hh
   ·obtain rfl : v = t := by omega
    exact c1.2
  ·rw [if_neg c1]
   by_cases c2 : P (sel al t)
   ·rw [if_pos c2]
    refine ⟨fun h => (Bool.false_ne_true h.symm).elim, fun _ => ⟨⟨t, by omega, rfl⟩, c2, fun v hv hh => ?_⟩⟩
    rcases Bool.eq_false_or_eq_true (lessB (sel al v) (sel al t)) with h5 | h5
    ·exfalso
     rcases Nat.lt_or_ge v t with h1 | h1
     ·rcases Bool.eq_false_or_eq_true (fewT P al t).2 with h6 | h6
      ·obtain ⟨_, _, j3⟩ := i2 h6
       have h7 : lessB (sel al t) (fewT P al t).1 = true := by
        rcases Bool.eq_false_or_eq_true (lessB (sel al t) (fewT P al t).1) with h8 | h8
        ·exact h8
        ·exact absurd ⟨h6, h8⟩ c1
       have h9 := j3 v h1 hh
       rw [lessB_trans h5 h7] at h9
       exact absurd h9 (by decide)
      ·exact i1 h6 v h1 hh
     ·obtain rfl : v = t := by omega
      have key : ∀ a : List Int, lexB a a = false := by
       intro a
       induction a with
       | nil => rfl
       | cons x a ih => simp only [lexB, if_pos]; exact ih
      have h6 : lessB (sel al v) (sel al v) = false := by unfold lessB; rw [if_pos rfl]; exact key _
      rw [h6] at h5
      exact absurd h5 (by decide)
    ·exact h5
   ·rw [if_neg c2]
    refine ⟨fun h v hv => ?_, fun h => ?_⟩
    ·rcases Nat.lt_or_ge v t with h1 | h1
     ·exact i1 h v h1
     ·obtain rfl : v = t := by omega
      exact c2
    ·obtain ⟨⟨u, hu, e⟩, j2, j3⟩ := i2 h
     refine ⟨⟨u, by omega, e⟩, j2, fun v hv hh => ?_⟩
     rcases Nat.lt_or_ge v t with h1 | h1
     ·exact j3 v h1 hh
     ·obtain rfl : v = t := by omega
      exact absurd hh c2
theorem few_is (P : List Int → Prop) (n : Nat) :
  ((fewT P (allB n) (2 ^ n)).2 = true → (fewT P (allB n) (2 ^ n)).1.Sublist (allB n) ∧ P (fewT P (allB n) (2 ^ n)).1 ∧ ∀ s, s.Sublist (allB n) → P s → lessB s (fewT P (allB n) (2 ^ n)).1 = false) ∧
  ((fewT P (allB n) (2 ^ n)).2 = false → ∀ s, s.Sublist (allB n) → ¬ P s) := by
 obtain ⟨i1, i2⟩ := few_inv P (allB n) (2 ^ n)
 have hsel : ∀ s : List Int, s.Sublist (allB n) → ∃ t : Nat, t < 2 ^ n ∧ sel (allB n) t = s := fun s hs => by
  have := sub_sel hs
  rwa [allB_len] at this
 refine ⟨fun h => ?_, fun h s hs hh => ?_⟩
 ·obtain ⟨⟨u, _, e⟩, j2, j3⟩ := i2 h
  refine ⟨by rw [e]; exact sel_sub _ _, j2, fun s hs hh => ?_⟩
  obtain ⟨t, ht, rfl⟩ := hsel s hs
  exact j3 t ht hh
 ·obtain ⟨t, ht, rfl⟩ := hsel s hs
  exact i1 h t ht hh
theorem few_first {P : List Int → Prop} {n p : Nat} (h8 : n ≤ 8) (hp : p < (barsOf (allB n)).length) (hI : ∀ u (hu : u < (barsOf (allB n)).length), u < p → ¬ P (barsOf (allB n))[u]) (hh : P (barsOf (allB n))[p]) :
  (fewT P (allB n) (2 ^ n)).2 = true ∧ (fewT P (allB n) (2 ^ n)).1 = (barsOf (allB n))[p] := by
 obtain ⟨w1, w2⟩ := few_is P n
 have hs := bars_sub.1 (List.getElem_mem hp)
 rcases Bool.eq_false_or_eq_true (fewT P (allB n) (2 ^ n)).2 with ht | ht
 ·refine ⟨ht, ?_⟩
  obtain ⟨q1, q2, q3⟩ := w1 ht
  obtain ⟨q, hq, eq⟩ := List.getElem_of_mem (bars_sub.2 q1)
  rcases Nat.lt_trichotomy q p with h | h | h
  ·exact absurd (by rw [eq]; exact q2) (hI q hq h)
  ·subst h; exact eq.symm
  ·have := List.pairwise_iff_getElem.1 (bars_sorted h8) p q hp hq h
   rw [eq, q3 _ hs hh] at this
   exact absurd this (by decide)
 ·exact absurd hh (w2 ht _ hs)
theorem few_none {P : List Int → Prop} {n : Nat} (hI : ∀ u (hu : u < (barsOf (allB n)).length), ¬ P (barsOf (allB n))[u]) : (fewT P (allB n) (2 ^ n)).2 = false := by
 obtain ⟨w1, _⟩ := few_is P n
 rcases Bool.eq_false_or_eq_true (fewT P (allB n) (2 ^ n)).2 with ht | ht
 ·obtain ⟨q1, q2, _⟩ := w1 ht
  obtain ⟨q, hq, eq⟩ := List.getElem_of_mem (bars_sub.2 q1)
  exact absurd (by rw [eq]; exact q2) (hI q hq)
 ·exact ht
end Go.Proofs.Ytimjblgepbhoaaa.Pure

