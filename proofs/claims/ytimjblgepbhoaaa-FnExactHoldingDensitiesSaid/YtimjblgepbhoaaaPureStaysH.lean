import Derived.Test.YtimjblgepbhoaaaHStays0
import Derived.Test.YtimjblgepbhoaaaPlain
import Derived.Test.YtimjblgepbhoaaaHStaysc
import Derived.Test.YtimjblgepbhoaaaHStaysn
import Derived.Test.YtimjblgepbhoaaaHStaysq
import Derived.Test.YtimjblgepbhoaaaHStayszd
import Derived.Test.YtimjblgepbhoaaaPureStaysA
import Derived.Test.YtimjblgepbhoaaaPureStaysC
import Derived.Test.YtimjblgepbhoaaaPureStaysF
import Derived.Test.YtimjblgepbhoaaaPureStaysG
namespace Go.Proofs.Ytimjblgepbhoaaa.Pure
open Go.RowKit Go.Proofs.Ytimjblgepbhoaaa.PStays Go.Proofs.Ytimjblgepbhoaaa.Plain Go.Proofs.YtimjblgepbhoaaaW.PrintWords Go.Proofs.YtimjblgepbhoaaaW.PrintMore
set_option linter.unusedVariables false
set_option linter.unusedSimpArgs false
theorem holdSolve {kn : List S164} {br : List S115} {ld : List S113} {bs : List Int} (f : FrOk kn br) (l : LdOk kn ld) (b : BsOk br bs) (hb : bs.length ≤ 8) (h : Holds kn br ld bs) :
  ∃ r : List Int × Int × Bool, Ev (fun k => impl_solveBars.f k kn br ld bs) r ∧ Ev (fun k => spec_l11Holds.f k kn br ld bs) r ∧ r.1.length = br.length ∧ ∀ i : Nat, -9223372036854775808 ≤ r.1.getD i 0 ∧ r.1.getD i 0 ≤ 9223372036854775807 := by
 obtain ⟨q, q1, q2⟩ := h
 obtain ⟨⟨a, d, c⟩, h1, h2, h3, h4⟩ := solveE f l b hb
 have hb8 := f.b8
 have q1' := q1
 unfold spec_l11Holds.f at q1'
 cases c with
 | false =>
  have e : Ev (fun k => spec_l11Holds.f k kn br ld bs) ([], 0, false) := by
   unfold spec_l11Holds.f
   exact ev_bind h2 (ev_if_neg Bool.false_ne_true (ev_now fun _ => rfl))
  rw [ev_uniq q1 e] at q2
  exact absurd q2 (by decide)
 | true =>
  obtain ⟨hl, _, hw⟩ := h3 rfl
  have p2 := pushS kn d (br := br) (nums := a) (by omega) hl
  by_cases hp : (puU br a br.length).length = 0
  ·refine ⟨(a, d, true), h1, ?_, hl, hw⟩
   unfold spec_l11Holds.f
   exact ev_bind h2 (ev_if_pos rfl (ev_bind p2 (ev_if_neg (by omega) (ev_now fun _ => rfl))))
  ·have e : Ev (fun k => spec_l11Holds.f k kn br ld bs) ([], 0, false) := by
    unfold spec_l11Holds.f
    exact ev_bind h2 (ev_if_pos rfl (ev_bind p2 (ev_if_pos (by omega) (ev_now fun _ => rfl))))
   rw [ev_uniq q1 e] at q2
   exact absurd q2 (by decide)
theorem densV {kn : List S164} {br : List S115} {ld : List S113} (hl : ld.length ≤ 1048576) (h1 : (frB kn br && ldB kn ld) = true) :
  ((fewT kn br ld (allB br.length) (2 ^ br.length)).2 = false ∧ Ev (fun k => impl_HoldingDensities.f k kn br ld) ([], 0, 10)) ∨
  ((fewT kn br ld (allB br.length) (2 ^ br.length)).2 = true ∧ ∃ r : List Int × Int × Bool, Ev (fun k => impl_HoldingDensities.f k kn br ld) (r.1, r.2.1, 0) ∧ Ev (fun k => spec_l11Holds.f k kn br ld (fewT kn br ld (allB br.length) (2 ^ br.length)).1) r ∧ r.1.length ≤ 8 ∧ ∀ i : Nat, -9223372036854775808 ≤ r.1.getD i 0 ∧ r.1.getD i 0 ≤ 9223372036854775807) := by
 have hI := holdingI kn br ld hl
 rw [if_pos h1] at hI
 have h1' := h1
 rw [Bool.and_eq_true] at h1'
 have f := FrOk.of (frB_is h1'.1)
 have l := LdOk.of (ldB_is h1'.2)
 obtain ⟨w1, _⟩ := few_is kn (br := br) ld f.b8
 unfold impl_HoldingDensities.f
 cases hT : (fewT kn br ld (allB br.length) (2 ^ br.length)).2 with
 | false =>
  left
  rw [holdR_no (by rw [hT]; exact Bool.false_ne_true)] at hI
  exact ⟨rfl, ev_bind hI (ev_if_neg (by decide) (ev_now fun _ => rfl))⟩
 | true =>
  right
  rw [holdR_yes hT] at hI
  obtain ⟨s1, s2, _⟩ := w1 hT
  have h8 := f.b8
  have hlen := s1.length_le
  rw [allB_len] at hlen
  obtain ⟨r, r1, r2, r3, r4⟩ := holdSolve f l ((allB_ok br).sub s1) (by omega) s2
  exact ⟨rfl, r, ev_bind hI (ev_if_pos rfl (ev_bind r1 (ev_now fun _ => rfl))), r2, by omega, r4⟩
theorem densN {kn : List S164} {br : List S115} {ld : List S113} (hl : ld.length ≤ 1048576) (h1 : ¬ (frB kn br && ldB kn ld) = true) : Ev (fun k => impl_HoldingDensities.f k kn br ld) ([], 0, 1) := by
 have hI := holdingI kn br ld hl
 rw [if_neg h1] at hI
 unfold impl_HoldingDensities.f
 exact ev_bind hI (ev_if_neg (by decide) (ev_now fun _ => rfl))
end Go.Proofs.Ytimjblgepbhoaaa.Pure

