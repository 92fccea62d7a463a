import Derived.Test.YtcomncokgkeniaaSayFnExactWidthAt
import Derived.Test.YtcomncokgkeniaaPlain
import Derived.Test.YtcomncokgkeniaaPureSailwA
import Derived.Test.YtcomncokgkeniaaPureSailwB
import Derived.Test.YtcomncokgkeniaaPureSailwC
import Derived.Test.YtcomncokgkeniaaPureSailwD
import Derived.Test.YtcomncokgkeniaaPureSailwE
namespace Go.Proofs.Ytcomncokgkeniaa.Pure
open Go.RowKit Go.Proofs.Ytcomncokgkeniaa.PSailw Go.Proofs.Ytcomncokgkeniaa.Plain Go.Proofs.YtcomncokgkeniaaW.PrintWords Go.Proofs.YtcomncokgkeniaaW.PrintMore
set_option linter.unusedVariables false
set_option linter.unusedSimpArgs false
theorem tail (l : List S51) (h : l.length ≤ 1048576) : Ev (fun k => laws_FnExactWidthAt.j0 k l (l.map cv) false) true := by
 refine ev_step (f := fun k => (laws_toSpotS.f k l).bind fun t => ((laws_eqSpotS.f k (l.map cv) t).bind fun t' => (if t' = true then (some true) else (some false)))) (fun k => by simp only [laws_FnExactWidthAt.j0, Bool.false_eq_true, if_false]) ?_
 exact ev_bind (toSpots l h) (ev_bind (eqSpots _ (by simpa using h)) (ev_now fun _ => rfl))
theorem widthE (l : List S49) (y : Int) (hn : l.length < 9223372036854775000) : ∃ R : Int × Int × Int, Ev (fun k => spec_WidthAt.f k l y) R ∧ Ev (fun k => impl_WidthAt.f k l y) R := by
 have sV := specV l hn
 have iV := implV l hn
 unfold spec_WidthAt.f impl_WidthAt.f
 cases hV : Vb l with
 | false =>
  rw [hV] at sV iV
  exact ⟨(0, 0, 1), ev_bind sV (ev_if_neg Bool.false_ne_true (ev_now fun _ => rfl)), ev_bind iV (ev_if_neg Bool.false_ne_true (ev_now fun _ => rfl))⟩
 | true =>
  rw [hV] at sV iV
  have V1 := V_of hV
  have h3 := V1.1
  have hb := V1.2.1
  have sL := specLimits l (by omega) hn
  have iL := implLimits l (by omega) hn
  have sB := specBulged l (by omega) hn hb
  have iB := implBulged l (by omega) hn hb
  by_cases hr : lo l l.length ≤ y ∧ y ≤ hi l l.length
  ·have sI : spec_l00In.f y (lo l l.length) (hi l l.length) = some true := by rw [specIn, decide_eq_true hr]
   have iI : impl_within.f y (lo l l.length) (hi l l.length) = some true := by rw [implIn, decide_eq_true hr]
   cases hB : Bb l with
   | false =>
    rw [hB] at sB iB
    exact ⟨(0, 0, 6), ev_bind sV (ev_if_pos rfl (ev_bind sL (ev_bind (ev_const sI) (ev_if_pos rfl (ev_bind sB (ev_if_neg Bool.false_ne_true (ev_now fun _ => rfl))))))), ev_bind iV (ev_if_pos rfl (ev_bind iL (ev_bind (ev_const iI) (ev_if_pos rfl (ev_bind iB (ev_if_neg Bool.false_ne_true (ev_now fun _ => rfl)))))))⟩
   | true =>
    rw [hB] at sB iB
    obtain ⟨j, j1, j2⟩ := lo_mem l l.length
    obtain ⟨m, m1, m2⟩ := hi_mem l l.length
    have hj := (hb j (by omega)).2
    have hm := (hb m (by omega)).2
    have hy : inb y := by unfold inb at hj hm ⊢; omega
    have hne := pl_ne (l := l) (y := y) (by omega) hr.1 hr.2
    obtain ⟨w1, w2⟩ := width_same (y := y) hb hne
    have sW := specWidth hb hy (by omega) h3.2
    have iW := implWidth0 hb hy (by omega) h3.2 hne
    rw [← w1, ← w2] at iW
    exact ⟨((frq (hiA l y l.length + -loA l y l.length)).1, (frq (hiA l y l.length + -loA l y l.length)).2, 0), ev_bind sV (ev_if_pos rfl (ev_bind sL (ev_bind (ev_const sI) (ev_if_pos rfl (ev_bind sB (ev_if_pos rfl (ev_bind sW (ev_now fun _ => rfl)))))))), ev_bind iV (ev_if_pos rfl (ev_bind iL (ev_bind (ev_const iI) (ev_if_pos rfl (ev_bind iB (ev_if_pos rfl (ev_bind iW (ev_now fun _ => rfl))))))))⟩
  ·have sI : spec_l00In.f y (lo l l.length) (hi l l.length) = some false := by rw [specIn, decide_eq_false hr]
   have iI : impl_within.f y (lo l l.length) (hi l l.length) = some false := by rw [implIn, decide_eq_false hr]
   exact ⟨(0, 0, 2), ev_bind sV (ev_if_pos rfl (ev_bind sL (ev_bind (ev_const sI) (ev_if_neg Bool.false_ne_true (ev_now fun _ => rfl))))), ev_bind iV (ev_if_pos rfl (ev_bind iL (ev_bind (ev_const iI) (ev_if_neg Bool.false_ne_true (ev_now fun _ => rfl)))))⟩
theorem FnExactWidthAt : Say.FnExactWidthAt := by
 intro l y hl _
 have hl := hl.1
 apply Ev.rounds
 unfold laws_FnExactWidthAt.f
 rw [szSpots l 1048576 (by omega) (by omega) (by unfold maxLen at hl; omega)]
 by_cases h : l.length ≤ 1048576
 ·rw [if_pos (by omega)]
  refine ev_some (ev_if_neg (by omega) (ev_bind (toSpots l h) ?_))
  have hn : (l.map cv).length < 9223372036854775000 := by simp; omega
  obtain ⟨R, cS, cI⟩ := widthE (l.map cv) y hn
  have eR : laws_eqFraction.f R.1 R.2.1 R.1 R.2.1 = some true := by unfold laws_eqFraction.f; rw [if_pos rfl, if_pos rfl]
  refine ev_bind cS (ev_bind (toSpots l h) (ev_bind cI (ev_bind (ev_const eR) (ev_if_pos rfl ?_))))
  rw [bne_self_eq_false]
  exact tail l h
 ·rw [if_neg (by omega)]
  exact ev_some (ev_if_pos (by omega) (ev_now fun _ => rfl))
end Go.Proofs.Ytcomncokgkeniaa.Pure

