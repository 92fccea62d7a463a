import Derived.Test.YtimjblgepbhoaaaSayFnExactHoldingDensities
import Derived.Test.YtimjblgepbhoaaaPlain
import Derived.Test.YtimjblgepbhoaaaPureStaysA
import Derived.Test.YtimjblgepbhoaaaPureStaysG
import Derived.Test.YtimjblgepbhoaaaPureStaysH
import Derived.Test.YtimjblgepbhoaaaPureStaysL
import Derived.Test.YtimjblgepbhoaaaPureStaysM
namespace Go.Proofs.Ytimjblgepbhoaaa.Pure
open Go.RowKit Go.Proofs.Ytimjblgepbhoaaa.PStays Go.Proofs.Ytimjblgepbhoaaa.Plain Go.Proofs.YtimjblgepbhoaaaW.PrintWords Go.Proofs.YtimjblgepbhoaaaW.PrintMore
set_option linter.unusedVariables false
set_option linter.unusedSimpArgs false
theorem densE (kn : List S164) (br : List S115) (ld : List S113) (hl : ld.length ≤ 1048576) : ∃ R : List Int × Int × Int, Ev (fun k => spec_HoldingDensities.f k kn br ld) R ∧ Ev (fun k => impl_HoldingDensities.f k kn br ld) R ∧ R.1.length ≤ 1048576 := by
 have cS := code0 kn br ld hl
 unfold spec_HoldingDensities.f
 by_cases h1 : (frB kn br && ldB kn ld) = true
 ·rw [if_pos h1] at cS
  have h1' := h1
  rw [Bool.and_eq_true] at h1'
  have fS := fewS (FrOk.of (frB_is h1'.1)) (LdOk.of (ldB_is h1'.2))
  rcases densV hl h1 with ⟨hT, hI⟩ | ⟨hT, r, hI, hS, h8, _⟩
  ·exact ⟨_, ev_bind cS (ev_if_pos rfl (ev_bind fS (ev_if_neg (by rw [hT]; exact Bool.false_ne_true) (ev_now fun _ => rfl)))), hI, by simp⟩
  ·exact ⟨_, ev_bind cS (ev_if_pos rfl (ev_bind fS (ev_if_pos hT (ev_bind hS (ev_now fun _ => rfl))))), hI, by show r.1.length ≤ _; omega⟩
 ·rw [if_neg h1] at cS
  exact ⟨_, ev_bind cS (ev_if_neg (by decide) (ev_now fun _ => rfl)), densN hl h1, by simp⟩
theorem FnExactHoldingDensities : Say.FnExactHoldingDensities := by
 intro kn br ld hk hb hl
 apply Ev.rounds
 unfold laws_FnExactHoldingDensities.f
 have m1 := hk.1
 have m2 := hb.1
 have m3 := hl.1
 have mx : maxLen ≤ 9223372036854775807 := by decide
 obtain ⟨r1, e1, g1⟩ := szFr kn br 1048576 (by decide) (by decide) (by omega) (by omega)
 refine ev_bind (ev_const e1) ?_
 by_cases hr1 : r1 < 0
 ·exact ev_if_pos hr1 (ev_now fun _ => rfl)
 refine ev_if_neg hr1 ?_
 obtain ⟨hk1, hb1, hr1b⟩ := g1 hr1
 obtain ⟨r2, e2, g2⟩ := szPl ld r1 (by omega) hr1b (by omega)
 refine ev_bind (ev_const e2) ?_
 by_cases hr2 : r2 < 0
 ·exact ev_if_pos hr2 (ev_now fun _ => rfl)
 refine ev_if_neg hr2 ?_
 have hl1 := g2 hr2
 have toF := toFr kn br hk1 hb1
 have toP := toPs ld hl1
 obtain ⟨R, cS, cI, hR⟩ := densE (kn.map kV) (br.map bV) (ld.map pV) (by simpa using hl1)
 have eqR : Ev (fun k => laws_eqDensities.f k R.1 R.2.1 R.1 R.2.1) true := by
  unfold laws_eqDensities.f
  exact ev_bind (eqI R.1 (by omega)) (ev_if_pos rfl (ev_if_pos rfl (ev_now fun _ => rfl)))
 refine ev_bind toF (ev_bind toP (ev_bind cS (ev_bind toF (ev_bind toP (ev_bind cI (ev_bind eqR (ev_if_pos rfl ?_)))))))
 rw [bne_self_eq_false]
 refine ev_succ ?_
 simp only [laws_FnExactHoldingDensities.j0]
 obtain ⟨M1, f1, b1, b2⟩ := marksFr (kn.map kV) (br.map bV) (by simpa using hk1) (by simpa using hb1)
 obtain ⟨M2, f2, b3, b4⟩ := marksP (ld.map pV) M1.1 (by simpa using hl1) b1 (by omega)
 refine ev_if_neg Bool.false_ne_true (ev_bind toF (ev_bind (eqFr (kn.map kV) (br.map bV) (by simpa using hk1) (by simpa using hb1)) (ev_if_pos rfl (ev_bind toP (ev_bind (eqPs (ld.map pV) (by simpa using hl1)) (ev_if_pos rfl (ev_bind f1 (ev_bind f2 (ev_if_neg (by omega) (ev_bind eqR (ev_if_pos rfl ?_)))))))))))
 rw [bne_self_eq_false]
 refine ev_succ ?_
 simp only [laws_FnExactHoldingDensities.j1]
 have f4 : Ev (fun k => laws_markDensities.f k R.1 R.2.1 1) (1 + (R.1.length : Int), mkI 1 R.1.length) := by
  unfold laws_markDensities.f
  exact ev_bind (marksI R.1 1 (by omega) (by omega)) (ev_now fun _ => rfl)
 have f5 : Ev (fun k => laws_heldDensities.f k (mkI 1 R.1.length) R.2.1 1) (1 + (R.1.length : Int)) := by
  unfold laws_heldDensities.f
  exact ev_bind (heldI R.1.length 1 (by omega) (by omega)) (ev_if_neg (by omega) (ev_now fun _ => rfl))
 refine ev_if_neg Bool.false_ne_true (ev_bind f4 (ev_bind f5 (ev_if_neg (by omega) (ev_if_pos rfl (ev_bind toF (ev_bind toP (ev_bind cI (ev_bind eqR (ev_if_pos rfl ?_)))))))))
 rw [bne_self_eq_false]
 refine ev_succ ?_
 simp only [laws_FnExactHoldingDensities.j2]
 exact ev_if_neg Bool.false_ne_true (ev_bind f5 (ev_if_neg (by omega) (ev_if_pos rfl (ev_now fun _ => rfl))))
end Go.Proofs.Ytimjblgepbhoaaa.Pure

