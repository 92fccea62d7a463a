import Derived.Test.YtimjblgepbhoaaaSayFnExactHoldingBars
import Derived.Test.YtimjblgepbhoaaaPlain
import Derived.Test.YtimjblgepbhoaaaPureStaysA
import Derived.Test.YtimjblgepbhoaaaPureStaysF
import Derived.Test.YtimjblgepbhoaaaPureStaysG
import Derived.Test.YtimjblgepbhoaaaPureStaysL
import Derived.Test.YtimjblgepbhoaaaPureStaysM
namespace Go.Proofs.Ytimjblgepbhoaaa.Pure
open Go.RowKit Go.Proofs.Ytimjblgepbhoaaa.PStays Go.Proofs.Ytimjblgepbhoaaa.Plain Go.Proofs.YtimjblgepbhoaaaW.PrintWords Go.Proofs.YtimjblgepbhoaaaW.PrintMore
set_option linter.unusedVariables false
set_option linter.unusedSimpArgs false
theorem holdingS (kn : List S164) (br : List S115) (ld : List S113) (hl : ld.length ≤ 1048576) : Ev (fun k => spec_HoldingBars.f k kn br ld) (if (frB kn br && ldB kn ld) = true then holdR kn br ld else ([], 1)) := by
 unfold spec_HoldingBars.f
 refine ev_bind (code0 kn br ld hl) ?_
 by_cases h1 : (frB kn br && ldB kn ld) = true
 ·rw [if_pos h1, if_pos h1]
  rw [Bool.and_eq_true] at h1
  refine ev_if_pos rfl (ev_bind (fewS (FrOk.of (frB_is h1.1)) (LdOk.of (ldB_is h1.2))) ?_)
  by_cases h2 : (fewT kn br ld (allB br.length) (2 ^ br.length)).2 = true
  ·rw [holdR_yes h2]
   exact ev_if_pos h2 (ev_now fun _ => rfl)
  ·rw [holdR_no h2]
   exact ev_if_neg h2 (ev_now fun _ => rfl)
 ·rw [if_neg h1, if_neg h1]
  exact ev_if_neg (by decide) (ev_now fun _ => rfl)
theorem FnExactHoldingBars : Say.FnExactHoldingBars := by
 intro kn br ld hk hb hl
 apply Ev.rounds
 unfold laws_FnExactHoldingBars.f
 have m1 := hk.1
 have m2 := hb.1
 have m3 := hl.1
 have mx : maxLen ≤ 9223372036854775807 := by decide
 obtain ⟨r1, e1, g1⟩ := szFr kn br 1048576 (by decide) (by decide) (by omega) (by omega)
 refine ev_bind (ev_const e1) ?_
 by_cases hr1 : r1 < 0
 ·exact ev_if_pos hr1 (ev_now fun _ => rfl)
 refine ev_if_neg hr1 ?_
 obtain ⟨hk1, hb1, hr1b⟩ := g1 hr1
 obtain ⟨r2, e2, g2⟩ := szPl ld r1 (by omega) hr1b (by omega)
 refine ev_bind (ev_const e2) ?_
 by_cases hr2 : r2 < 0
 ·exact ev_if_pos hr2 (ev_now fun _ => rfl)
 refine ev_if_neg hr2 ?_
 have hl1 := g2 hr2
 have toF := toFr kn br hk1 hb1
 have toP := toPs ld hl1
 have cS := holdingS (kn.map kV) (br.map bV) (ld.map pV) (by simpa using hl1)
 have cI := holdingI (kn.map kV) (br.map bV) (ld.map pV) (by simpa using hl1)
 have hR : (if (frB (kn.map kV) (br.map bV) && ldB (kn.map kV) (ld.map pV)) = true then holdR (kn.map kV) (br.map bV) (ld.map pV) else ([], 1)).1.length ≤ 1048576 := by
  by_cases h1 : (frB (kn.map kV) (br.map bV) && ldB (kn.map kV) (ld.map pV)) = true
  ·rw [if_pos h1]
   rw [Bool.and_eq_true] at h1
   have := holdR_len (kn.map kV) (ld.map pV) (frB_is h1.1).2.1
   omega
  ·rw [if_neg h1]; simp
 generalize (if (frB (kn.map kV) (br.map bV) && ldB (kn.map kV) (ld.map pV)) = true then holdR (kn.map kV) (br.map bV) (ld.map pV) else ([], 1)) = R at cS cI hR
 have eqR := eqI R.1 (by omega)
 refine ev_bind toF (ev_bind toP (ev_bind cS (ev_bind toF (ev_bind toP (ev_bind cI (ev_bind eqR (ev_if_pos rfl ?_)))))))
 rw [bne_self_eq_false]
 refine ev_succ ?_
 simp only [laws_FnExactHoldingBars.j0]
 obtain ⟨M1, f1, b1, b2⟩ := marksFr (kn.map kV) (br.map bV) (by simpa using hk1) (by simpa using hb1)
 obtain ⟨M2, f2, b3, b4⟩ := marksP (ld.map pV) M1.1 (by simpa using hl1) b1 (by omega)
 refine ev_if_neg Bool.false_ne_true (ev_bind toF (ev_bind (eqFr (kn.map kV) (br.map bV) (by simpa using hk1) (by simpa using hb1)) (ev_if_pos rfl (ev_bind toP (ev_bind (eqPs (ld.map pV) (by simpa using hl1)) (ev_if_pos rfl (ev_bind f1 (ev_bind f2 (ev_if_neg (by omega) (ev_bind eqR (ev_if_pos rfl ?_)))))))))))
 rw [bne_self_eq_false]
 refine ev_succ ?_
 simp only [laws_FnExactHoldingBars.j1]
 have f4 := marksI R.1 1 (by omega) (by omega)
 have f5 := heldI R.1.length 1 (by omega) (by omega)
 refine ev_if_neg Bool.false_ne_true (ev_bind f4 (ev_bind f5 (ev_if_neg (by omega) (ev_if_pos rfl (ev_bind toF (ev_bind toP (ev_bind cI (ev_bind eqR (ev_if_pos rfl ?_)))))))))
 rw [bne_self_eq_false]
 refine ev_succ ?_
 simp only [laws_FnExactHoldingBars.j2]
 exact ev_if_neg Bool.false_ne_true (ev_bind f5 (ev_if_neg (by omega) (ev_if_pos rfl (ev_now fun _ => rfl))))
end Go.Proofs.Ytimjblgepbhoaaa.Pure

