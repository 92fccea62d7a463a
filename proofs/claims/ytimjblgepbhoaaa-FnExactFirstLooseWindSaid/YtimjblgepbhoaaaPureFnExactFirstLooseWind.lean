/- Numbers and lists alone: what the walks' Lean functions come to. -/
import Derived.Test.YtimjblgepbhoaaaSayFnExactFirstLooseWind
import Derived.Test.YtimjblgepbhoaaaPlain
import Derived.Test.YtimjblgepbhoaaaPureStaysA
import Derived.Test.YtimjblgepbhoaaaPureStaysL
import Derived.Test.YtimjblgepbhoaaaPureStaysW
namespace Go.Proofs.Ytimjblgepbhoaaa.Pure
open Go.RowKit Go.Proofs.Ytimjblgepbhoaaa.PStays Go.Proofs.Ytimjblgepbhoaaa.Plain Go.Proofs.YtimjblgepbhoaaaW.PrintWords Go.Proofs.YtimjblgepbhoaaaW.PrintMore
set_option linter.unusedVariables false
set_option linter.unusedSimpArgs false
/-! ### FirstLooseWind -/
noncomputable def floseR (kn : List S164) (br : List S115) (w : List (List S113)) (bs : List Int) : Int × Int := if windR kn br w bs = 0 then (if looseA kn br bs w 0 < 0 then (0, 3) else (looseA kn br bs w 0, 0)) else (0, windR kn br w bs)
theorem floseS (kn : List S164) (br : List S115) (w : List (List S113)) (bs : List Int) (hb : bs.length ≤ 1048576) (hw : Short w) : Ev (fun k => spec_FirstLooseWind.f k kn br w bs) (floseR kn br w bs) := by
 unfold spec_FirstLooseWind.f floseR
 refine ev_bind (windsS kn br w bs hb hw) ?_
 by_cases h0 : windR kn br w bs = 0
 ·have o := WOk.of h0
  rw [if_pos h0]
  refine ev_if_pos h0 (ev_bind (looseS o.f o.l o.b o.b8 hw.1) ?_)
  by_cases hL : looseA kn br bs w 0 < 0
  ·rw [show (if looseA kn br bs w 0 < 0 then ((0 : Int), (3 : Int)) else (looseA kn br bs w 0, 0)) = (0, 3) from if_pos hL]
   exact ev_if_pos hL (ev_now fun _ => rfl)
  ·rw [show (if looseA kn br bs w 0 < 0 then ((0 : Int), (3 : Int)) else (looseA kn br bs w 0, 0)) = (looseA kn br bs w 0, 0) from if_neg hL]
   exact ev_if_neg hL (ev_now fun _ => rfl)
 ·rw [if_neg h0]
  exact ev_if_neg h0 (ev_now fun _ => rfl)
theorem floseI (kn : List S164) (br : List S115) (w : List (List S113)) (bs : List Int) (hb : bs.length ≤ 1048576) (hw : Short w) : Ev (fun k => impl_FirstLooseWind.f k kn br w bs) (floseR kn br w bs) := by
 unfold impl_FirstLooseWind.f floseR
 refine ev_bind (windsI kn br w bs hb hw) ?_
 by_cases h0 : windR kn br w bs = 0
 ·have o := WOk.of h0
  rw [if_pos h0]
  refine ev_if_pos h0 (ev_bind (looseI o.f o.l o.b o.b8 hw.1) ?_)
  by_cases hL : looseA kn br bs w 0 < 0
  ·rw [show (if looseA kn br bs w 0 < 0 then ((0 : Int), (3 : Int)) else (looseA kn br bs w 0, 0)) = (0, 3) from if_pos hL]
   exact ev_if_pos hL (ev_now fun _ => rfl)
  ·rw [show (if looseA kn br bs w 0 < 0 then ((0 : Int), (3 : Int)) else (looseA kn br bs w 0, 0)) = (looseA kn br bs w 0, 0) from if_neg hL]
   exact ev_if_neg hL (ev_now fun _ => rfl)
 ·rw [if_neg h0]
  exact ev_if_neg h0 (ev_now fun _ => rfl)
theorem FnExactFirstLooseWind : Say.FnExactFirstLooseWind := by
 intro kn br ws bs hk hb hw hs
 apply Ev.rounds
 unfold laws_FnExactFirstLooseWind.f
 have m1 := hk.1
 have m2 := hb.1
 have m3 := hw.1
 have mx : maxLen ≤ 9223372036854775807 := by decide
 have m4 : ∀ row ∈ ws, row.length ≤ 9223372036854775807 := fun row h => by have := (hw.2 row h).1; omega
 by_cases h0 : (bs.length : Int) > 1048576
 ·exact ev_if_pos h0 (ev_now fun _ => rfl)
 refine ev_if_neg h0 ?_
 have hbs : bs.length ≤ 1048576 := by omega
 obtain ⟨r1, e1, g1⟩ := szFr kn br 1048576 (by decide) (by decide) (by omega) (by omega)
 refine ev_bind (ev_const e1) ?_
 by_cases hr1 : r1 < 0
 ·exact ev_if_pos hr1 (ev_now fun _ => rfl)
 refine ev_if_neg hr1 ?_
 obtain ⟨hk1, hb1, hr1b⟩ := g1 hr1
 obtain ⟨r2, e2, _, g2⟩ := szSS ws r1 (by omega) hr1b (by omega) m4
 refine ev_bind e2 ?_
 by_cases hr2 : r2 < 0
 ·exact ev_if_pos hr2 (ev_now fun _ => rfl)
 refine ev_if_neg hr2 ?_
 obtain ⟨hl1, hl2⟩ := g2 (by omega)
 have sh := Short.map hl1 hl2
 have toF := toFr kn br hk1 hb1
 have toP := toSS ws hl1 hl2
 have toB := toI bs hbs
 have cS := floseS (kn.map kV) (br.map bV) (ws.map (List.map pV)) bs hbs sh
 have cI := floseI (kn.map kV) (br.map bV) (ws.map (List.map pV)) bs hbs sh
 refine ev_bind toF (ev_bind toP (ev_bind toB (ev_bind cS (ev_bind toF (ev_bind toP (ev_bind toB (ev_bind cI ?_)))))))
 refine ev_if_pos rfl ?_
 rw [bne_self_eq_false]
 refine ev_succ ?_
 simp only [laws_FnExactFirstLooseWind.j0]
 exact ev_if_neg Bool.false_ne_true (ev_bind toF (ev_bind (eqFr (kn.map kV) (br.map bV) (by simpa using hk1) (by simpa using hb1)) (ev_if_pos rfl (ev_bind toP (ev_bind (eqSS (ws.map (List.map pV)) sh) (ev_if_pos rfl (ev_bind toB (ev_bind (eqI bs (by omega)) (ev_if_pos rfl (ev_now fun _ => rfl))))))))))
end Go.Proofs.Ytimjblgepbhoaaa.Pure
