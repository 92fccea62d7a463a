/- Numbers and lists alone: what the walks' Lean functions come to. -/
import Derived.Test.YtimjblgepbhoaaaSayFnExactGreatestLoad
import Derived.Test.YtimjblgepbhoaaaPlain
import Derived.Test.YtimjblgepbhoaaaPureStaysA
import Derived.Test.YtimjblgepbhoaaaPureStaysG
import Derived.Test.YtimjblgepbhoaaaPureStaysH
import Derived.Test.YtimjblgepbhoaaaPureStaysL
namespace Go.Proofs.Ytimjblgepbhoaaa.Pure
open Go.RowKit Go.Proofs.Ytimjblgepbhoaaa.PStays Go.Proofs.Ytimjblgepbhoaaa.Plain Go.Proofs.YtimjblgepbhoaaaW.PrintWords Go.Proofs.YtimjblgepbhoaaaW.PrintMore
set_option linter.unusedVariables false
set_option linter.unusedSimpArgs false
/-! ### GreatestLoad -/
def siz (n : Int) : Int := if n < 0 then wrap64 (-n) else n
theorem siz_mx {n : Int} (h1 : -9223372036854775808 ≤ n) (h2 : n ≤ 9223372036854775807) : mx n (wrap64 (-n)) = siz n := by
 unfold mx siz wrap64
 split <;> split <;> omega
theorem siz_zero {n : Int} (h1 : -9223372036854775808 ≤ n) (h2 : n ≤ 9223372036854775807) : siz n = 0 ↔ n = 0 := by
 unfold siz wrap64
 split <;> omega
def grV (most den n : Int) : Int := wrap64 (Int.tdiv (wrap64 (most * den)) (siz n))
def grT (most den : Int) : List Int → Int → Int
 | [], t => t
 | n :: l, t => if n = 0 then grT most den l t else if t < 0 then grT most den l (grV most den n) else if grV most den n < t then grT most den l (grV most den n) else grT most den l t
def grR (t : Int) : Int × Int := if t < 0 then (0, 3) else (t, 0)
theorem greatS0 (most den : Int) (l : List Int) (hl : l.length ≤ 1048576) (hw : ∀ i : Nat, -9223372036854775808 ≤ l.getD i 0 ∧ l.getD i 0 ≤ 9223372036854775807) : ∀ (m i : Nat) (t : Int), i + m = l.length → Ev (fun k => spec_GreatestLoad.l0 k most t (i : Int) l den) (grR (grT most den (l.drop i) t)) := by
 intro m
 induction m with
 | zero =>
  intro i t hi
  refine ev_succ ?_
  simp only [spec_GreatestLoad.l0]
  rw [List.drop_eq_nil_of_le (by omega)]
  refine ev_if_neg (by omega) ?_
  show Ev _ (grR t)
  by_cases h : t < 0
  ·rw [show grR t = (0, 3) from if_pos h]; exact ev_if_pos h (ev_now fun _ => rfl)
  ·rw [show grR t = (t, 0) from if_neg h]; exact ev_if_neg h (ev_now fun _ => rfl)
 | succ m ih =>
  intro i t hi
  have hil : i < l.length := by omega
  have hr : rd l (i : Int) = l[i] := by rw [rd_nat, List.getD_eq_getElem?_getD, List.getElem?_eq_getElem hil]; rfl
  have hwi := hw i
  rw [show l.getD i 0 = l[i] from by rw [List.getD_eq_getElem?_getD, List.getElem?_eq_getElem hil]; rfl] at hwi
  have hz : spec_l00Size.f l[i] = some (siz l[i]) := by
   unfold spec_l00Size.f siz
   split <;> rfl
  refine ev_succ ?_
  simp only [spec_GreatestLoad.l0]
  rw [List.drop_eq_getElem_cons hil, hr, succ_cast i (by omega), hz]
  refine ev_if_pos (by omega) (ev_if_pos (by omega) ?_)
  simp only [Option.bind_some]
  unfold grT
  by_cases h0 : l[i] = 0
  ·rw [if_pos h0]
   exact ev_if_pos ((siz_zero hwi.1 hwi.2).2 h0) (ih (i + 1) t (by omega))
  ·rw [if_neg h0]
   refine ev_if_neg (fun h => h0 ((siz_zero hwi.1 hwi.2).1 h)) ?_
   by_cases ht : t < 0
   ·rw [if_pos ht]
    exact ev_if_pos ht (ih (i + 1) _ (by omega))
   ·rw [if_neg ht]
    refine ev_if_neg ht ?_
    by_cases hv : grV most den l[i] < t
    ·rw [if_pos hv]
     exact ev_if_pos hv (ih (i + 1) _ (by omega))
    ·rw [if_neg hv]
     exact ev_if_neg hv (ih (i + 1) _ (by omega))
theorem greatI0 (most den : Int) (l : List Int) (hl : l.length ≤ 1048576) (hw : ∀ i : Nat, -9223372036854775808 ≤ l.getD i 0 ∧ l.getD i 0 ≤ 9223372036854775807) : ∀ (m i : Nat) (t : Int), i + m = l.length → Ev (fun k => impl_GreatestLoad.l0 k most t l (l.length : Int) (i : Int) l den) (grR (grT most den (l.drop i) t)) := by
 intro m
 induction m with
 | zero =>
  intro i t hi
  refine ev_succ ?_
  simp only [impl_GreatestLoad.l0]
  rw [List.drop_eq_nil_of_le (by omega)]
  refine ev_if_neg (by omega) ?_
  show Ev _ (grR t)
  by_cases h : t < 0
  ·rw [show grR t = (0, 3) from if_pos h]; exact ev_if_pos h (ev_now fun _ => rfl)
  ·rw [show grR t = (t, 0) from if_neg h]; exact ev_if_neg h (ev_now fun _ => rfl)
 | succ m ih =>
  intro i t hi
  have hil : i < l.length := by omega
  have hr : rd l (i : Int) = l[i] := by rw [rd_nat, List.getD_eq_getElem?_getD, List.getElem?_eq_getElem hil]; rfl
  have hwi := hw i
  rw [show l.getD i 0 = l[i] from by rw [List.getD_eq_getElem?_getD, List.getElem?_eq_getElem hil]; rfl] at hwi
  refine ev_succ ?_
  simp only [impl_GreatestLoad.l0]
  rw [List.drop_eq_getElem_cons hil, hr, succ_cast i (by omega), siz_mx hwi.1 hwi.2]
  refine ev_if_pos (by omega) (ev_if_pos (by omega) (ev_if_pos (by omega) ?_))
  unfold grT
  by_cases h0 : l[i] = 0
  ·rw [if_pos h0]
   exact ev_if_pos h0 (ih (i + 1) t (by omega))
  ·rw [if_neg h0]
   refine ev_if_neg h0 (ev_if_neg (fun h => h0 ((siz_zero hwi.1 hwi.2).1 h)) ?_)
   by_cases ht : t < 0
   ·rw [if_pos ht]
    exact ev_if_pos ht (ih (i + 1) _ (by omega))
   ·rw [if_neg ht]
    refine ev_if_neg ht ?_
    by_cases hv : grV most den l[i] < t
    ·rw [if_pos hv]
     exact ev_if_pos hv (ih (i + 1) _ (by omega))
    ·rw [if_neg hv]
     exact ev_if_neg hv (ih (i + 1) _ (by omega))
theorem greatE (kn : List S164) (br : List S115) (ld : List S113) (most : Int) (hl : ld.length ≤ 1048576) : ∃ R : Int × Int, Ev (fun k => spec_GreatestLoad.f k kn br ld most) R ∧ Ev (fun k => impl_GreatestLoad.f k kn br ld most) R := by
 have cS := code0 kn br ld hl
 have cI := loadsI kn br ld hl
 have hin : spec_l00In.f most 1 1000000 = impl_within.f most 1 1000000 := rfl
 obtain ⟨q, hq⟩ : ∃ q, impl_within.f most 1 1000000 = some q := by
  unfold impl_within.f
  split
  ·exact ⟨_, rfl⟩
  ·exact ⟨_, rfl⟩
 have hqS : spec_l00In.f most 1 1000000 = some q := hin.trans hq
 unfold spec_GreatestLoad.f impl_GreatestLoad.f
 by_cases h1 : (frB kn br && ldB kn ld) = true
 ·rw [if_pos h1] at cS
  have h1' := h1
  rw [Bool.and_eq_true] at h1'
  have fS := fewS (FrOk.of (frB_is h1'.1)) (LdOk.of (ldB_is h1'.2))
  cases q with
  | false =>
   refine ⟨(0, 2), ev_bind cS (ev_if_pos rfl (ev_bind (ev_const hqS) (ev_succ ?_))), ev_bind cI (ev_if_pos h1 (ev_bind (ev_const hq) (ev_if_neg Bool.false_ne_true (ev_now fun _ => rfl))))⟩
   simp only [spec_GreatestLoad.j0]
   refine ev_if_pos rfl (ev_succ ?_)
   simp only [spec_GreatestLoad.j1]
   exact ev_if_neg (by decide) (ev_now fun _ => rfl)
  | true =>
   rcases densV hl h1 with ⟨hT, hI⟩ | ⟨hT, r, hI, hS, h8, hw⟩
   ·refine ⟨(0, 10), ev_bind cS (ev_if_pos rfl (ev_bind (ev_const hqS) (ev_succ ?_))), ev_bind cI (ev_if_pos h1 (ev_bind (ev_const hq) (ev_if_pos rfl (ev_bind hI (ev_if_neg (by decide) (ev_now fun _ => rfl))))))⟩
    simp only [spec_GreatestLoad.j0]
    refine ev_if_neg (by decide) (ev_succ ?_)
    simp only [spec_GreatestLoad.j1]
    exact ev_if_pos trivial (ev_bind fS (ev_if_neg (by rw [hT]; exact Bool.false_ne_true) (ev_now fun _ => rfl)))
   ·refine ⟨grR (grT most r.2.1 (r.1.drop 0) (-1)), ev_bind cS (ev_if_pos rfl (ev_bind (ev_const hqS) (ev_succ ?_))), ev_bind cI (ev_if_pos h1 (ev_bind (ev_const hq) (ev_if_pos rfl (ev_bind hI (ev_if_pos rfl (greatI0 most r.2.1 r.1 (by omega) hw r.1.length 0 (-1) (by omega)))))))⟩
    simp only [spec_GreatestLoad.j0]
    refine ev_if_neg (by decide) (ev_succ ?_)
    simp only [spec_GreatestLoad.j1]
    exact ev_if_pos trivial (ev_bind fS (ev_if_pos hT (ev_bind hS (greatS0 most r.2.1 r.1 (by omega) hw r.1.length 0 (-1) (by omega)))))
 ·rw [if_neg h1] at cS
  refine ⟨(0, 1), ev_bind cS (ev_if_neg (by decide) (ev_succ ?_)), ev_bind cI (ev_if_neg h1 (ev_now fun _ => rfl))⟩
  simp only [spec_GreatestLoad.j0]
  refine ev_if_neg Bool.false_ne_true (ev_succ ?_)
  simp only [spec_GreatestLoad.j1]
  exact ev_if_neg (by decide) (ev_now fun _ => rfl)
theorem FnExactGreatestLoad : Say.FnExactGreatestLoad := by
 intro kn br ld most hk hb hl _
 apply Ev.rounds
 unfold laws_FnExactGreatestLoad.f
 have m1 := hk.1
 have m2 := hb.1
 have m3 := hl.1
 have mx : maxLen ≤ 9223372036854775807 := by decide
 obtain ⟨r1, e1, g1⟩ := szFr kn br 1048576 (by decide) (by decide) (by omega) (by omega)
 refine ev_bind (ev_const e1) ?_
 by_cases hr1 : r1 < 0
 ·exact ev_if_pos hr1 (ev_now fun _ => rfl)
 refine ev_if_neg hr1 ?_
 obtain ⟨hk1, hb1, hr1b⟩ := g1 hr1
 obtain ⟨r2, e2, g2⟩ := szPl ld r1 (by omega) hr1b (by omega)
 refine ev_bind (ev_const e2) ?_
 by_cases hr2 : r2 < 0
 ·exact ev_if_pos hr2 (ev_now fun _ => rfl)
 refine ev_if_neg hr2 ?_
 have hl1 := g2 hr2
 have toF := toFr kn br hk1 hb1
 have toP := toPs ld hl1
 obtain ⟨R, cS, cI⟩ := greatE (kn.map kV) (br.map bV) (ld.map pV) most (by simpa using hl1)
 refine ev_bind toF (ev_bind toP (ev_bind cS (ev_bind toF (ev_bind toP (ev_bind cI (ev_if_pos rfl ?_))))))
 rw [bne_self_eq_false]
 refine ev_succ ?_
 simp only [laws_FnExactGreatestLoad.j0]
 exact ev_if_neg Bool.false_ne_true (ev_bind toF (ev_bind (eqFr (kn.map kV) (br.map bV) (by simpa using hk1) (by simpa using hb1)) (ev_if_pos rfl (ev_bind toP (ev_bind (eqPs (ld.map pV) (by simpa using hl1)) (ev_if_pos rfl (ev_now fun _ => rfl)))))))
end Go.Proofs.Ytimjblgepbhoaaa.Pure
