/- Numbers and lists alone: what the walks' Lean functions come to. -/
import Derived.Test.YtimjblgepbhoaaaSayFnExactSlackenBars
import Derived.Test.YtimjblgepbhoaaaPlain
import Derived.Test.YtimjblgepbhoaaaPureStaysA
import Derived.Test.YtimjblgepbhoaaaPureStaysL
import Derived.Test.YtimjblgepbhoaaaPureStaysM
import Derived.Test.YtimjblgepbhoaaaPureStaysN
import Derived.Test.YtimjblgepbhoaaaPureStaysO
namespace Go.Proofs.Ytimjblgepbhoaaa.Pure
open Go.RowKit Go.Proofs.Ytimjblgepbhoaaa.PStays Go.Proofs.Ytimjblgepbhoaaa.Plain Go.Proofs.YtimjblgepbhoaaaW.PrintWords Go.Proofs.YtimjblgepbhoaaaW.PrintMore
set_option linter.unusedVariables false
set_option linter.unusedSimpArgs false
/-! ### SlackenBars -/
theorem puU_mem {br : List S115} {nums : List Int} {i : Nat} {z : Int} (h : z ∈ puU br nums i) : ∃ j : Nat, (j : Int) = z ∧ nums.getD j 0 ≠ 0 := by
 unfold puU at h
 obtain ⟨j, hj, e⟩ := List.mem_map.1 h
 have h2 := (List.mem_filter.1 hj).2
 unfold puB at h2
 rw [Bool.and_eq_true] at h2
 have h3 := of_decide_eq_true h2.2
 exact ⟨j, e, by omega⟩
theorem slackS1 {kn : List S164} {br : List S115} {ld : List S113} {bs ps : List Int} {r : List Int × Int} (hb : bs.length ≤ 1048576) (hp : 0 < ps.length) (h : Ev (fun k => spec_SlackenBars.l0 k ld (woB bs (rd ps 0)) kn br) r) : Ev (fun k => spec_SlackenBars.l1 k ld bs ps [] 0 kn br) r := by
 refine loop_up' (fun k i => spec_SlackenBars.l1 k ld bs ps (woB (bs.take i) (rd ps 0)) (i : Int) kn br) bs.length _ (fun _ => True) (fun i hi _ => .inl ⟨trivial, fun hn => ?_⟩) (fun _ => ?_) bs.length 0 (by omega) (by omega) trivial
 ·refine ev_succ ?_
  simp only [spec_SlackenBars.l1]
  have hl := woB_len bs (rd ps 0) i
  rw [woB_next bs (rd ps 0) i hi] at hn
  rw [succ_cast i (by omega), rd_nat bs i]
  refine ev_if_pos (by omega) (ev_if_pos (by omega) (ev_if_pos (by omega) ?_))
  by_cases h : bs.getD i 0 = rd ps 0
  ·rw [if_pos h] at hn
   exact ev_if_pos h hn
  ·rw [if_neg h] at hn
   exact ev_if_neg h (ev_if_pos (by omega) hn)
 ·refine ev_succ ?_
  simp only [spec_SlackenBars.l1]
  rw [List.take_length]
  exact ev_if_neg (by omega) h
theorem slackE0 {kn : List S164} {br : List S115} {ld : List S113} (f : FrOk kn br) (l : LdOk kn ld) : ∀ (n : Nat) (bs : List Int), bs.length ≤ n → bs.length ≤ 8 → BsOk br bs →
  ∃ r : List Int × Int, Ev (fun k => spec_SlackenBars.l0 k ld bs kn br) r ∧ Ev (fun k => impl_SlackenBars.l0 k ld bs kn br) r ∧ r.1.length ≤ 8 := by
 intro n
 induction n with
 | zero =>
  intro bs h0 hb b
  obtain ⟨r, h1, h2, h3, h4⟩ := solveE f l b hb
  have hb8 := f.b8
  cases hr : r.2.2 with
  | false =>
   refine ⟨([], 10), ev_succ ?_, ev_succ ?_, by simp⟩
   ·simp only [spec_SlackenBars.l0]
    exact ev_bind h2 (ev_if_neg (by rw [hr]; exact Bool.false_ne_true) (ev_now fun _ => rfl))
   ·simp only [impl_SlackenBars.l0]
    exact ev_bind h1 (ev_if_neg (by rw [hr]; exact Bool.false_ne_true) (ev_now fun _ => rfl))
  | true =>
   obtain ⟨hl, hm, _⟩ := h3 hr
   have p1 := pushI kn r.2.1 (br := br) (nums := r.1) (by omega) hl
   have p2 := pushS kn r.2.1 (br := br) (nums := r.1) (by omega) hl
   have hp : (puU br r.1 br.length).length = 0 := by
    rcases Nat.eq_zero_or_pos (puU br r.1 br.length).length with h | h
    ·exact h
    ·obtain ⟨j, _, hj⟩ := puU_mem (List.getElem_mem h)
     have := hm j hj
     rw [List.length_eq_zero_iff.mp (Nat.le_zero.mp h0)] at this
     exact absurd this (List.not_mem_nil)
   refine ⟨(bs, 0), ev_succ ?_, ev_succ ?_, hb⟩
   ·simp only [spec_SlackenBars.l0]
    exact ev_bind h2 (ev_if_pos hr (ev_bind p2 (ev_if_pos (by omega) (ev_now fun _ => rfl))))
   ·simp only [impl_SlackenBars.l0]
    exact ev_bind h1 (ev_if_pos hr (ev_bind p1 (ev_if_pos (by omega) (ev_now fun _ => rfl))))
 | succ n ih =>
  intro bs h0 hb b
  obtain ⟨r, h1, h2, h3, h4⟩ := solveE f l b hb
  have hb8 := f.b8
  cases hr : r.2.2 with
  | false =>
   refine ⟨([], 10), ev_succ ?_, ev_succ ?_, by simp⟩
   ·simp only [spec_SlackenBars.l0]
    exact ev_bind h2 (ev_if_neg (by rw [hr]; exact Bool.false_ne_true) (ev_now fun _ => rfl))
   ·simp only [impl_SlackenBars.l0]
    exact ev_bind h1 (ev_if_neg (by rw [hr]; exact Bool.false_ne_true) (ev_now fun _ => rfl))
  | true =>
   obtain ⟨hl, hm, _⟩ := h3 hr
   have p1 := pushI kn r.2.1 (br := br) (nums := r.1) (by omega) hl
   have p2 := pushS kn r.2.1 (br := br) (nums := r.1) (by omega) hl
   generalize hps : puU br r.1 br.length = ps at p1 p2
   by_cases hp : ps.length = 0
   ·refine ⟨(bs, 0), ev_succ ?_, ev_succ ?_, hb⟩
    ·simp only [spec_SlackenBars.l0]
     exact ev_bind h2 (ev_if_pos hr (ev_bind p2 (ev_if_pos (by omega) (ev_now fun _ => rfl))))
    ·simp only [impl_SlackenBars.l0]
     exact ev_bind h1 (ev_if_pos hr (ev_bind p1 (ev_if_pos (by omega) (ev_now fun _ => rfl))))
   ·have hp0 : 0 < ps.length := by omega
    have hmem : rd ps 0 ∈ bs := by
     have h5 : rd ps 0 = ps[0] := by show ps.getD 0 0 = _; rw [List.getD_eq_getElem?_getD, List.getElem?_eq_getElem hp0]; rfl
     have h6 : ps[0] ∈ puU br r.1 br.length := by rw [hps]; exact List.getElem_mem hp0
     obtain ⟨j, e, hj⟩ := puU_mem h6
     rw [h5, ← e]; exact hm j hj
    have hlt := woB_lt hmem
    obtain ⟨q, q1, q2, q3⟩ := ih (woB bs (rd ps 0)) (by omega) (by omega) (b.sub (woB_sub _ _))
    refine ⟨q, ev_succ ?_, ev_succ ?_, q3⟩
    ·simp only [spec_SlackenBars.l0]
     exact ev_bind h2 (ev_if_pos hr (ev_bind p2 (ev_if_neg (by omega) (slackS1 (by omega) hp0 q1))))
    ·simp only [impl_SlackenBars.l0]
     exact ev_bind h1 (ev_if_pos hr (ev_bind p1 (ev_if_neg (by omega) (ev_if_pos (by omega) (ev_bind (withoutE bs _ (by omega)) q2)))))
theorem slackE (kn : List S164) (br : List S115) (ld : List S113) (bs : List Int) (hl : ld.length ≤ 1048576) (hb : bs.length ≤ 1048576) :
  ∃ r : List Int × Int, Ev (fun k => spec_SlackenBars.f k kn br ld bs) r ∧ Ev (fun k => impl_SlackenBars.f k kn br ld bs) r ∧ r.1.length ≤ 1048576 := by
 unfold spec_SlackenBars.f impl_SlackenBars.f
 have cS := codeE kn br ld bs hl hb
 have cI := loadsI kn br ld hl
 by_cases h1 : (frB kn br && ldB kn ld) = true
 ·rw [if_pos h1] at cS
  have h1' := h1
  rw [Bool.and_eq_true] at h1'
  have f := FrOk.of (frB_is h1'.1)
  have bI := barsI kn bs f.b8 hb
  by_cases h2 : bsB br bs = true
  ·rw [if_pos h2] at cS
   have hp := bsB_is h2
   have h8 : bs.length ≤ 8 := by have := hp.len; have := f.b8; omega
   obtain ⟨r, r1, r2, r3⟩ := slackE0 f (LdOk.of (ldB_is h1'.2)) 8 bs h8 h8 (BsOk.of hp)
   refine ⟨r, ev_bind cS (ev_if_pos rfl (ev_bind (a := bs) ?_ r1)), ev_bind cI (ev_if_pos h1 (ev_bind bI (ev_if_pos h2 ?_))), by omega⟩
   ·unfold spec_l00Own.f
    simp only [Option.bind_some]
    exact ev_if_pos (by simp; omega) (ev_now fun _ => by simp)
   ·simp only [Option.bind_some]
    refine ev_if_pos (by simp; omega) ?_
    simpa using r2
  ·rw [if_neg h2] at cS
   exact ⟨([], 2), ev_bind cS (ev_if_neg (by decide) (ev_now fun _ => rfl)), ev_bind cI (ev_if_pos h1 (ev_bind bI (ev_if_neg h2 (ev_now fun _ => rfl)))), by simp⟩
 ·rw [if_neg h1] at cS
  exact ⟨([], 1), ev_bind cS (ev_if_neg (by decide) (ev_now fun _ => rfl)), ev_bind cI (ev_if_neg h1 (ev_now fun _ => rfl)), by simp⟩
theorem FnExactSlackenBars : Say.FnExactSlackenBars := by
 intro kn br ld bs hk hb hl hs
 apply Ev.rounds
 unfold laws_FnExactSlackenBars.f
 have m1 := hk.1
 have m2 := hb.1
 have m3 := hl.1
 have mx : maxLen ≤ 9223372036854775807 := by decide
 by_cases h0 : (bs.length : Int) > 1048576
 ·exact ev_if_pos h0 (ev_now fun _ => rfl)
 refine ev_if_neg h0 ?_
 have hbs : bs.length ≤ 1048576 := by omega
 obtain ⟨r1, e1, g1⟩ := szFr kn br 1048576 (by decide) (by decide) (by omega) (by omega)
 refine ev_bind (ev_const e1) ?_
 by_cases hr1 : r1 < 0
 ·exact ev_if_pos hr1 (ev_now fun _ => rfl)
 refine ev_if_neg hr1 ?_
 obtain ⟨hk1, hb1, hr1b⟩ := g1 hr1
 obtain ⟨r2, e2, g2⟩ := szPl ld r1 (by omega) hr1b (by omega)
 refine ev_bind (ev_const e2) ?_
 by_cases hr2 : r2 < 0
 ·exact ev_if_pos hr2 (ev_now fun _ => rfl)
 refine ev_if_neg hr2 ?_
 have hl1 := g2 hr2
 have toF := toFr kn br hk1 hb1
 have toP := toPs ld hl1
 have toB := toI bs hbs
 obtain ⟨R, cS, cI, hR⟩ := slackE (kn.map kV) (br.map bV) (ld.map pV) bs (by simpa using hl1) hbs
 have eqR := eqI R.1 (by omega)
 refine ev_bind toF (ev_bind toP (ev_bind toB (ev_bind cS (ev_bind toF (ev_bind toP (ev_bind toB (ev_bind cI (ev_bind eqR (ev_if_pos rfl ?_)))))))))
 rw [bne_self_eq_false]
 refine ev_succ ?_
 simp only [laws_FnExactSlackenBars.j0]
 obtain ⟨M1, f1, b1, b2⟩ := marksFr (kn.map kV) (br.map bV) (by simpa using hk1) (by simpa using hb1)
 obtain ⟨M2, f2, b3, b4⟩ := marksP (ld.map pV) M1.1 (by simpa using hl1) b1 (by omega)
 have f3 := marksI bs M2.1 (by omega) (by omega)
 refine ev_if_neg Bool.false_ne_true (ev_bind toF (ev_bind (eqFr (kn.map kV) (br.map bV) (by simpa using hk1) (by simpa using hb1)) (ev_if_pos rfl (ev_bind toP (ev_bind (eqPs (ld.map pV) (by simpa using hl1)) (ev_if_pos rfl (ev_bind toB (ev_bind (eqI bs (by omega)) (ev_if_pos rfl (ev_bind f1 (ev_bind f2 (ev_bind f3 (ev_if_neg (by show ¬ M2.1 + (bs.length : Int) < 0; omega) (ev_bind eqR (ev_if_pos rfl ?_)))))))))))))))
 rw [bne_self_eq_false]
 refine ev_succ ?_
 simp only [laws_FnExactSlackenBars.j1]
 have f4 := marksI R.1 1 (by omega) (by omega)
 have f5 := heldI R.1.length 1 (by omega) (by omega)
 refine ev_if_neg Bool.false_ne_true (ev_bind f4 (ev_bind f5 (ev_if_neg (by omega) (ev_if_pos rfl (ev_bind toF (ev_bind toP (ev_bind toB (ev_bind cI (ev_bind eqR (ev_if_pos rfl ?_))))))))))
 rw [bne_self_eq_false]
 refine ev_succ ?_
 simp only [laws_FnExactSlackenBars.j2]
 exact ev_if_neg Bool.false_ne_true (ev_bind f5 (ev_if_neg (by omega) (ev_if_pos rfl (ev_now fun _ => rfl))))
end Go.Proofs.Ytimjblgepbhoaaa.Pure
