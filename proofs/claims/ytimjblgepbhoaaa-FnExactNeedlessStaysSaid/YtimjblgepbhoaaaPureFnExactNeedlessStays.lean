import Derived.Test.YtimjblgepbhoaaaSayFnExactNeedlessStays
import Derived.Test.YtimjblgepbhoaaaPlain
import Derived.Test.YtimjblgepbhoaaaPureStaysA
import Derived.Test.YtimjblgepbhoaaaPureStaysL
import Derived.Test.YtimjblgepbhoaaaPureStaysM
import Derived.Test.YtimjblgepbhoaaaPureStaysO
import Derived.Test.YtimjblgepbhoaaaPureStaysQ
import Derived.Test.YtimjblgepbhoaaaPureStaysW
import Derived.Test.YtimjblgepbhoaaaPureStaysX
namespace Go.Proofs.Ytimjblgepbhoaaa.Pure
open Go.RowKit Go.Proofs.Ytimjblgepbhoaaa.PStays Go.Proofs.Ytimjblgepbhoaaa.Plain Go.Proofs.YtimjblgepbhoaaaW.PrintWords Go.Proofs.YtimjblgepbhoaaaW.PrintMore
set_option linter.unusedVariables false
set_option linter.unusedSimpArgs false
theorem ownE (l : List Int) (h : l.length ≤ 1048576) : spec_l00Own.f l = some l := by
 unfold spec_l00Own.f
 simp only [Option.bind_some]
 rw [if_pos (by simp; omega)]
 simp
theorem woB_at {br : List S115} {bs : List Int} (b : BsOk br bs) (i : Nat) (hi : i < bs.length) : woB bs (bs.getD i 0) = bs.take i ++ bs.drop (i + 1) := by
 have hd : bs = bs.take i ++ bs[i] :: bs.drop (i + 1) := by rw [← List.drop_eq_getElem_cons hi, List.take_append_drop]
 have hg : bs.getD i 0 = bs[i] := by rw [List.getD_eq_getElem?_getD, List.getElem?_eq_getElem hi]; rfl
 have key : ∀ j, j < bs.length → bs.getD j 0 = bs[i] → j = i := fun j hj e => b.nd j i hj hi (e.trans hg.symm)
 rw [hg]
 generalize bs[i] = x at hd key
 unfold woB
 have e1 : (bs.take i).filter (fun b => !decide (b = x)) = bs.take i := by
  rw [List.filter_eq_self]
  intro y hy
  obtain ⟨j, hj, e⟩ := List.getElem_of_mem hy
  rw [List.length_take] at hj
  rw [List.getElem_take] at e
  by_cases h : y = x
  ·have := key j (by omega) (by rw [List.getD_eq_getElem?_getD, List.getElem?_eq_getElem (by omega)]; exact e.trans h)
   omega
  ·simp [h]
 have e2 : (bs.drop (i + 1)).filter (fun b => !decide (b = x)) = bs.drop (i + 1) := by
  rw [List.filter_eq_self]
  intro y hy
  obtain ⟨j, hj, e⟩ := List.getElem_of_mem hy
  rw [List.length_drop] at hj
  rw [List.getElem_drop] at e
  by_cases h : y = x
  ·have := key (i + 1 + j) (by omega) (by rw [List.getD_eq_getElem?_getD, List.getElem?_eq_getElem (by omega)]; exact e.trans h)
   omega
  ·simp [h]
 have e3 : bs.filter (fun b => !decide (b = x)) = (bs.take i ++ x :: bs.drop (i + 1)).filter (fun b => !decide (b = x)) := by rw [← hd]
 rw [e3, List.filter_append, List.filter_cons, e1, e2]
 simp
noncomputable def nlB (kn : List S164) (br : List S115) (w : List (List S113)) (bs : List Int) (x : Int) : Bool := decide (looseA kn br (woB bs x) w 0 < 0)
noncomputable def nlT (kn : List S164) (br : List S115) (w : List (List S113)) (bs : List Int) (i : Nat) : List Int := (bs.take i).filter (nlB kn br w bs)
theorem nlT_len (kn : List S164) (br : List S115) (w : List (List S113)) (bs : List Int) (i : Nat) : (nlT kn br w bs i).length ≤ bs.length := by
 unfold nlT
 have h1 := List.length_filter_le (nlB kn br w bs) (bs.take i)
 rw [List.length_take] at h1
 omega
theorem nlT_next (kn : List S164) (br : List S115) (w : List (List S113)) (bs : List Int) (i : Nat) (hi : i < bs.length) : nlT kn br w bs (i + 1) = if looseA kn br (woB bs (bs.getD i 0)) w 0 < 0 then nlT kn br w bs i ++ [bs.getD i 0] else nlT kn br w bs i := by
 unfold nlT
 have hg : bs.getD i 0 = bs[i] := by rw [List.getD_eq_getElem?_getD, List.getElem?_eq_getElem hi]; rfl
 rw [List.take_succ_eq_append_getElem hi, List.filter_append, hg]
 by_cases h : looseA kn br (woB bs bs[i]) w 0 < 0
 ·rw [if_pos h, List.filter_cons, if_pos (show nlB kn br w bs bs[i] = true from decide_eq_true h)]; rfl
 ·rw [if_neg h, List.filter_cons, if_neg (by unfold nlB; rw [decide_eq_false h]; exact Bool.false_ne_true)]; simp
theorem nlI {kn : List S164} {br : List S115} {w : List (List S113)} {bs : List Int} (o : WOk kn br w bs) (hw : Short w) : Ev (fun k => impl_NeedlessStays.l0 k w bs [] bs (bs.length : Int) 0 kn br) (nlT kn br w bs bs.length, 0) := by
 have h8 := o.b8
 refine loop_up' (fun k i => impl_NeedlessStays.l0 k w bs (nlT kn br w bs i) bs (bs.length : Int) (i : Int) kn br) bs.length _ (fun _ => True) (fun i hi _ => .inl ⟨trivial, fun hn => ?_⟩) (fun _ => ?_) bs.length 0 (by omega) (by omega) trivial
 ·have hs := woB_sub bs (bs.getD i 0)
  have hsl := hs.length_le
  have hl := looseI o.f o.l (o.b.sub hs) (by omega) hw.1
  have hlen := nlT_len kn br w bs i
  rw [nlT_next kn br w bs i hi] at hn
  refine ev_succ ?_
  simp only [impl_NeedlessStays.l0]
  rw [succ_cast i (by omega), rd_nat]
  refine ev_if_pos (by omega) (ev_if_pos (by omega) (ev_if_pos (by omega) (ev_bind (withoutE bs _ (by omega)) (ev_bind hl ?_))))
  by_cases h : looseA kn br (woB bs (bs.getD i 0)) w 0 < 0
  ·rw [if_pos h] at hn
   exact ev_if_pos h (ev_if_pos (by omega) hn)
  ·rw [if_neg h] at hn
   exact ev_if_neg h hn
 ·refine ev_succ ?_
  simp only [impl_NeedlessStays.l0]
  exact ev_if_neg (by omega) (ev_now fun _ => rfl)
theorem nlS {kn : List S164} {br : List S115} {w : List (List S113)} {bs : List Int} (o : WOk kn br w bs) (hw : Short w) : Ev (fun k => spec_NeedlessStays.l0 k w bs [] 0 kn br) (nlT kn br w bs bs.length, 0) := by
 have h8 := o.b8
 refine loop_up' (fun k i => spec_NeedlessStays.l0 k w bs (nlT kn br w bs i) (i : Int) kn br) bs.length _ (fun _ => True) (fun i hi _ => .inl ⟨trivial, fun hn => ?_⟩) (fun _ => ?_) bs.length 0 (by omega) (by omega) trivial
 ·have hs := woB_sub bs (bs.getD i 0)
  have hsl := hs.length_le
  have hl := looseS o.f o.l (o.b.sub hs) (by omega) hw.1
  have hlen := nlT_len kn br w bs i
  rw [nlT_next kn br w bs i hi] at hn
  have ht : (bs.take i).length ≤ 8 := by rw [List.length_take]; omega
  have hd : (bs.drop (i + 1)).length ≤ 8 := by rw [List.length_drop]; omega
  refine ev_succ ?_
  simp only [spec_NeedlessStays.l0]
  rw [succ_cast i (by omega), rd_nat]
  simp only [Int.toNat_natCast]
  rw [ownE _ (by omega)]
  refine ev_if_pos (by omega) (ev_if_pos (by omega) (ev_if_pos (by omega) ?_))
  simp only [Option.bind_some]
  refine ev_if_pos (by omega) (ev_if_pos (by omega) (ev_if_pos (by omega) ?_))
  rw [← woB_at o.b i hi]
  refine ev_bind hl ?_
  by_cases h : looseA kn br (woB bs (bs.getD i 0)) w 0 < 0
  ·rw [if_pos h] at hn
   exact ev_if_pos h (ev_if_pos (by omega) hn)
  ·rw [if_neg h] at hn
   exact ev_if_neg h hn
 ·refine ev_succ ?_
  simp only [spec_NeedlessStays.l0]
  exact ev_if_neg (by omega) (ev_now fun _ => rfl)
theorem needlessE (kn : List S164) (br : List S115) (w : List (List S113)) (bs : List Int) (hb : bs.length ≤ 1048576) (hw : Short w) :
  ∃ R : List Int × Int, Ev (fun k => spec_NeedlessStays.f k kn br w bs) R ∧ Ev (fun k => impl_NeedlessStays.f k kn br w bs) R ∧ R.1.length ≤ 1048576 := by
 have cS := windsS kn br w bs hb hw
 have cI := windsI kn br w bs hb hw
 unfold spec_NeedlessStays.f impl_NeedlessStays.f
 by_cases h0 : windR kn br w bs = 0
 ·have o := WOk.of h0
  have lS := looseS o.f o.l o.b o.b8 hw.1
  have lI := looseI o.f o.l o.b o.b8 hw.1
  by_cases hL : looseA kn br bs w 0 ≥ 0
  ·exact ⟨([], 10), ev_bind cS (ev_if_pos h0 (ev_bind lS (ev_if_pos hL (ev_now fun _ => rfl)))), ev_bind cI (ev_if_pos h0 (ev_bind lI (ev_if_pos hL (ev_now fun _ => rfl)))), by simp⟩
  ·exact ⟨(nlT kn br w bs bs.length, 0), ev_bind cS (ev_if_pos h0 (ev_bind lS (ev_if_neg hL (nlS o hw)))), ev_bind cI (ev_if_pos h0 (ev_bind lI (ev_if_neg hL (nlI o hw)))), by have := nlT_len kn br w bs bs.length; show (nlT kn br w bs bs.length).length ≤ _; omega⟩
 ·exact ⟨([], windR kn br w bs), ev_bind cS (ev_if_neg h0 (ev_now fun _ => rfl)), ev_bind cI (ev_if_neg h0 (ev_now fun _ => rfl)), by simp⟩
theorem FnExactNeedlessStays : Say.FnExactNeedlessStays := by
 intro kn br ws bs hk hb hw hs
 apply Ev.rounds
 unfold laws_FnExactNeedlessStays.f
 have m1 := hk.1
 have m2 := hb.1
 have m3 := hw.1
 have mx : maxLen ≤ 9223372036854775807 := by decide
 have m4 : ∀ row ∈ ws, row.length ≤ 9223372036854775807 := fun row h => by have := (hw.2 row h).1; omega
 by_cases h0 : (bs.length : Int) > 1048576
 ·exact ev_if_pos h0 (ev_now fun _ => rfl)
 refine ev_if_neg h0 ?_
 have hbs : bs.length ≤ 1048576 := by omega
 obtain ⟨r1, e1, g1⟩ := szFr kn br 1048576 (by decide) (by decide) (by omega) (by omega)
 refine ev_bind (ev_const e1) ?_
 by_cases hr1 : r1 < 0
 ·exact ev_if_pos hr1 (ev_now fun _ => rfl)
 refine ev_if_neg hr1 ?_
 obtain ⟨hk1, hb1, hr1b⟩ := g1 hr1
 obtain ⟨r2, e2, _, g2⟩ := szSS ws r1 (by omega) hr1b (by omega) m4
 refine ev_bind e2 ?_
 by_cases hr2 : r2 < 0
 ·exact ev_if_pos hr2 (ev_now fun _ => rfl)
 refine ev_if_neg hr2 ?_
 obtain ⟨hl1, hl2⟩ := g2 (by omega)
 have sh := Short.map hl1 hl2
 have toF := toFr kn br hk1 hb1
 have toP := toSS ws hl1 hl2
 have toB := toI bs hbs
 obtain ⟨R, cS, cI, hR⟩ := needlessE (kn.map kV) (br.map bV) (ws.map (List.map pV)) bs hbs sh
 have eqR := eqI R.1 (by omega)
 refine ev_bind toF (ev_bind toP (ev_bind toB (ev_bind cS (ev_bind toF (ev_bind toP (ev_bind toB (ev_bind cI (ev_bind eqR (ev_if_pos rfl ?_)))))))))
 rw [bne_self_eq_false]
 refine ev_succ ?_
 simp only [laws_FnExactNeedlessStays.j0]
 obtain ⟨M1, f1, b1, b2⟩ := marksFr (kn.map kV) (br.map bV) (by simpa using hk1) (by simpa using hb1)
 obtain ⟨M2, f2, b3, b4⟩ := marksPS (ws.map (List.map pV)) M1.1 sh b1 (by omega)
 have f3 := marksI bs M2.1 (by omega) (by omega)
 refine ev_if_neg Bool.false_ne_true (ev_bind toF (ev_bind (eqFr (kn.map kV) (br.map bV) (by simpa using hk1) (by simpa using hb1)) (ev_if_pos rfl (ev_bind toP (ev_bind (eqSS (ws.map (List.map pV)) sh) (ev_if_pos rfl (ev_bind toB (ev_bind (eqI bs (by omega)) (ev_if_pos rfl (ev_bind f1 (ev_bind f2 (ev_bind f3 (ev_if_neg (by show ¬ M2.1 + (bs.length : Int) < 0; omega) (ev_bind eqR (ev_if_pos rfl ?_)))))))))))))))
 rw [bne_self_eq_false]
 refine ev_succ ?_
 simp only [laws_FnExactNeedlessStays.j1]
 have f4 := marksI R.1 1 (by omega) (by omega)
 have f5 := heldI R.1.length 1 (by omega) (by omega)
 refine ev_if_neg Bool.false_ne_true (ev_bind f4 (ev_bind f5 (ev_if_neg (by omega) (ev_if_pos rfl (ev_bind toF (ev_bind toP (ev_bind toB (ev_bind cI (ev_bind eqR (ev_if_pos rfl ?_))))))))))
 rw [bne_self_eq_false]
 refine ev_succ ?_
 simp only [laws_FnExactNeedlessStays.j2]
 exact ev_if_neg Bool.false_ne_true (ev_bind f5 (ev_if_neg (by omega) (ev_if_pos rfl (ev_now fun _ => rfl))))
end Go.Proofs.Ytimjblgepbhoaaa.Pure

