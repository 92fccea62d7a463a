import Derived.Test.YtimjblgepbhoaaaSayFnExactFewestStays
import Derived.Test.YtimjblgepbhoaaaPlain
import Derived.Test.YtimjblgepbhoaaaPureStaysA
import Derived.Test.YtimjblgepbhoaaaPureStaysC
import Derived.Test.YtimjblgepbhoaaaPureStaysF
import Derived.Test.YtimjblgepbhoaaaPureStaysL
import Derived.Test.YtimjblgepbhoaaaPureStaysM
import Derived.Test.YtimjblgepbhoaaaPureStaysR
import Derived.Test.YtimjblgepbhoaaaPureStaysT
import Derived.Test.YtimjblgepbhoaaaPureStaysW
namespace Go.Proofs.Ytimjblgepbhoaaa.Pure
open Go.RowKit Go.Proofs.Ytimjblgepbhoaaa.PStays Go.Proofs.Ytimjblgepbhoaaa.Plain Go.Proofs.YtimjblgepbhoaaaW.PrintWords Go.Proofs.YtimjblgepbhoaaaW.PrintMore
set_option linter.unusedVariables false
set_option linter.unusedSimpArgs false
theorem windB {kn : List S164} {br : List S115} {w : List (List S113)} (hw : Short w) : Ev (fun k => spec_l11Winds.f k kn br w []) (windR kn br w []) ∧ Ev (fun k => impl_windsCode.f k kn br w []) (windR kn br w []) := ⟨windsS kn br w [] (by simp) hw, windsI kn br w [] (by simp) hw⟩
noncomputable def fewestR (kn : List S164) (br : List S115) (w : List (List S113)) : List Int × Int := if (fewT (fun s => allW kn br w s = true) (allB br.length) (2 ^ br.length)).2 = true then ((fewT (fun s => allW kn br w s = true) (allB br.length) (2 ^ br.length)).1, 0) else ([], 10)
theorem fewestS0 {kn : List S164} {br : List S115} {w : List (List S113)} (h8 : br.length ≤ 8) : Ev (fun k => spec_FewestStays.l0 k (allB br.length) (tb (2 ^ br.length) (fun u => allW kn br w (sel (allB br.length) u))) [] false 0) (fewestR kn br w) := by
 have hlen := allB_len br.length
 have h256 := pow8 h8
 have hpart : ∀ t : Nat, t < 2 ^ br.length → Ev (fun k => spec_l11Part.f k (allB br.length) (t : Int)) (sel (allB br.length) t) := fun t ht => partE (by rw [hlen]; exact h8) (by rw [hlen]; exact ht)
 have hsl : ∀ t, (sel (allB br.length) t).length ≤ 8 := fun t => by have := (sel_sub (allB br.length) t).length_le; omega
 have hsu := few_succ (fun s => allW kn br w s = true) (allB br.length)
 unfold fewestR
 generalize hT : fewT (fun s => allW kn br w s = true) (allB br.length) = T at hsu
 generalize allB br.length = al at hpart hsl hsu
 have hT0 : T 0 = ([], false) := by rw [← hT]; rfl
 generalize 2 ^ br.length = N at hpart h256
 refine Eq.mp (by rw [hT0]; rfl) (loop_up' (fun k t => spec_FewestStays.l0 k al (tb N (fun u => allW kn br w (sel al u))) (T t).1 (T t).2 (t : Int)) N (if (T N).2 = true then ((T N).1, (0 : Int)) else ([], 10)) (fun _ => True) (fun t ht _ => .inl ⟨trivial, fun hn => ?_⟩) (fun _ => ?_) N 0 (by omega) (by omega) trivial)
 ·refine ev_succ ?_
  simp only [spec_FewestStays.l0]
  rw [tb_len, tb_at ht, succ_cast t (by omega)]
  refine ev_if_pos (by omega) (ev_bind (hpart t ht) (ev_if_pos (by omega) ?_))
  rw [hsu t] at hn
  by_cases c : allW kn br w (sel al t) = true
  ·refine ev_if_pos c ?_
   rw [if_pos c] at hn
   cases hf : (T t).2 with
   | true =>
    refine ev_if_pos rfl (ev_bind (lessE (by have := hsl t; omega)) ?_)
    cases hq : lessB (sel al t) (T t).1 with
    | true =>
     rw [if_neg (fun h => by rw [hq] at h; exact absurd h.2 (by decide))] at hn
     exact ev_if_pos rfl hn
    | false =>
     rw [if_pos ⟨hf, hq⟩, hf] at hn
     exact ev_if_neg Bool.false_ne_true hn
   | false =>
    rw [if_neg (fun h => by rw [hf] at h; exact absurd h.1 (by decide))] at hn
    exact ev_if_neg Bool.false_ne_true hn
  ·refine ev_if_neg c ?_
   rw [if_neg c, ite_self] at hn
   exact hn
 ·refine ev_succ ?_
  simp only [spec_FewestStays.l0]
  rw [tb_len]
  refine ev_if_neg (by omega) ?_
  cases hf : (T N).2 with
  | true => exact ev_if_pos rfl (ev_now fun _ => rfl)
  | false => exact ev_if_neg Bool.false_ne_true (ev_now fun _ => rfl)
theorem fewestI0 {kn : List S164} {br : List S115} {w : List (List S113)} (f : FrOk kn br) (l : ∀ x ∈ w, LdOk kn x) (hw : w.length ≤ 1048576) : Ev (fun k => impl_FewestStays.l0 k w (barsOf (allB br.length)) ((barsOf (allB br.length)).length : Int) 0 kn br) (fewestR kn br w) := by
 have h8 := f.b8
 have hall := allB_ok br
 have hbl := barsOf_len (bs := allB br.length) (by rw [allB_len]; exact h8)
 have hlen := allB_len br.length
 have H1 : ∀ p (hp : p < (barsOf (allB br.length)).length), (∀ u (hu : u < (barsOf (allB br.length)).length), u < p → ¬ allW kn br w (barsOf (allB br.length))[u] = true) → allW kn br w (barsOf (allB br.length))[p] = true → fewestR kn br w = ((barsOf (allB br.length))[p], 0) := fun p hp hI hh => by
  obtain ⟨e1, e2⟩ := few_first (P := fun s => allW kn br w s = true) h8 hp hI hh
  unfold fewestR
  rw [if_pos e1, e2]
 have H2 : (∀ u (hu : u < (barsOf (allB br.length)).length), ¬ allW kn br w (barsOf (allB br.length))[u] = true) → fewestR kn br w = ([], 10) := fun hI => by
  unfold fewestR
  rw [if_neg (by rw [few_none (P := fun s => allW kn br w s = true) hI]; exact Bool.false_ne_true)]
 have hsb : ∀ s, s ∈ barsOf (allB br.length) → s.Sublist (allB br.length) := fun s h => bars_sub.1 h
 generalize fewestR kn br w = T at H1 H2
 generalize barsOf (allB br.length) = L at hbl H1 H2 hsb
 refine loop_up' (fun k p => impl_FewestStays.l0 k w L (L.length : Int) (p : Int) kn br) L.length _ (fun p => ∀ u (hu : u < L.length), u < p → ¬ allW kn br w L[u] = true) (fun p hp hI => ?_) (fun hI => ?_) L.length 0 (by omega) (by omega) (fun u _ hu => by omega)
 ·have hrd : rd_L10 L (p : Int) = L[p] := by show L.getD (Int.toNat (p : Int)) [] = _; rw [Int.toNat_natCast, List.getD_eq_getElem?_getD, List.getElem?_eq_getElem hp]; rfl
  have hs := hsb _ (List.getElem_mem hp)
  have hl := looseI f l (hall.sub hs) (by have := hs.length_le; omega) hw
  have ha := loose_all kn br L[p] w 0
  by_cases c : looseA kn br L[p] w 0 < 0
  ·right
   rw [H1 p hp hI (ha.1 c)]
   refine ev_succ ?_
   simp only [impl_FewestStays.l0]
   rw [hrd]
   exact ev_if_pos (by omega) (ev_if_pos (by omega) (ev_if_pos (by omega) (ev_bind hl (ev_if_pos c (ev_now fun _ => rfl)))))
  ·left
   refine ⟨fun u hu hup => ?_, fun hn => ?_⟩
   ·rcases Nat.lt_or_ge u p with h | h
    ·exact hI u hu h
    ·obtain rfl : u = p := by omega
     exact fun h => c (ha.2 h)
   ·refine ev_succ ?_
    simp only [impl_FewestStays.l0]
    rw [hrd, succ_cast p (by omega)]
    exact ev_if_pos (by omega) (ev_if_pos (by omega) (ev_if_pos (by omega) (ev_bind hl (ev_if_neg c hn))))
 ·rw [H2 (fun u hu => hI u hu hu)]
  refine ev_succ ?_
  simp only [impl_FewestStays.l0]
  exact ev_if_neg (by omega) (ev_now fun _ => rfl)
theorem fewestE (kn : List S164) (br : List S115) (w : List (List S113)) (hw : Short w) : ∃ R : List Int × Int, Ev (fun k => spec_FewestStays.f k kn br w) R ∧ Ev (fun k => impl_FewestStays.f k kn br w) R ∧ R.1.length ≤ 1048576 := by
 obtain ⟨cS, cI⟩ := windB (kn := kn) (br := br) hw
 unfold spec_FewestStays.f impl_FewestStays.f
 by_cases h0 : windR kn br w [] = 0
 ·have o := WOk.of h0
  have h8 := o.f.b8
  have hbl := barsOf_len (bs := allB br.length) (by rw [allB_len]; exact h8)
  refine ⟨fewestR kn br w, ev_bind cS (ev_if_pos h0 (ev_bind (allS kn h8) (ev_bind (tableE o.f o.l hw.1) (fewestS0 h8)))), ev_bind cI (ev_if_pos h0 (ev_bind (allI kn h8) (ev_bind (a := barsOf (allB br.length)) ?_ (fewestI0 o.f o.l hw.1)))), ?_⟩
  ·unfold impl_barLists.f
   exact ev_if_pos ⟨by rw [allB_len]; omega, hbl⟩ (ev_now fun _ => rfl)
  ·unfold fewestR
   obtain ⟨w1, _⟩ := few_is (fun s => allW kn br w s = true) br.length
   by_cases h : (fewT (fun s => allW kn br w s = true) (allB br.length) (2 ^ br.length)).2 = true
   ·rw [if_pos h]
    have := (w1 h).1.length_le
    rw [allB_len] at this
    show (fewT (fun s => allW kn br w s = true) (allB br.length) (2 ^ br.length)).1.length ≤ _
    omega
   ·rw [if_neg h]; simp
 ·exact ⟨([], windR kn br w []), ev_bind cS (ev_if_neg h0 (ev_now fun _ => rfl)), ev_bind cI (ev_if_neg h0 (ev_now fun _ => rfl)), by simp⟩
theorem FnExactFewestStays : Say.FnExactFewestStays := by
 intro kn br ws hk hb hw
 apply Ev.rounds
 unfold laws_FnExactFewestStays.f
 have m1 := hk.1
 have m2 := hb.1
 have m3 := hw.1
 have mx : maxLen ≤ 9223372036854775807 := by decide
 have m4 : ∀ row ∈ ws, row.length ≤ 9223372036854775807 := fun row h => by have := (hw.2 row h).1; omega
 obtain ⟨r1, e1, g1⟩ := szFr kn br 1048576 (by decide) (by decide) (by omega) (by omega)
 refine ev_bind (ev_const e1) ?_
 by_cases hr1 : r1 < 0
 ·exact ev_if_pos hr1 (ev_now fun _ => rfl)
 refine ev_if_neg hr1 ?_
 obtain ⟨hk1, hb1, hr1b⟩ := g1 hr1
 obtain ⟨r2, e2, _, g2⟩ := szSS ws r1 (by omega) hr1b (by omega) m4
 refine ev_bind e2 ?_
 by_cases hr2 : r2 < 0
 ·exact ev_if_pos hr2 (ev_now fun _ => rfl)
 refine ev_if_neg hr2 ?_
 obtain ⟨hl1, hl2⟩ := g2 (by omega)
 have sh := Short.map hl1 hl2
 have toF := toFr kn br hk1 hb1
 have toP := toSS ws hl1 hl2
 obtain ⟨R, cS, cI, hR⟩ := fewestE (kn.map kV) (br.map bV) (ws.map (List.map pV)) sh
 have eqR := eqI R.1 (by omega)
 refine ev_bind toF (ev_bind toP (ev_bind cS (ev_bind toF (ev_bind toP (ev_bind cI (ev_bind eqR (ev_if_pos rfl ?_)))))))
 rw [bne_self_eq_false]
 refine ev_succ ?_
 simp only [laws_FnExactFewestStays.j0]
 obtain ⟨M1, f1, b1, b2⟩ := marksFr (kn.map kV) (br.map bV) (by simpa using hk1) (by simpa using hb1)
 obtain ⟨M2, f2, b3, b4⟩ := marksPS (ws.map (List.map pV)) M1.1 sh b1 (by omega)
 refine ev_if_neg Bool.false_ne_true (ev_bind toF (ev_bind (eqFr (kn.map kV) (br.map bV) (by simpa using hk1) (by simpa using hb1)) (ev_if_pos rfl (ev_bind toP (ev_bind (eqSS (ws.map (List.map pV)) sh) (ev_if_pos rfl (ev_bind f1 (ev_bind f2 (ev_if_neg (by omega) (ev_bind eqR (ev_if_pos rfl ?_)))))))))))
 rw [bne_self_eq_false]
 refine ev_succ ?_
 simp only [laws_FnExactFewestStays.j1]
 have f4 := marksI R.1 1 (by omega) (by omega)
 have f5 := heldI R.1.length 1 (by omega) (by omega)
 refine ev_if_neg Bool.false_ne_true (ev_bind f4 (ev_bind f5 (ev_if_neg (by omega) (ev_if_pos rfl (ev_bind toF (ev_bind toP (ev_bind cI (ev_bind eqR (ev_if_pos rfl ?_)))))))))
 rw [bne_self_eq_false]
 refine ev_succ ?_
 simp only [laws_FnExactFewestStays.j2]
 exact ev_if_neg Bool.false_ne_true (ev_bind f5 (ev_if_neg (by omega) (ev_if_pos rfl (ev_now fun _ => rfl))))
end Go.Proofs.Ytimjblgepbhoaaa.Pure

