import Derived.Test.YtimjblgepbhoaaaHStays0
import Derived.Test.YtimjblgepbhoaaaPlain
import Derived.Test.YtimjblgepbhoaaaHStaysc
import Derived.Test.YtimjblgepbhoaaaHStaysn
import Derived.Test.YtimjblgepbhoaaaHStaysv
import Derived.Test.YtimjblgepbhoaaaHStaysx
import Derived.Test.YtimjblgepbhoaaaPureStaysA
import Derived.Test.YtimjblgepbhoaaaPureStaysC
import Derived.Test.YtimjblgepbhoaaaPureStaysF
import Derived.Test.YtimjblgepbhoaaaPureStaysN
namespace Go.Proofs.Ytimjblgepbhoaaa.Pure
open Go.RowKit Go.Proofs.Ytimjblgepbhoaaa.PStays Go.Proofs.Ytimjblgepbhoaaa.Plain Go.Proofs.YtimjblgepbhoaaaW.PrintWords Go.Proofs.YtimjblgepbhoaaaW.PrintMore
set_option linter.unusedVariables false
set_option linter.unusedSimpArgs false
open Classical in
noncomputable def fewT (kn : List S164) (br : List S115) (ld : List S113) (al : List Int) : Nat → List Int × Bool
 | 0 => ([], false)
 | t + 1 => if (fewT kn br ld al t).2 = true ∧ lessB (sel al t) (fewT kn br ld al t).1 = false then fewT kn br ld al t else if Holds kn br ld (sel al t) then (sel al t, true) else fewT kn br ld al t
open Classical in
theorem few_succ (kn : List S164) (br : List S115) (ld : List S113) (al : List Int) (t : Nat) : fewT kn br ld al (t + 1) = if (fewT kn br ld al t).2 = true ∧ lessB (sel al t) (fewT kn br ld al t).1 = false then fewT kn br ld al t else if Holds kn br ld (sel al t) then (sel al t, true) else fewT kn br ld al t := rfl
theorem few_inv (kn : List S164) (br : List S115) (ld : List S113) (al : List Int) : ∀ t,
  ((fewT kn br ld al t).2 = false → ∀ u, u < t → ¬ Holds kn br ld (sel al u)) ∧
  ((fewT kn br ld al t).2 = true → (∃ u, u < t ∧ (fewT kn br ld al t).1 = sel al u) ∧ Holds kn br ld (fewT kn br ld al t).1 ∧ ∀ u, u < t → Holds kn br ld (sel al u) → lessB (sel al u) (fewT kn br ld al t).1 = false)
 | 0 => ⟨fun _ u hu => by omega, fun h => by simp [fewT] at h⟩
 | t + 1 => by
  obtain ⟨i1, i2⟩ := few_inv kn br ld al t
  rw [few_succ]
  by_cases c1 : (fewT kn br ld al t).2 = true ∧ lessB (sel al t) (fewT kn br ld al t).1 = false
  ·rw [if_pos c1]
   refine ⟨fun h => by rw [c1.1] at h; exact absurd h (by decide), fun h => ?_⟩
   obtain ⟨⟨u, hu, e⟩, j2, j3⟩ := i2 h
   refine ⟨⟨u, by omega, e⟩, j2, fun v hv hh => ?_⟩
   rcases Nat.lt_or_ge v t with h1 | h1
   ·exact j3 v h1 hh
   ·obtain rfl : v = t := by omega
    exact c1.2
  ·rw [if_neg c1]
   by_cases c2 : Holds kn br ld (sel al t)
   ·rw [if_pos c2]
    refine ⟨fun h => (Bool.false_ne_true h.symm).elim, fun _ => ⟨⟨t, by omega, rfl⟩, c2, fun v hv hh => ?_⟩⟩
    rcases Bool.eq_false_or_eq_true (lessB (sel al v) (sel al t)) with h5 | h5
    ·exfalso
     rcases Nat.lt_or_ge v t with h1 | h1
     ·rcases Bool.eq_false_or_eq_true (fewT kn br ld al t).2 with h6 | h6
      ·obtain ⟨_, _, j3⟩ := i2 h6
       have h7 : lessB (sel al t) (fewT kn br ld al t).1 = true := by
        rcases Bool.eq_false_or_eq_true (lessB (sel al t) (fewT kn br ld al t).1) with h8 | h8
        ·exact h8
        ·exact absurd ⟨h6, h8⟩ c1
       have h9 := j3 v h1 hh
       rw [lessB_trans h5 h7] at h9
       exact absurd h9 (by decide)
      ·exact i1 h6 v h1 hh
     ·obtain rfl : v = t := by omega
      have key : ∀ a : List Int, lexB a a = false := by
       intro a
       induction a with
       | nil => rfl
       | cons x a ih => simp only [lexB, if_pos]; exact ih
      have h6 : lessB (sel al v) (sel al v) = false := by unfold lessB; rw [if_pos rfl]; exact key _
      rw [h6] at h5
      exact absurd h5 (by decide)
    ·exact h5
   ·rw [if_neg c2]
    refine ⟨fun h v hv => ?_, fun h => ?_⟩
    ·rcases Nat.lt_or_ge v t with h1 | h1
     ·exact i1 h v h1
     ·obtain rfl : v = t := by omega
      exact c2
    ·obtain ⟨⟨u, hu, e⟩, j2, j3⟩ := i2 h
     refine ⟨⟨u, by omega, e⟩, j2, fun v hv hh => ?_⟩
     rcases Nat.lt_or_ge v t with h1 | h1
     ·exact j3 v h1 hh
     ·obtain rfl : v = t := by omega
      exact absurd hh c2
theorem fewS {kn : List S164} {br : List S115} {ld : List S113} (f : FrOk kn br) (l : LdOk kn ld) : Ev (fun k => spec_l11Fewest.f k kn br ld) (fewT kn br ld (allB br.length) (2 ^ br.length)) := by
 have h8 := f.b8
 have hall := allB_ok br
 have hlen := allB_len br.length
 unfold spec_l11Fewest.f
 refine ev_bind (allS kn h8) ?_
 have hu := u64_is (n := (allB br.length).length) (by rw [hlen]; exact h8)
 have hpart : ∀ t : Nat, t < 2 ^ (allB br.length).length → Ev (fun k => spec_l11Part.f k (allB br.length) (t : Int)) (sel (allB br.length) t) := fun t ht => partE (by rw [hlen]; exact h8) ht
 have h256 := pow8 h8
 rw [show 2 ^ (allB br.length).length = 2 ^ br.length from by rw [hlen]] at hu hpart
 generalize 2 ^ br.length = NN at hu hpart h256
 generalize hal : allB br.length = al at hu hpart hall hlen
 refine loop_up' (fun k t => spec_l11Fewest.l0 k ld al (fewT kn br ld al t).1 (fewT kn br ld al t).2 (t : Int) kn br) NN _ (fun _ => True) (fun t ht _ => .inl ⟨trivial, fun hn => ?_⟩) (fun _ => ?_) NN 0 (Nat.sub_zero NN) (Nat.zero_le NN) trivial
 ·have hs := sel_sub al t
  have hsl : (sel al t).length ≤ 8 := by have := hs.length_le; omega
  obtain ⟨ri, rs, _, h2, _, _⟩ := holdE f l (hall.sub hs) hsl
  have hH : Holds kn br ld (sel al t) ↔ rs.2.2 = true := ⟨fun ⟨r, q1, q2⟩ => by rw [ev_uniq h2 q1]; exact q2, fun h => ⟨rs, h2, h⟩⟩
  have stepj : (¬ ((fewT kn br ld al t).2 = true ∧ lessB (sel al t) (fewT kn br ld al t).1 = false)) → Ev (fun k => spec_l11Fewest.j1 k ld al (fewT kn br ld al t).1 (fewT kn br ld al t).2 (t : Int) (sel al t) false kn br) (fewT kn br ld al NN) := by
   intro c1
   rw [few_succ] at hn
   rw [if_neg c1] at hn
   refine ev_succ ?_
   simp only [spec_l11Fewest.j1]
   rw [succ_cast t (by omega)]
   refine ev_if_neg Bool.false_ne_true (ev_bind h2 ?_)
   by_cases c2 : rs.2.2 = true
   ·rw [if_pos (hH.2 c2)] at hn
    exact ev_if_pos c2 hn
   ·rw [if_neg (fun h => c2 (hH.1 h))] at hn
    exact ev_if_neg c2 hn
  refine ev_succ ?_
  simp only [spec_l11Fewest.l0]
  rw [hu.2]
  refine ev_if_pos hu.1 (ev_if_pos (by omega) (ev_bind (hpart t ht) ?_))
  cases hf : (fewT kn br ld al t).2 with
  | true =>
   refine ev_if_pos rfl (ev_bind (lessE (by omega)) ?_)
   cases hq : lessB (sel al t) (fewT kn br ld al t).1 with
   | true =>
    have := stepj (fun h => by rw [hq] at h; exact absurd h.2 (by decide))
    rw [hf] at this
    exact this
   | false =>
    rw [few_succ] at hn
    rw [if_pos ⟨hf, hq⟩, hf] at hn
    refine ev_succ ?_
    simp only [spec_l11Fewest.j1]
    rw [succ_cast t (by omega)]
    exact ev_if_pos rfl hn
  | false =>
   have := stepj (fun h => by rw [hf] at h; exact absurd h.1 (by decide))
   rw [hf] at this
   exact ev_if_neg Bool.false_ne_true this
 ·refine ev_succ ?_
  simp only [spec_l11Fewest.l0]
  rw [hu.2]
  exact ev_if_pos hu.1 (ev_if_neg (by omega) (ev_now fun _ => rfl))
theorem few_is (kn : List S164) {br : List S115} (ld : List S113) (h8 : br.length ≤ 8) :
  ((fewT kn br ld (allB br.length) (2 ^ br.length)).2 = true → (fewT kn br ld (allB br.length) (2 ^ br.length)).1.Sublist (allB br.length) ∧ Holds kn br ld (fewT kn br ld (allB br.length) (2 ^ br.length)).1 ∧ ∀ s, s.Sublist (allB br.length) → Holds kn br ld s → lessB s (fewT kn br ld (allB br.length) (2 ^ br.length)).1 = false) ∧
  ((fewT kn br ld (allB br.length) (2 ^ br.length)).2 = false → ∀ s, s.Sublist (allB br.length) → ¬ Holds kn br ld s) := by
 obtain ⟨i1, i2⟩ := few_inv kn br ld (allB br.length) (2 ^ br.length)
 have hsel : ∀ s : List Int, s.Sublist (allB br.length) → ∃ t : Nat, t < 2 ^ br.length ∧ sel (allB br.length) t = s := fun s hs => by
  have := sub_sel hs
  rwa [allB_len] at this
 refine ⟨fun h => ?_, fun h s hs hh => ?_⟩
 ·obtain ⟨⟨u, _, e⟩, j2, j3⟩ := i2 h
  refine ⟨by rw [e]; exact sel_sub _ _, j2, fun s hs hh => ?_⟩
  obtain ⟨t, ht, rfl⟩ := hsel s hs
  exact j3 t ht hh
 ·obtain ⟨t, ht, rfl⟩ := hsel s hs
  exact i1 h t ht hh
noncomputable def holdR (kn : List S164) (br : List S115) (ld : List S113) : List Int × Int := if (fewT kn br ld (allB br.length) (2 ^ br.length)).2 = true then ((fewT kn br ld (allB br.length) (2 ^ br.length)).1, 0) else ([], 10)
theorem fewI {kn : List S164} {br : List S115} {ld : List S113} (f : FrOk kn br) (l : LdOk kn ld) : Ev (fun k => impl_HoldingBars.l0 k ld (barsOf (allB br.length)) ((barsOf (allB br.length)).length : Int) 0 kn br) (holdR kn br ld) := by
 have h8 := f.b8
 have hall := allB_ok br
 have hbl := barsOf_len (bs := allB br.length) (by rw [allB_len]; exact h8)
 have hso := bars_sorted h8
 obtain ⟨w1, w2⟩ := few_is kn (br := br) ld h8
 have hsb : ∀ s, s ∈ barsOf (allB br.length) ↔ s.Sublist (allB br.length) := fun s => bars_sub
 have hlen := allB_len br.length
 unfold holdR
 generalize fewT kn br ld (allB br.length) (2 ^ br.length) = T at w1 w2
 generalize barsOf (allB br.length) = L at hbl hso hsb
 refine loop_up' (fun k p => impl_HoldingBars.l0 k ld L (L.length : Int) (p : Int) kn br) L.length _ (fun p => ∀ u (hu : u < L.length), u < p → ¬ Holds kn br ld L[u]) (fun p hp hI => ?_) (fun hI => ?_) L.length 0 (by omega) (by omega) (fun u _ hu => by omega)
 ·have hrd : rd_L10 L (p : Int) = L[p] := by show L.getD (Int.toNat (p : Int)) [] = _; rw [Int.toNat_natCast, List.getD_eq_getElem?_getD, List.getElem?_eq_getElem hp]; rfl
  have hs := (hsb _).1 (List.getElem_mem hp)
  obtain ⟨ri, rs, h1, h2, h3, _⟩ := holdE f l (hall.sub hs) (by have := hs.length_le; omega)
  cases hr : rs.2.2 with
  | true =>
   right
   have hh : Holds kn br ld L[p] := ⟨rs, h2, hr⟩
   have e : (if T.2 = true then (T.1, (0 : Int)) else ([], 10)) = (L[p], 0) := by
    rcases Bool.eq_false_or_eq_true T.2 with ht | ht
    ·rw [if_pos ht]
     obtain ⟨q1, q2, q3⟩ := w1 ht
     obtain ⟨q, hq, eq⟩ := List.getElem_of_mem ((hsb _).2 q1)
     rcases Nat.lt_trichotomy q p with h | h | h
     ·exact absurd (by rw [eq]; exact q2) (hI q hq h)
     ·subst h; rw [← eq]
     ·have := List.pairwise_iff_getElem.1 hso p q hp hq h
      rw [eq, q3 _ hs hh] at this
      exact absurd this (by decide)
    ·exact absurd hh (w2 ht _ hs)
   rw [e]
   refine ev_succ ?_
   simp only [impl_HoldingBars.l0]
   rw [hrd]
   exact ev_if_pos (by omega) (ev_if_pos (by omega) (ev_if_pos (by omega) (ev_bind h1 (ev_if_pos (h3.trans hr) (ev_now fun _ => rfl)))))
  | false =>
   left
   refine ⟨fun u hu hup => ?_, fun hn => ?_⟩
   ·rcases Nat.lt_or_ge u p with h | h
    ·exact hI u hu h
    ·obtain rfl : u = p := by omega
     rintro ⟨r, hr1, hr2⟩
     rw [ev_uniq hr1 h2, hr] at hr2
     exact Bool.false_ne_true hr2
   ·refine ev_succ ?_
    simp only [impl_HoldingBars.l0]
    rw [hrd, succ_cast p (by omega)]
    exact ev_if_pos (by omega) (ev_if_pos (by omega) (ev_if_pos (by omega) (ev_bind h1 (ev_if_neg (by rw [h3, hr]; exact Bool.false_ne_true) hn))))
 ·have e : T.2 = false := by
   rcases Bool.eq_false_or_eq_true T.2 with ht | ht
   ·obtain ⟨q1, q2, _⟩ := w1 ht
    obtain ⟨q, hq, eq⟩ := List.getElem_of_mem ((hsb _).2 q1)
    exact absurd (by rw [eq]; exact q2) (hI q hq hq)
   ·exact ht
  rw [if_neg (by rw [e]; exact Bool.false_ne_true)]
  refine ev_succ ?_
  simp only [impl_HoldingBars.l0]
  exact ev_if_neg (by omega) (ev_now fun _ => rfl)
theorem holdingI (kn : List S164) (br : List S115) (ld : List S113) (hl : ld.length ≤ 1048576) : Ev (fun k => impl_HoldingBars.f k kn br ld) (if (frB kn br && ldB kn ld) = true then holdR kn br ld else ([], 1)) := by
 unfold impl_HoldingBars.f
 refine ev_bind (loadsI kn br ld hl) ?_
 by_cases h1 : (frB kn br && ldB kn ld) = true
 ·rw [if_pos h1]
  have h1' := h1
  rw [Bool.and_eq_true] at h1'
  have f := FrOk.of (frB_is h1'.1)
  have hbl := barsOf_len (bs := allB br.length) (by rw [allB_len]; exact f.b8)
  have h8 := f.b8
  refine ev_if_pos h1 (ev_bind (allI kn f.b8) (ev_bind (a := barsOf (allB br.length)) ?_ (fewI f (LdOk.of (ldB_is h1'.2)))))
  unfold impl_barLists.f
  exact ev_if_pos ⟨by rw [allB_len]; omega, hbl⟩ (ev_now fun _ => rfl)
 ·rw [if_neg h1]
  exact ev_if_neg h1 (ev_now fun _ => rfl)
theorem bs0 (br : List S115) : bsB br [] = true := bsB_yes (fun i hi => absurd hi (Nat.not_lt_zero i))
theorem code0 (kn : List S164) (br : List S115) (ld : List S113) (hl : ld.length ≤ 1048576) : Ev (fun k => spec_l11Code.f k kn br ld []) (if (frB kn br && ldB kn ld) = true then 0 else 1) := by
 have h := codeE kn br ld [] hl (by simp)
 rw [if_pos (bs0 br)] at h
 exact h
theorem holdR_yes {kn : List S164} {br : List S115} {ld : List S113} (h : (fewT kn br ld (allB br.length) (2 ^ br.length)).2 = true) : holdR kn br ld = ((fewT kn br ld (allB br.length) (2 ^ br.length)).1, 0) := if_pos h
theorem holdR_no {kn : List S164} {br : List S115} {ld : List S113} (h : ¬ (fewT kn br ld (allB br.length) (2 ^ br.length)).2 = true) : holdR kn br ld = ([], 10) := if_neg h
theorem holdR_len (kn : List S164) {br : List S115} (ld : List S113) (h8 : br.length ≤ 8) : (holdR kn br ld).1.length ≤ 8 := by
 unfold holdR
 obtain ⟨w1, _⟩ := few_is kn (br := br) ld h8
 by_cases h : (fewT kn br ld (allB br.length) (2 ^ br.length)).2 = true
 ·rw [if_pos h]
  have := (w1 h).1.length_le
  rw [allB_len] at this
  exact Nat.le_trans this h8
 ·rw [if_neg h]; simp
end Go.Proofs.Ytimjblgepbhoaaa.Pure

