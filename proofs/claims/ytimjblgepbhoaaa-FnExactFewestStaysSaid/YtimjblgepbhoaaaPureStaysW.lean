import Derived.Test.YtimjblgepbhoaaaHStays0
import Derived.Test.YtimjblgepbhoaaaPlain
import Derived.Test.YtimjblgepbhoaaaHStaysa
import Derived.Test.YtimjblgepbhoaaaHStaysb
import Derived.Test.YtimjblgepbhoaaaHStaysc
import Derived.Test.YtimjblgepbhoaaaHStayse
import Derived.Test.YtimjblgepbhoaaaHStayss
import Derived.Test.YtimjblgepbhoaaaPureStaysA
import Derived.Test.YtimjblgepbhoaaaPureStaysE
import Derived.Test.YtimjblgepbhoaaaPureStaysL
namespace Go.Proofs.Ytimjblgepbhoaaa.Pure
open Go.RowKit Go.Proofs.Ytimjblgepbhoaaa.PStays Go.Proofs.Ytimjblgepbhoaaa.Plain Go.Proofs.YtimjblgepbhoaaaW.PrintWords Go.Proofs.YtimjblgepbhoaaaW.PrintMore
set_option linter.unusedVariables false
set_option linter.unusedSimpArgs false
theorem rd9 (w : List (List S113)) (i : Nat) (h : i < w.length) : rd_L9 w (i : Int) = w[i] := by
 show w.getD (Int.toNat (i : Int)) [] = _
 rw [Int.toNat_natCast, List.getD_eq_getElem?_getD, List.getElem?_eq_getElem h]; rfl
noncomputable def looseA (kn : List S164) (br : List S115) (bs : List Int) : List (List S113) → Nat → Int
 | [], _ => -1
 | ld :: t, i => if canB kn br ld bs = true then looseA kn br bs t (i + 1) else (i : Int)
noncomputable def windT (kn : List S164) (br : List S115) (bs : List Int) (n : Nat) (w : List (List S113)) : Int := if w.all (fun ld => ldB kn ld) = true then (if n ≤ 4 ∧ bsB br bs = true then 0 else 2) else 1
noncomputable def windR (kn : List S164) (br : List S115) (w : List (List S113)) (bs : List Int) : Int := if frB kn br = true then windT kn br bs w.length w else 1
theorem windT_cons (kn : List S164) (br : List S115) (bs : List Int) (n : Nat) (ld : List S113) (t : List (List S113)) : windT kn br bs n (ld :: t) = if ldB kn ld = true then windT kn br bs n t else 1 := by
 unfold windT
 rw [List.all_cons]
 cases ldB kn ld <;> simp
def Short (w : List (List S113)) : Prop := w.length ≤ 1048576 ∧ ∀ x ∈ w, x.length ≤ 1048576
theorem windsS0 {kn : List S164} {br : List S115} {w : List (List S113)} {bs : List Int} (h8 : br.length ≤ 8) (hb : bs.length ≤ 1048576) (hw : Short w) : ∀ (n i : Nat), i + n = w.length → Ev (fun k => spec_l11Winds.l0 k w bs (i : Int) kn br) (windT kn br bs w.length (w.drop i)) := by
 have hwl := hw.1
 intro n
 induction n with
 | zero =>
  intro i hi
  refine ev_succ ?_
  simp only [spec_l11Winds.l0]
  rw [List.drop_eq_nil_of_le (by omega)]
  refine ev_if_neg (by omega) ?_
  unfold windT
  rw [if_pos (by rfl)]
  by_cases h4 : w.length ≤ 4
  ·have e : (if w.length ≤ 4 ∧ bsB br bs = true then (0 : Int) else 2) = if bsB br bs = true then 0 else 2 := by simp [h4]
   rw [e]
   refine ev_if_neg (by omega) (ev_bind (barsS kn bs h8 hb) ?_)
   cases hs : bsB br bs with
   | true => exact ev_if_pos rfl (ev_now fun _ => rfl)
   | false => exact ev_if_neg Bool.false_ne_true (ev_now fun _ => rfl)
  ·rw [if_neg (fun h => h4 h.1)]
   exact ev_if_pos (by omega) (ev_now fun _ => rfl)
 | succ n ih =>
  intro i hi
  have hil : i < w.length := by omega
  refine ev_succ ?_
  simp only [spec_l11Winds.l0]
  rw [List.drop_eq_getElem_cons hil, windT_cons, rd9 w i hil, succ_cast i (by omega)]
  refine ev_if_pos (by omega) (ev_if_pos (by omega) (ev_bind (loadsS kn br w[i] (hw.2 _ (List.getElem_mem hil))) ?_))
  cases hd : ldB kn w[i] with
  | true => rw [if_pos rfl]; exact ev_if_pos rfl (ih (i + 1) (by omega))
  | false => rw [if_neg Bool.false_ne_true]; exact ev_if_neg Bool.false_ne_true (ev_now fun _ => rfl)
theorem windsS (kn : List S164) (br : List S115) (w : List (List S113)) (bs : List Int) (hb : bs.length ≤ 1048576) (hw : Short w) : Ev (fun k => spec_l11Winds.f k kn br w bs) (windR kn br w bs) := by
 unfold spec_l11Winds.f windR
 have hok : Ev (fun k => spec_l09Ok.f k kn br) (frB kn br) := ev_now fun _ => rfl
 refine ev_bind hok ?_
 cases hf : frB kn br with
 | false => exact ev_if_neg Bool.false_ne_true (ev_now fun _ => rfl)
 | true => exact ev_if_pos rfl (windsS0 (frB_is hf).2.1 hb hw w.length 0 (by omega))
theorem windsI0 {kn : List S164} {br : List S115} {w : List (List S113)} {bs : List Int} (hf : frB kn br = true) (hb : bs.length ≤ 1048576) (hw : Short w) : ∀ (n i : Nat), i + n = w.length → Ev (fun k => impl_windsCode.l0 k w bs w (w.length : Int) (i : Int) kn br) (windT kn br bs w.length (w.drop i)) := by
 have hwl := hw.1
 intro n
 induction n with
 | zero =>
  intro i hi
  refine ev_succ ?_
  simp only [impl_windsCode.l0]
  rw [List.drop_eq_nil_of_le (by omega)]
  refine ev_if_neg (by omega) ?_
  unfold windT
  rw [if_pos (by rfl)]
  by_cases h4 : w.length ≤ 4
  ·have e : (if w.length ≤ 4 ∧ bsB br bs = true then (0 : Int) else 2) = if bsB br bs = true then 0 else 2 := by simp [h4]
   rw [e]
   refine ev_if_neg (by omega) (ev_bind (barsI kn bs (frB_is hf).2.1 hb) ?_)
   cases hs : bsB br bs with
   | true => exact ev_if_pos rfl (ev_now fun _ => rfl)
   | false => exact ev_if_neg Bool.false_ne_true (ev_now fun _ => rfl)
  ·rw [if_neg (fun h => h4 h.1)]
   exact ev_if_pos (by omega) (ev_now fun _ => rfl)
 | succ n ih =>
  intro i hi
  have hil : i < w.length := by omega
  have hl := loadsI kn br w[i] (hw.2 _ (List.getElem_mem hil))
  rw [hf, Bool.true_and] at hl
  refine ev_succ ?_
  simp only [impl_windsCode.l0]
  rw [List.drop_eq_getElem_cons hil, windT_cons, rd9 w i hil, succ_cast i (by omega)]
  refine ev_if_pos (by omega) (ev_if_pos (by omega) (ev_if_pos (by omega) (ev_bind hl ?_)))
  cases hd : ldB kn w[i] with
  | true => rw [if_pos rfl]; exact ev_if_pos rfl (ih (i + 1) (by omega))
  | false => rw [if_neg Bool.false_ne_true]; exact ev_if_neg Bool.false_ne_true (ev_now fun _ => rfl)
theorem windsI (kn : List S164) (br : List S115) (w : List (List S113)) (bs : List Int) (hb : bs.length ≤ 1048576) (hw : Short w) : Ev (fun k => impl_windsCode.f k kn br w bs) (windR kn br w bs) := by
 unfold impl_windsCode.f windR
 refine ev_bind (validE kn br) ?_
 cases hf : frB kn br with
 | false => exact ev_if_neg Bool.false_ne_true (ev_now fun _ => rfl)
 | true => exact ev_if_pos rfl (windsI0 hf hb hw w.length 0 (by omega))
structure WOk (kn : List S164) (br : List S115) (w : List (List S113)) (bs : List Int) : Prop where
 f : FrOk kn br
 l : ∀ x ∈ w, LdOk kn x
 b : BsOk br bs
 b8 : bs.length ≤ 8
 w4 : w.length ≤ 4
theorem WOk.of {kn : List S164} {br : List S115} {w : List (List S113)} {bs : List Int} (h : windR kn br w bs = 0) : WOk kn br w bs := by
 unfold windR windT at h
 by_cases h1 : frB kn br = true
 ·rw [if_pos h1] at h
  by_cases h2 : (w.all fun ld => ldB kn ld) = true
  ·rw [if_pos h2] at h
   by_cases h3 : w.length ≤ 4 ∧ bsB br bs = true
   ·have f := FrOk.of (frB_is h1)
    have hp := bsB_is h3.2
    exact ⟨f, fun x hx => LdOk.of (ldB_is (List.all_eq_true.mp h2 x hx)), BsOk.of hp, by have := hp.len; have := f.b8; omega, h3.1⟩
   ·rw [if_neg h3] at h; exact absurd h (by decide)
  ·rw [if_neg h2] at h; exact absurd h (by decide)
 ·rw [if_neg h1] at h; exact absurd h (by decide)
theorem looseI0 {kn : List S164} {br : List S115} {w : List (List S113)} {bs : List Int} (f : FrOk kn br) (l : ∀ x ∈ w, LdOk kn x) (b : BsOk br bs) (hb : bs.length ≤ 8) (hwl : w.length ≤ 1048576) : ∀ (n i : Nat), i + n = w.length → Ev (fun k => impl_looseWind.l0 k bs w (w.length : Int) (i : Int) kn br) (looseA kn br bs (w.drop i) i) := by
 intro n
 induction n with
 | zero =>
  intro i hi
  refine ev_succ ?_
  simp only [impl_looseWind.l0]
  rw [List.drop_eq_nil_of_le (by omega)]
  exact ev_if_neg (by omega) (ev_now fun _ => rfl)
 | succ n ih =>
  intro i hi
  have hil : i < w.length := by omega
  refine ev_succ ?_
  simp only [impl_looseWind.l0]
  rw [List.drop_eq_getElem_cons hil, rd9 w i hil, succ_cast i (by omega)]
  unfold looseA
  refine ev_if_pos (by omega) (ev_if_pos (by omega) (ev_if_pos (by omega) (ev_bind (canI f (l _ (List.getElem_mem hil)) b hb) ?_)))
  cases hd : canB kn br w[i] bs with
  | true => rw [if_pos rfl]; exact ev_if_pos rfl (ih (i + 1) (by omega))
  | false => rw [if_neg Bool.false_ne_true]; exact ev_if_neg Bool.false_ne_true (ev_now fun _ => rfl)
theorem looseI {kn : List S164} {br : List S115} {w : List (List S113)} {bs : List Int} (f : FrOk kn br) (l : ∀ x ∈ w, LdOk kn x) (b : BsOk br bs) (hb : bs.length ≤ 8) (hwl : w.length ≤ 1048576) : Ev (fun k => impl_looseWind.f k kn br w bs) (looseA kn br bs w 0) := looseI0 f l b hb hwl w.length 0 (by omega)
theorem szPl' (l : List S122) (n : Int) (h0 : 0 ≤ n) (hn : n ≤ 1048576) (hl : l.length ≤ 9223372036854775807) : laws_szPullS.f l n = some (if (l.length : Int) ≤ n then n - l.length else -1) := by
 unfold laws_szPullS.f
 rw [wrap_self (by omega)]
 by_cases h : (l.length : Int) ≤ n
 ·rw [if_neg (by omega), if_pos h]
 ·rw [if_pos (by omega), if_neg h]
theorem szSSl (es : List (List S122)) (he : es.length < 9223372036854775807) (hr : ∀ row ∈ es, row.length ≤ 9223372036854775807) : ∀ (m i : Nat) (n : Int), es.length - i = m → i ≤ es.length → 0 ≤ n → n ≤ 1048576 →
  ∃ r, Ev (fun k => laws_szPullSS.l0 k es n (i : Int)) r ∧ r ≤ n ∧ (0 ≤ r → ∀ j, i ≤ j → j < es.length → ((es.getD j []).length : Int) ≤ n) := by
 intro m
 induction m with
 | zero =>
  intro i n h1 h2 h3 h4
  refine ⟨n, ev_end (fun k => ?_), by omega, fun _ j h5 h6 => by omega⟩
  simp only [laws_szPullSS.l0]
  rw [if_neg (by omega)]
 | succ m ih =>
  intro i n h1 h2 h3 h4
  have hi : i < es.length := by omega
  have hm := hr _ (mem_getD es [] i hi)
  have hz := szPl' (es.getD i []) n h3 h4 hm
  have hs : ∀ k, laws_szPullSS.l0 (k + 1) es n (i : Int) = ((laws_szPullS.f (es.getD i []) n).bind fun t102 => (if t102 < 0 then (some (-1)) else (laws_szPullSS.l0 k es t102 ((i + 1 : Nat) : Int)))) := by
   intro k
   simp only [laws_szPullSS.l0]
   rw [if_pos (by omega), if_pos (by omega), succ_cast i (by omega)]
   simp only [rd_L7, Int.toNat_natCast]
  by_cases hc : ((es.getD i []).length : Int) ≤ n
  ·rw [if_pos hc] at hz
   obtain ⟨r, h5, h6, h7⟩ := ih (i + 1) (n - (es.getD i []).length) (by omega) (by omega) (by omega) (by omega)
   refine ⟨r, ev_step hs ?_, by omega, fun h0 j h8 h9 => ?_⟩
   ·rw [hz]
    exact ev_some (ev_if_neg (by omega) h5)
   ·rcases Nat.lt_or_ge i j with h | h
    ·have := h7 h0 j (by omega) h9
     omega
    ·obtain rfl : i = j := by omega
     exact hc
  ·rw [if_neg hc] at hz
   refine ⟨-1, ev_step hs ?_, by omega, fun h0 => by omega⟩
   rw [hz]
   exact ev_some (ev_if_pos (by omega) (ev_now fun _ => rfl))
theorem szSS (es : List (List S122)) (n : Int) (h0 : 0 ≤ n) (hn : n ≤ 1048576) (he : es.length ≤ 9223372036854775807) (hr : ∀ row ∈ es, row.length ≤ 9223372036854775807) :
  ∃ r, Ev (fun k => laws_szPullSS.f k es n) r ∧ r ≤ n ∧ (0 ≤ r → es.length ≤ 1048576 ∧ ∀ row ∈ es, row.length ≤ 1048576) := by
 unfold laws_szPullSS.f
 rw [wrap_self (by omega)]
 by_cases hc : (es.length : Int) ≤ n
 ·obtain ⟨r, h1, h2, h3⟩ := szSSl es (by omega) hr es.length 0 (n - es.length) (by omega) (by omega) (by omega) (by omega)
  refine ⟨r, ev_if_neg (by omega) h1, by omega, fun h4 => ⟨by omega, fun row hrow => ?_⟩⟩
  obtain ⟨j, hj, rfl⟩ := List.getElem_of_mem hrow
  have := h3 h4 j (by omega) hj
  rw [List.getD_eq_getElem?_getD, List.getElem?_eq_getElem hj] at this
  simp only [Option.getD_some] at this
  omega
 ·exact ⟨-1, ev_if_pos (by omega) (ev_now fun _ => rfl), by omega, fun h => by omega⟩
theorem toSS (es : List (List S122)) (h : es.length ≤ 1048576) (hr : ∀ row ∈ es, row.length ≤ 1048576) : Ev (fun k => laws_toPullSS.f k es) (es.map (List.map pV)) := by
 unfold laws_toPullSS.f
 refine ev_if_pos (by omega) (ev_if_pos (by omega) ?_)
 rw [Int.toNat_natCast]
 exact copyT_loop ([] : List S122) ([] : List S113) (List.map pV) laws_toPullS.f (fun k x3 x4 => laws_toPullSS.l0 k es x3 x4) es (by omega) (fun x hx => toPs x (hr x hx)) (fun _ _ _ => rfl)
theorem eqSS (es : List (List S113)) (h : Short es) : Ev (fun k => laws_eqPullSS.f k es es) true := by
 have := h.1
 unfold laws_eqPullSS.f
 refine ev_if_pos rfl ?_
 have := all_loop ([] : List S113) (fun _ => true) (fun k x => laws_eqPullS.f k x x) (fun k x5 => laws_eqPullSS.l0 k es es x5) es (by omega) (fun x hx => eqPs x (by have := h.2 x hx; omega)) (fun _ _ => rfl)
 exact ev_eq this (by simp)
theorem Short.map {es : List (List S122)} (h : es.length ≤ 1048576) (hr : ∀ row ∈ es, row.length ≤ 1048576) : Short (es.map (List.map pV)) := ⟨by simpa using h, fun x hx => by
 obtain ⟨y, hy, rfl⟩ := List.mem_map.1 hx
 simpa using hr y hy⟩
end Go.Proofs.Ytimjblgepbhoaaa.Pure

