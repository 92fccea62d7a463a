import Derived.Test.YtimjblgepbhoaaaHStays0
import Derived.Test.YtimjblgepbhoaaaPlain
import Derived.Test.YtimjblgepbhoaaaHStaysa
import Derived.Test.YtimjblgepbhoaaaHStaysb
import Derived.Test.YtimjblgepbhoaaaPureStaysA
namespace Go.Proofs.Ytimjblgepbhoaaa.Pure
open Go.RowKit Go.Proofs.Ytimjblgepbhoaaa.PStays Go.Proofs.Ytimjblgepbhoaaa.Plain Go.Proofs.YtimjblgepbhoaaaW.PrintWords Go.Proofs.YtimjblgepbhoaaaW.PrintMore
set_option linter.unusedVariables false
set_option linter.unusedSimpArgs false
def kV (x : S166) : S164 := ⟨x.f0, x.f1, x.f2⟩
def bV (x : S168) : S115 := ⟨x.f0, x.f1, x.f2⟩
def pV (x : S122) : S113 := ⟨x.f0, x.f1⟩
theorem toKs (l : List S166) (h : l.length ≤ 1048576) : Ev (fun k => laws_toKnotS.f k l) (l.map kV) := by
 unfold laws_toKnotS.f
 refine ev_if_pos (by omega) (ev_if_pos (by omega) ?_)
 rw [Int.toNat_natCast]
 exact copy_loop z166 z164 kV (fun k x3 x4 => laws_toKnotS.l0 k l x3 x4) l (by omega) (fun _ _ _ => rfl)
theorem toBs (l : List S168) (h : l.length ≤ 1048576) : Ev (fun k => laws_toBarS.f k l) (l.map bV) := by
 unfold laws_toBarS.f
 refine ev_if_pos (by omega) (ev_if_pos (by omega) ?_)
 rw [Int.toNat_natCast]
 exact copy_loop z168 z115 bV (fun k x3 x4 => laws_toBarS.l0 k l x3 x4) l (by omega) (fun _ _ _ => rfl)
theorem toPs (l : List S122) (h : l.length ≤ 1048576) : Ev (fun k => laws_toPullS.f k l) (l.map pV) := by
 unfold laws_toPullS.f
 refine ev_if_pos (by omega) (ev_if_pos (by omega) ?_)
 rw [Int.toNat_natCast]
 exact copy_loop z122 z113 pV (fun k x3 x4 => laws_toPullS.l0 k l x3 x4) l (by omega) (fun _ _ _ => rfl)
theorem toFr (kn : List S166) (br : List S168) (h1 : kn.length ≤ 1048576) (h2 : br.length ≤ 1048576) : Ev (fun k => laws_toFrame.f k kn br) (kn.map kV, br.map bV) := by
 unfold laws_toFrame.f
 exact ev_bind (toKs kn h1) (ev_bind (toBs br h2) (ev_now fun _ => rfl))
theorem eqI (l : List Int) (h : l.length < 9223372036854775807) : Ev (fun k => laws_eqInt64S.f k l l) true := by
 unfold laws_eqInt64S.f
 refine ev_if_pos rfl ?_
 exact eq_loop' (fun k x5 => laws_eqInt64S.l0 k l l x5) l h (fun i => rd l i = rd l i) (fun _ => rfl) (fun _ _ => rfl)
theorem eqKs (l : List S164) (h : l.length ≤ 1048576) : Ev (fun k => laws_eqKnotS.f k l l) true := by
 unfold laws_eqKnotS.f
 refine ev_if_pos rfl ?_
 exact eq_loop z164 (fun x => laws_eqKnot.f x.f0 x.f1 x.f2 x.f0 x.f1 x.f2) (fun k x5 => laws_eqKnotS.l0 k l l x5) l (by omega) (fun x => by simp [laws_eqKnot.f]) (fun _ _ => rfl)
theorem eqBs (l : List S115) (h : l.length ≤ 1048576) : Ev (fun k => laws_eqBarS.f k l l) true := by
 unfold laws_eqBarS.f
 refine ev_if_pos rfl ?_
 exact eq_loop z115 (fun x => laws_eqBar.f x.f0 x.f1 x.f2 x.f0 x.f1 x.f2) (fun k x5 => laws_eqBarS.l0 k l l x5) l (by omega) (fun x => by simp [laws_eqBar.f]) (fun _ _ => rfl)
theorem eqPs (l : List S113) (h : l.length ≤ 1048576) : Ev (fun k => laws_eqPullS.f k l l) true := by
 unfold laws_eqPullS.f
 refine ev_if_pos rfl ?_
 exact eq_loop z113 (fun x => laws_eqPull.f x.f0 x.f1 x.f0 x.f1) (fun k x5 => laws_eqPullS.l0 k l l x5) l (by omega) (fun x => by simp [laws_eqPull.f]) (fun _ _ => rfl)
theorem eqFr (kn : List S164) (br : List S115) (h1 : kn.length ≤ 1048576) (h2 : br.length ≤ 1048576) : Ev (fun k => laws_eqFrame.f k kn br kn br) true := by
 unfold laws_eqFrame.f
 exact ev_bind (eqKs kn h1) (ev_if_pos rfl (ev_bind (eqBs br h2) (ev_if_pos rfl (ev_now fun _ => rfl))))
theorem szFr (kn : List S166) (br : List S168) (a : Int) (ha : 0 ≤ a) (ha2 : a ≤ 1048576) (h1 : kn.length ≤ 9223372036854775807) (h2 : br.length ≤ 9223372036854775807) : ∃ r, laws_szFrame.f kn br a = some r ∧ (¬ r < 0 → kn.length ≤ 1048576 ∧ br.length ≤ 1048576 ∧ r ≤ 1048576) := by
 unfold laws_szFrame.f laws_szKnotS.f laws_szBarS.f
 have w1 : wrap64 (a - (kn.length : Int)) = a - (kn.length : Int) := wrap_self (by omega)
 by_cases c1 : a - (kn.length : Int) < 0
 ·exact ⟨-1, by rw [w1, if_pos c1]; rfl, fun h => absurd (by decide) h⟩
 ·have w2 : wrap64 (a - (kn.length : Int) - (br.length : Int)) = a - (kn.length : Int) - (br.length : Int) := wrap_self (by omega)
  by_cases c2 : a - (kn.length : Int) - (br.length : Int) < 0
  ·refine ⟨-1, ?_, fun h => absurd (by decide) h⟩
   rw [w1, if_neg c1]
   show (if a - (kn.length : Int) < 0 then _ else _) = _
   rw [if_neg c1, w2, if_pos c2]
   rfl
  ·refine ⟨a - (kn.length : Int) - (br.length : Int), ?_, fun _ => by omega⟩
   rw [w1, if_neg c1]
   show (if a - (kn.length : Int) < 0 then _ else _) = _
   rw [if_neg c1, w2, if_neg c2]
   show (if a - (kn.length : Int) - (br.length : Int) < 0 then _ else _) = _
   rw [if_neg c2]
theorem szPl (l : List S122) (a : Int) (ha : 0 ≤ a) (ha2 : a ≤ 1048576) (h1 : l.length ≤ 9223372036854775807) : ∃ r, laws_szPullS.f l a = some r ∧ (¬ r < 0 → l.length ≤ 1048576) := by
 unfold laws_szPullS.f
 have w1 : wrap64 (a - (l.length : Int)) = a - (l.length : Int) := wrap_self (by omega)
 by_cases c1 : a - (l.length : Int) < 0
 ·exact ⟨-1, by rw [w1, if_pos c1], fun h => absurd (by decide) h⟩
 ·exact ⟨a - (l.length : Int), by rw [w1, if_neg c1], fun _ => by omega⟩
theorem mem_getD {α : Type} (l : List α) (z : α) (i : Nat) (h : i < l.length) : l.getD i z ∈ l := by
 rw [List.getD_eq_getElem?_getD, List.getElem?_eq_getElem h]; exact List.getElem_mem h
theorem all_loop {α : Type} (z : α) (p : α → Bool) (T : Nat → α → Option Bool) (F : Nat → Int → Option Bool) (l : List α) (hl : l.length < 9223372036854775807) (hT : ∀ x ∈ l, Ev (fun k => T k x) (p x))
  (hF : ∀ k x5, F (k + 1) x5 = if x5 < (l.length : Int) then (if 0 ≤ x5 then (if x5 < (l.length : Int) then ((T k (l.getD x5.toNat z)).bind fun t => (if t = true then (F k (wrap64 (x5 + 1))) else (some false))) else (none)) else (none)) else (some true)) :
  Ev (fun k => F k 0) (l.all p) := by
 refine loop_up' (fun k i => F k (i : Int)) l.length (l.all p) (fun i => (l.take i).all p = true) (fun i hi hI => ?_) (fun hI => ?_) l.length 0 (by omega) (by omega) (by simp)
 ·have hm := hT _ (mem_getD l z i hi)
  cases hp : p (l.getD i z) with
  | true =>
   refine .inl ⟨?_, fun h => ?_⟩
   ·rw [List.take_succ_eq_append_getElem hi, List.all_append, hI]
    rw [List.getD_eq_getElem?_getD, List.getElem?_eq_getElem hi] at hp
    simpa using hp
   ·refine ev_step (fun k => hF k i) (ev_if_pos (by omega) (ev_if_pos (by omega) (ev_if_pos (by omega) ?_)))
    rw [Int.toNat_natCast]
    refine ev_bind hm (ev_if_pos hp ?_)
    rw [succ_cast i (by omega)]
    exact h
  | false =>
   refine .inr ?_
   refine ev_step (fun k => hF k i) (ev_if_pos (by omega) (ev_if_pos (by omega) (ev_if_pos (by omega) ?_)))
   rw [Int.toNat_natCast]
   refine ev_bind hm (ev_if_neg (by rw [hp]; decide) (ev_now fun _ => ?_))
   have : l.all p = false := by
    cases hq : l.all p with
    | false => rfl
    | true => rw [List.all_eq_true.mp hq _ (mem_getD l z i hi)] at hp; cases hp
   rw [this]
 ·refine ev_end (fun k => ?_)
  show F (k + 1) _ = _
  rw [hF, if_neg (by omega)]
  simpa using hI.symm
theorem copyT_loop {α β : Type} (z : α) (zb : β) (f : α → β) (T : Nat → α → Option β) (F : Nat → List β → Int → Option (List β)) (l : List α) (hl : l.length < 9223372036854775807) (hT : ∀ x ∈ l, Ev (fun k => T k x) (f x))
  (hF : ∀ k x3 x4, F (k + 1) x3 x4 = if x4 < (l.length : Int) then (if 0 ≤ x4 then ((T k (l.getD x4.toNat z)).bind fun t => (if x4 < (x3.length : Int) then (F k (x3.set x4.toNat t) (wrap64 (x4 + 1))) else (none))) else (none)) else (some x3)) :
  Ev (fun k => F k (List.replicate l.length zb) 0) (l.map f) := by
 have h := loop_up' (fun k i => F k ((l.take i).map f ++ List.replicate (l.length - i) zb) (i : Int)) l.length (l.map f) (fun _ => True) (fun i hi _ => .inl ⟨trivial, fun h => by
  refine ev_step (fun k => hF k _ i) (ev_if_pos (by omega) (ev_if_pos (by omega) ?_))
  rw [Int.toNat_natCast]
  refine ev_bind (hT _ (mem_getD l z i hi)) (ev_if_pos (by simp; omega) ?_)
  have e : List.replicate (l.length - i) zb = zb :: List.replicate (l.length - (i + 1)) zb := by
   rw [← List.replicate_succ]; congr 1; omega
  rw [e, set_next _ _ _ _ (by simp; omega), succ_cast i (by omega)]
  have e2 : (l.take (i + 1)).map f = (l.take i).map f ++ [f (l.getD i z)] := by
   rw [List.take_succ_eq_append_getElem hi, List.map_append]
   simp [List.getD_eq_getElem?_getD, List.getElem?_eq_getElem hi]
  rw [← e2]
  exact h⟩) (fun _ => by
  refine ev_end (fun k => ?_)
  show F (k + 1) _ _ = _
  rw [hF, if_neg (by omega)]
  simp) l.length 0 (by omega) (by omega) trivial
 simpa using h
end Go.Proofs.Ytimjblgepbhoaaa.Pure

