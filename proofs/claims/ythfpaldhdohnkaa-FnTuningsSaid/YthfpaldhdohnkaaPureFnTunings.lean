import Derived.Test.YthfpaldhdohnkaaSayFnTunings
import Derived.Test.YthfpaldhdohnkaaPlain
namespace Go.Proofs.Ythfpaldhdohnkaa.Pure
open Go.RowKit Go.Proofs.Ythfpaldhdohnkaa.PTune Go.Proofs.Ythfpaldhdohnkaa.Plain Go.Proofs.YthfpaldhdohnkaaW.PrintWords Go.Proofs.YthfpaldhdohnkaaW.PrintMore
set_option linter.unusedVariables false
set_option linter.unusedSimpArgs false
theorem implIn (n a b : Int) : impl_within.f n a b = some (decide (a ≤ n ∧ n ≤ b)) := by
 unfold impl_within.f
 by_cases h1 : n ≥ a <;> by_cases h2 : n ≤ b <;> simp [h1, h2] <;> omega
theorem mem_getD {α : Type} (l : List α) (z : α) (i : Nat) (h : i < l.length) : l.getD i z ∈ l := by
 rw [List.getD_eq_getElem?_getD, List.getElem?_eq_getElem h]; exact List.getElem_mem h
theorem all_loop {α : Type} (z : α) (p : α → Bool) (T : Nat → α → Option Bool) (F : Nat → Int → Option Bool) (l : List α) (hl : l.length < 9223372036854775807) (hT : ∀ x ∈ l, Ev (fun k => T k x) (p x))
  (hF : ∀ k x5, F (k + 1) x5 = if x5 < (l.length : Int) then (if 0 ≤ x5 then (if x5 < (l.length : Int) then ((T k (l.getD x5.toNat z)).bind fun t => (if t = true then (F k (wrap64 (x5 + 1))) else (some false))) else (none)) else (none)) else (some true)) :
  Ev (fun k => F k 0) (l.all p) := by
 refine loop_up' (fun k i => F k (i : Int)) l.length (l.all p) (fun i => (l.take i).all p = true) (fun i hi hI => ?_) (fun hI => ?_) l.length 0 (by omega) (by omega) (by simp)
 ·have hm := hT _ (mem_getD l z i hi)
  cases hp : p (l.getD i z) with
  | true =>
   refine .inl ⟨?_, fun h => ?_⟩
   ·rw [List.take_succ_eq_append_getElem hi, List.all_append, hI]
    rw [List.getD_eq_getElem?_getD, List.getElem?_eq_getElem hi] at hp
    simpa using hp
   ·refine ev_step (fun k => hF k i) (ev_if_pos (by omega) (ev_if_pos (by omega) (ev_if_pos (by omega) ?_)))
    rw [Int.toNat_natCast]
    refine ev_bind hm (ev_if_pos hp ?_)
    rw [succ_cast i (by omega)]
    exact h
  | false =>
   refine .inr ?_
   refine ev_step (fun k => hF k i) (ev_if_pos (by omega) (ev_if_pos (by omega) (ev_if_pos (by omega) ?_)))
   rw [Int.toNat_natCast]
   refine ev_bind hm (ev_if_neg (by rw [hp]; decide) (ev_now fun _ => ?_))
   have : l.all p = false := by
    cases hq : l.all p with
    | false => rfl
    | true => rw [List.all_eq_true.mp hq _ (mem_getD l z i hi)] at hp; cases hp
   rw [this]
 ·refine ev_end (fun k => ?_)
  show F (k + 1) _ = _
  rw [hF, if_neg (by omega)]
  simpa using hI.symm
theorem copyT_loop {α β : Type} (z : α) (zb : β) (f : α → β) (T : Nat → α → Option β) (F : Nat → List β → Int → Option (List β)) (l : List α) (hl : l.length < 9223372036854775807) (hT : ∀ x ∈ l, Ev (fun k => T k x) (f x))
  (hF : ∀ k x3 x4, F (k + 1) x3 x4 = if x4 < (l.length : Int) then (if 0 ≤ x4 then ((T k (l.getD x4.toNat z)).bind fun t => (if x4 < (x3.length : Int) then (F k (x3.set x4.toNat t) (wrap64 (x4 + 1))) else (none))) else (none)) else (some x3)) :
  Ev (fun k => F k (List.replicate l.length zb) 0) (l.map f) := by
 have h := loop_up' (fun k i => F k ((l.take i).map f ++ List.replicate (l.length - i) zb) (i : Int)) l.length (l.map f) (fun _ => True) (fun i hi _ => .inl ⟨trivial, fun h => by
  refine ev_step (fun k => hF k _ i) (ev_if_pos (by omega) (ev_if_pos (by omega) ?_))
  rw [Int.toNat_natCast]
  refine ev_bind (hT _ (mem_getD l z i hi)) (ev_if_pos (by simp; omega) ?_)
  have e : List.replicate (l.length - i) zb = zb :: List.replicate (l.length - (i + 1)) zb := by
   rw [← List.replicate_succ]; congr 1; omega
  rw [e, set_next _ _ _ _ (by simp; omega), succ_cast i (by omega)]
  have e2 : (l.take (i + 1)).map f = (l.take i).map f ++ [f (l.getD i z)] := by
   rw [List.take_succ_eq_append_getElem hi, List.map_append]
   simp [List.getD_eq_getElem?_getD, List.getElem?_eq_getElem hi]
  rw [← e2]
  exact h⟩) (fun _ => by
  refine ev_end (fun k => ?_)
  show F (k + 1) _ _ = _
  rw [hF, if_neg (by omega)]
  simp) l.length 0 (by omega) (by omega) trivial
 simpa using h
def bytes (l : List Int) : Prop := ∀ x ∈ l, 0 ≤ x ∧ x ≤ 255
theorem bytes_of {l : List Int} (h : ∀ x ∈ l, (Lit.int .u8 x).wf = true) : bytes l := fun x hx => wf_u8 (h x hx)
theorem rd_byte {l : List Int} (h : bytes l) (i : Int) (h0 : 0 ≤ i) (h1 : i < l.length) : 0 ≤ rd l i ∧ rd l i ≤ 255 := by
 obtain ⟨n, rfl⟩ := Int.eq_ofNat_of_zero_le h0
 have hn : n < l.length := by omega
 unfold rd
 rw [getD_nat, List.getD_eq_getElem?_getD, List.getElem?_eq_getElem hn]
 exact h _ (List.getElem_mem hn)
theorem and255 (x : Int) : 0 ≤ wrap64 (Go.bits .and .u64 (IntKind.u64.wrap x / 1099511627776) 255) ∧ wrap64 (Go.bits .and .u64 (IntKind.u64.wrap x / 1099511627776) 255) ≤ 255 := by
 have e : IntKind.u64.wrap x = x % 18446744073709551616 := by simp [IntKind.wrap, IntKind.bits, IntKind.signed]
 have hb : ∀ y : Int, 0 ≤ y → y < 16777216 → Go.bits .and .u64 y 255 = y % 256 := by
  intro y h0 h1
  exact Go.bits_mask .u64 24 (by decide) (fun n h0 h1 => by
   have : n < 16777216 := h1
   simp [IntKind.wrap, IntKind.bits, IntKind.signed]; omega) 8 (by decide) y h0 h1
 rw [e, hb _ (by omega) (by omega)]
 unfold wrap64
 omega
theorem next_ok {l : List Int} (h : bytes l) (a s : Int) (h0 : 0 ≤ a) (h1 : a ≤ 1000000000000000) : ∃ v s', spec_l00Src_next.f l a s = some (v, a + 1, s') ∧ 0 ≤ v ∧ v ≤ 255 := by
 unfold spec_l00Src_next.f
 rw [wrap_in (x := a + 1) (by omega) (by omega)]
 by_cases c1 : a < (l.length : Int)
 ·rw [if_pos c1, if_pos h0]
  have hr := rd_byte h a h0 c1
  rw [if_pos (show a + 1 ≤ (l.length : Int) by omega)]
  exact ⟨_, _, rfl, by rw [wrap_in (by omega) (by omega)]; exact hr.1, by rw [wrap_in (by omega) (by omega)]; exact hr.2⟩
 ·rw [if_neg c1]
  by_cases c2 : a + 1 ≤ (l.length : Int)
  ·rw [if_pos c2]
   exact ⟨_, _, rfl, by omega, by omega⟩
  ·rw [if_neg c2]
   exact ⟨_, _, rfl, (and255 _).1, (and255 _).2⟩
theorem pick_ok {l : List Int} (h : bytes l) (a s n : Int) (h0 : 0 ≤ a) (h1 : a ≤ 1000000000) : ∃ v a' s', spec_l00Src_pick.f l a s n = some (v, a', s') ∧ 0 ≤ v ∧ (v < n ∨ v = 0) ∧ a ≤ a' ∧ a' ≤ a + 2 := by
 unfold spec_l00Src_pick.f
 by_cases c : n ≤ 1
 ·rw [if_pos c]
  exact ⟨0, a, s, rfl, by omega, .inr rfl, by omega, by omega⟩
 ·rw [if_neg c]
  obtain ⟨v, s1, e1, b1, b2⟩ := next_ok h a s h0 (by omega)
  rw [e1]
  simp only [Option.bind_some]
  by_cases c2 : n > 200
  ·rw [if_pos c2]
   obtain ⟨v2, s2, e2, d1, d2⟩ := next_ok h (a + 1) s1 (by omega) (by omega)
   rw [e2]
   simp only [Option.bind_some]
   rw [if_neg (by omega), wrap_in (x := v * 256) (by omega) (by omega), wrap_in (x := v * 256 + v2) (by omega) (by omega)]
   have m1 := Int.tmod_nonneg n (show 0 ≤ v * 256 + v2 by omega)
   have m2 := Int.tmod_lt_of_pos (v * 256 + v2) (show 0 < n by omega)
   exact ⟨_, _, _, rfl, m1, .inl m2, by omega, by omega⟩
  ·rw [if_neg c2, if_neg (by omega)]
   have m1 := Int.tmod_nonneg n b1
   have m2 := Int.tmod_lt_of_pos v (show 0 < n by omega)
   exact ⟨_, _, _, rfl, m1, .inl m2, by omega, by omega⟩
def okRowB (n : Nat) (row : List Int) : Bool := decide (row.length = n) && row.all (fun x => decide (-1000 ≤ x) && decide (x ≤ 1000))
def okTB (ts : List Int) (es : List (List Int)) : Bool := decide (es.length = ts.length) && ts.all (fun x => decide (0 ≤ x) && decide (x ≤ 1000000)) && es.all (okRowB ts.length) && decide (1 ≤ ts.length) && decide (ts.length ≤ 4)
def codeT (ts : List Int) (es : List (List Int)) (tn : List Int) : Int := if okTB ts es = true then (if (tn.all (fun x => decide (-6 ≤ x) && decide (x ≤ 6)) && decide (tn.length = ts.length)) = true then 0 else 2) else 1
theorem getD_mem {α : Type} {l : List α} {z : α} {i : Nat} (h : i < l.length) : l.getD i z ∈ l := by
 rw [List.getD_eq_getElem?_getD, List.getElem?_eq_getElem h]; exact List.getElem_mem h
theorem bad_row {ts : List Int} {es : List (List Int)} (i : Nat) (h : i < es.length) (h2 : okRowB ts.length (es.getD i []) = false) : okTB ts es = false := by
 cases hq : okTB ts es with
 | false => rfl
 | true =>
  simp only [okTB, Bool.and_eq_true, List.all_eq_true] at hq
  have := hq.1.1.2 (es.getD i []) (by rw [List.getD_eq_getElem?_getD, List.getElem?_eq_getElem h]; exact List.getElem_mem h)
  rw [h2] at this; cases this
theorem bad_num {ts : List Int} {es : List (List Int)} (i : Nat) (h : i < ts.length) (h2 : ¬ (0 ≤ ts.getD i 0 ∧ ts.getD i 0 ≤ 1000000)) : okTB ts es = false := by
 cases hq : okTB ts es with
 | false => rfl
 | true =>
  simp only [okTB, Bool.and_eq_true, List.all_eq_true, decide_eq_true_eq] at hq
  exact absurd (hq.1.1.1.2 (ts.getD i 0) (by rw [List.getD_eq_getElem?_getD, List.getElem?_eq_getElem h]; exact List.getElem_mem h)) h2
theorem all_step {p : Nat → Prop} {i : Nat} (h : ∀ j < i, p j) (h2 : p i) : ∀ j < i + 1, p j := by
 intro j hj
 rcases Nat.lt_succ_iff_lt_or_eq.mp hj with h3 | h3
 ·exact h j h3
 ·rw [h3]; exact h2
theorem row_good {n : Nat} {row : List Int} (h : row.length = n) (h2 : ∀ j < row.length, -1000 ≤ row.getD j 0 ∧ row.getD j 0 ≤ 1000) : okRowB n row = true := by
 simp only [okRowB, Bool.and_eq_true, List.all_eq_true, decide_eq_true_eq]
 refine ⟨h, fun x hx => ?_⟩
 obtain ⟨j, hj, rfl⟩ := List.getElem_of_mem hx
 have := h2 j hj
 rwa [List.getD_eq_getElem?_getD, List.getElem?_eq_getElem hj] at this
theorem okT_end {ts : List Int} {es : List (List Int)} (hl : es.length = ts.length) (h : ∀ j < ts.length, (0 ≤ ts.getD j 0 ∧ ts.getD j 0 ≤ 1000000) ∧ okRowB ts.length (es.getD j []) = true) : okTB ts es = (decide (1 ≤ ts.length) && decide (ts.length ≤ 4)) := by
 have h1 : ts.all (fun x => decide (0 ≤ x) && decide (x ≤ 1000000)) = true := by
  simp only [Bool.and_eq_true, List.all_eq_true, decide_eq_true_eq]
  intro x hx
  obtain ⟨j, hj, rfl⟩ := List.getElem_of_mem hx
  have := (h j hj).1
  rwa [List.getD_eq_getElem?_getD, List.getElem?_eq_getElem hj] at this
 have h2 : es.all (okRowB ts.length) = true := by
  simp only [List.all_eq_true]
  intro x hx
  obtain ⟨j, hj, rfl⟩ := List.getElem_of_mem hx
  have := (h j (by omega)).2
  rwa [List.getD_eq_getElem?_getD, List.getElem?_eq_getElem hj] at this
 simp [okTB, hl, h1, h2]
theorem row_bad {n : Nat} {row : List Int} (i : Nat) (h : i < row.length) (h2 : ¬ (-1000 ≤ row.getD i 0 ∧ row.getD i 0 ≤ 1000)) : okRowB n row = false := by
 cases hq : okRowB n row with
 | false => rfl
 | true =>
  simp only [okRowB, Bool.and_eq_true, List.all_eq_true, decide_eq_true_eq] at hq
  exact absurd (hq.2 (row.getD i 0) (by rw [List.getD_eq_getElem?_getD, List.getElem?_eq_getElem h]; exact List.getElem_mem h)) h2
theorem okT_row {ts : List Int} {es : List (List Int)} (h : okTB ts es = true) : es.length = ts.length ∧ 1 ≤ ts.length ∧ ts.length ≤ 4 ∧ (∀ j < ts.length, 0 ≤ ts.getD j 0 ∧ ts.getD j 0 ≤ 1000000) ∧ ∀ j < ts.length, (es.getD j []).length = ts.length ∧ ∀ i < ts.length, -1000 ≤ (es.getD j []).getD i 0 ∧ (es.getD j []).getD i 0 ≤ 1000 := by
 simp only [okTB, okRowB, Bool.and_eq_true, List.all_eq_true, decide_eq_true_eq] at h
 have hl := h.1.1.1.1
 refine ⟨hl, h.1.2, h.2, fun j hj => h.1.1.1.2 _ (getD_mem hj), fun j hj => ?_⟩
 have h2 := h.1.1.2 (es.getD j []) (getD_mem (by omega))
 exact ⟨h2.1, fun i hi => h2.2 _ (getD_mem (by omega))⟩
theorem codeT_bad {ts : List Int} {es : List (List Int)} {tn : List Int} (h0 : okTB ts es = true) (i : Nat) (h : i < tn.length) (h2 : ¬ (-6 ≤ tn.getD i 0 ∧ tn.getD i 0 ≤ 6)) : codeT ts es tn = 2 := by
 unfold codeT
 rw [if_pos h0, if_neg]
 intro hq
 simp only [Bool.and_eq_true, List.all_eq_true, decide_eq_true_eq] at hq
 exact absurd (hq.1 (tn.getD i 0) (by rw [List.getD_eq_getElem?_getD, List.getElem?_eq_getElem h]; exact List.getElem_mem h)) h2
theorem codeT_end {ts : List Int} {es : List (List Int)} {tn : List Int} (h0 : okTB ts es = true) (h : ∀ j < tn.length, -6 ≤ tn.getD j 0 ∧ tn.getD j 0 ≤ 6) : codeT ts es tn = if tn.length = ts.length then 0 else 2 := by
 have h1 : tn.all (fun x => decide (-6 ≤ x) && decide (x ≤ 6)) = true := by
  simp only [Bool.and_eq_true, List.all_eq_true, decide_eq_true_eq]
  intro x hx
  obtain ⟨j, hj, rfl⟩ := List.getElem_of_mem hx
  have := h j hj
  rwa [List.getD_eq_getElem?_getD, List.getElem?_eq_getElem hj] at this
 unfold codeT
 rw [if_pos h0, h1]
 simp
def Small (ts : List Int) (es : List (List Int)) : Prop := ts.length ≤ 1048576 ∧ es.length ≤ 1048576 ∧ ∀ row ∈ es, row.length ≤ 1048576
theorem cast_eq (x y : List Int) : decide ((x.length : Int) = (y.length : Int)) = decide (x.length = y.length) := by
 by_cases h : x.length = y.length
 ·simp [h]
 ·rw [decide_eq_false h, decide_eq_false (by omega)]
theorem areIn (l : List Int) (hl : l.length < 9223372036854775807) (n a b : Int) : Ev (fun k => impl_areIn.f k l n a b) (decide ((l.length : Int) = n) && l.all (fun x => decide (a ≤ x) && decide (x ≤ b))) := by
 unfold impl_areIn.f
 by_cases h : (l.length : Int) = n
 ·refine ev_if_pos h ?_
  have := all_loop (0 : Int) (fun x => decide (a ≤ x) && decide (x ≤ b)) (fun _ x => impl_within.f x a b) (fun k x5 => impl_areIn.l0 k a b l (l.length : Int) x5) l hl (fun x _ => ev_const (by rw [implIn]; simp)) (fun _ _ => rfl)
  simpa [h] using this
 ·exact ev_if_neg h (ev_now fun _ => by simp [h])
theorem implT (ts : List Int) (es : List (List Int)) (h : Small ts es) : Ev (fun k => impl_ValidTuning.f k ts es) (okTB ts es) := by
 obtain ⟨h1, h2, h3⟩ := h
 unfold impl_ValidTuning.f
 by_cases c1 : (ts.length : Int) < 1
 ·refine ev_if_pos c1 (ev_end fun k => ?_)
  simp only [impl_ValidTuning.j0, if_true]
  have : ts.length = 0 := by omega
  simp [okTB, this]
 refine ev_if_neg c1 ?_
 by_cases c2 : (ts.length : Int) > 4
 ·refine ev_if_pos c2 (ev_end fun k => ?_)
  simp only [impl_ValidTuning.j0, if_true]
  have : ¬ ts.length ≤ 4 := by omega
  simp [okTB, this]
 refine ev_if_neg c2 ?_
 by_cases c3 : (es.length : Int) = (ts.length : Int)
 ·refine ev_if_pos c3 (ev_bind (areIn ts (by omega) _ _ _) ?_)
  cases c4 : ts.all (fun x => decide (0 ≤ x) && decide (x ≤ 1000000)) with
  | false =>
   refine ev_end fun k => ?_
   simp [impl_ValidTuning.j0, okTB, c4]
  | true =>
   refine ev_step (f := fun k => impl_ValidTuning.l0 k (ts.length : Int) es (es.length : Int) 0) (fun k => by simp [impl_ValidTuning.j0]) ?_
   have := all_loop ([] : List Int) (okRowB ts.length) (fun k x => impl_areIn.f k x (ts.length : Int) (-1000) 1000) (fun k x5 => impl_ValidTuning.l0 k (ts.length : Int) es (es.length : Int) x5) es (by omega)
    (fun x hx => ev_eq (areIn x (by have := h3 x hx; omega) _ _ _) (by unfold okRowB; rw [cast_eq x ts])) (fun _ _ => rfl)
   refine ev_eq this ?_
   have e1 : es.length = ts.length := by omega
   have e2 : 1 ≤ ts.length := by omega
   have e3 : ts.length ≤ 4 := by omega
   simp [okTB, c4, e1, e2, e3]
 ·refine ev_if_neg c3 (ev_end fun k => ?_)
  simp only [impl_ValidTuning.j0, if_true]
  have : ¬ es.length = ts.length := by omega
  simp [okTB, this]
theorem implC (ts : List Int) (es : List (List Int)) (tn : List Int) (h : Small ts es) (ht : tn.length ≤ 1048576) : Ev (fun k => impl_turnsCode.f k ts es tn) (codeT ts es tn) := by
 unfold impl_turnsCode.f codeT
 refine ev_bind (implT ts es h) ?_
 cases okTB ts es with
 | false => exact ev_now fun _ => rfl
 | true =>
  refine ev_if_pos rfl (ev_bind (areIn tn (by omega) _ _ _) ?_)
  rw [if_pos rfl, cast_eq, Bool.and_comm]
  split
  ·exact ev_now fun _ => rfl
  ·exact ev_now fun _ => rfl
theorem code_zero {ts : List Int} {es : List (List Int)} {tn : List Int} (h : codeT ts es tn = 0) : okTB ts es = true ∧ (∀ x ∈ tn, -6 ≤ x ∧ x ≤ 6) ∧ tn.length = ts.length := by
 unfold codeT at h
 split at h
 ·rename_i h1
  split at h
  ·rename_i h2
   simp only [Bool.and_eq_true, List.all_eq_true, decide_eq_true_eq] at h2
   exact ⟨h1, h2.1, h2.2⟩
  ·cases h
 ·cases h
theorem code_cases (ts : List Int) (es : List (List Int)) (tn : List Int) : codeT ts es tn = 0 ∨ codeT ts es tn ≠ 0 := by omega
def stI (row tn : List Int) (i : Nat) : Nat → Nat → List Int → List Int
 | 0, _, o => o
 | m + 1, k, o => stI row tn i m (k + 1) (o.set i (wrap64 (o.getD i 0 + wrap64 (row.getD k 0 * tn.getD k 0))))
def stO (es : List (List Int)) (tn : List Int) (n : Nat) : Nat → Nat → List Int → List Int
 | 0, _, o => o
 | m + 1, i, o => stO es tn n m (i + 1) (stI (es.getD i []) tn i n 0 o)
theorem stI_len (row tn : List Int) (i : Nat) : ∀ (m k : Nat) (o : List Int), (stI row tn i m k o).length = o.length := by
 intro m
 induction m with
 | zero => intro k o; rfl
 | succ m ih => intro k o; show (stI row tn i m (k + 1) _).length = _; rw [ih]; simp
def afterT (ts : List Int) (es : List (List Int)) (tn : List Int) : List Int := stO es tn ts.length ts.length 0 ts
theorem stO_len (es : List (List Int)) (tn : List Int) (n : Nat) : ∀ (m i : Nat) (o : List Int), (stO es tn n m i o).length = o.length := by
 intro m
 induction m with
 | zero => intro i o; rfl
 | succ m ih => intro i o; show (stO es tn n m (i + 1) _).length = _; rw [ih, stI_len]
theorem implA_in (es : List (List Int)) (tn : List Int) (n i : Nat) (hn : n ≤ 1048576) (hel : es.length = n) (htn : tn.length = n) (hi : i < n) (hrl : (es.getD i []).length = n) (r : List Int) : ∀ (m j : Nat) (o : List Int), n - j = m → j ≤ n → o.length = n →
  Ev (fun k => impl_tensionsAfter.l0 k tn (stI (es.getD i []) tn i m j o) es (n : Int) ((i + 1 : Nat) : Int)) r → Ev (fun k => impl_tensionsAfter.l1 k tn o (i : Int) es (n : Int) (i : Int) (es.getD i []) (n : Int) (j : Int)) r := by
 intro m
 induction m with
 | zero =>
  intro j o h1 h2 h3 h4
  refine ev_step (fun k => ?_) h4
  simp only [impl_tensionsAfter.l1]
  rw [if_neg (by omega), succ_cast i (by omega)]
  rfl
 | succ m ih =>
  intro j o h1 h2 h3 h4
  refine ev_step (fun k => ?_) (ih (j + 1) _ (by omega) (by omega) (by simp; exact h3) h4)
  simp only [impl_tensionsAfter.l1]
  rw [if_pos (by omega), if_pos (by omega), if_pos (by omega), if_pos (by omega), if_pos (by omega), if_pos (by omega), succ_cast j (by omega)]
  simp only [rd, Int.toNat_natCast]
theorem implA (es : List (List Int)) (tn : List Int) (n : Nat) (hn : n ≤ 1048576) (hel : es.length = n) (htn : tn.length = n) (hrl : ∀ i < n, (es.getD i []).length = n) : ∀ (m i : Nat) (o : List Int), n - i = m → i ≤ n → o.length = n →
  Ev (fun k => impl_tensionsAfter.l0 k tn o es (n : Int) (i : Int)) (stO es tn n m i o) := by
 intro m
 induction m with
 | zero =>
  intro i o h1 h2 h3
  refine ev_end (fun k => ?_)
  simp only [impl_tensionsAfter.l0]
  rw [if_neg (by omega)]
  rfl
 | succ m ih =>
  intro i o h1 h2 h3
  have h := implA_in es tn n i hn hel htn (by omega) (hrl i (by omega)) _ n 0 o (by omega) (by omega) h3 (ih (i + 1) (stI (es.getD i []) tn i n 0 o) (by omega) (by omega) (by rw [stI_len]; exact h3))
  refine ev_step (fun k => ?_) h
  simp only [impl_tensionsAfter.l0]
  rw [if_pos (by omega), if_pos (by omega), if_pos (by omega)]
  simp only [rd_L2, Int.toNat_natCast]
  rw [hrl i (by omega)]
  rfl
def InB (lo hi : Int) (l : List Int) : Prop := ∀ x ∈ l, lo ≤ x ∧ x ≤ hi
theorem inb_app {lo hi : Int} {l : List Int} {x : Int} (h : InB lo hi l) (hx : lo ≤ x ∧ x ≤ hi) : InB lo hi (l ++ [x]) := by
 intro y hy
 rcases List.mem_append.1 hy with h1 | h1
 ·exact h y h1
 ·rw [List.mem_singleton.1 h1]; exact hx
theorem drawRow {c : List Int} (h : bytes c) (n i : Nat) (hn : n ≤ 4) (hi : i < n) (ts : List Int) (es : List (List Int)) (hes : es.length ≤ 4) : ∀ (m j : Nat) (row : List Int) (a s : Int), n - j = m → j ≤ n → row.length = j → InB (-1000) 1000 row → 0 ≤ a → a + 2 * m ≤ 1000 →
  ∃ row' a' s', row'.length = n ∧ InB (-1000) 1000 row' ∧ a ≤ a' ∧ a' ≤ a + 2 * m ∧ ∀ r, Ev (fun k => spec_l12Draw.l0 k (n : Int) ((i + 1 : Nat) : Int) c a' s' ts (es ++ [row'])) r → Ev (fun k => spec_l12Draw.l1 k (n : Int) (i : Int) row (j : Int) c a s ts es) r := by
 intro m
 induction m with
 | zero =>
  intro j row a s h1 h2 h3 h4 h5 h6
  refine ⟨row, a, s, by omega, h4, by omega, by omega, fun r hr => ev_step (fun k => ?_) hr⟩
  simp only [spec_l12Draw.l1]
  rw [if_neg (by omega), if_pos (by omega), succ_cast i (by omega)]
 | succ m ih =>
  intro j row a s h1 h2 h3 h4 h5 h6
  by_cases hij : i = j
  ·obtain ⟨v, a1, s1, e1, v0, v1, b1, b2⟩ := pick_ok h a s 10 h5 (by omega)
   have hw : wrap64 (10 * wrap64 (1 + v)) = 10 * (1 + v) := by rw [wrap_in (x := 1 + v) (by omega) (by omega), wrap_in (by omega) (by omega)]
   obtain ⟨row', a', s', q1, q2, q3, q4, q5⟩ := ih (j + 1) (row ++ [10 * (1 + v)]) a1 s1 (by omega) (by omega) (by rw [List.length_append, h3]; rfl) (inb_app h4 (by omega)) (by omega) (by omega)
   refine ⟨row', a', s', q1, q2, by omega, by omega, fun r hr => ev_step (fun k => ?_) (q5 r hr)⟩
   simp only [spec_l12Draw.l1]
   rw [if_pos (by omega), if_pos (by omega), e1]
   simp only [Option.bind_some]
   rw [if_pos (by omega), hw, succ_cast j (by omega)]
  ·obtain ⟨v, a1, s1, e1, v0, v1, b1, b2⟩ := pick_ok h a s 7 h5 (by omega)
   have hw : wrap64 (wrap64 (10 * v) - 30) = 10 * v - 30 := by rw [wrap_in (x := 10 * v) (by omega) (by omega), wrap_in (by omega) (by omega)]
   obtain ⟨row', a', s', q1, q2, q3, q4, q5⟩ := ih (j + 1) (row ++ [10 * v - 30]) a1 s1 (by omega) (by omega) (by rw [List.length_append, h3]; rfl) (inb_app h4 (by omega)) (by omega) (by omega)
   refine ⟨row', a', s', q1, q2, by omega, by omega, fun r hr => ev_step (fun k => ?_) (q5 r hr)⟩
   simp only [spec_l12Draw.l1]
   rw [if_pos (by omega), if_neg (by omega), e1]
   simp only [Option.bind_some]
   rw [if_pos (by omega), hw, succ_cast j (by omega)]
theorem drawRows {c : List Int} (h : bytes c) (n : Nat) (hn : n ≤ 4) : ∀ (m i : Nat) (ts : List Int) (es : List (List Int)) (a s : Int), n - i = m → i ≤ n → ts.length = i → es.length = i → InB 0 1000 ts → (∀ row ∈ es, row.length = n ∧ InB (-1000) 1000 row) → 0 ≤ a → a + 20 * m ≤ 500 →
  ∃ ts' es' a' s', Ev (fun k => spec_l12Draw.l0 k (n : Int) (i : Int) c a s ts es) (ts', es', a', s') ∧ ts'.length = n ∧ es'.length = n ∧ InB 0 1000 ts' ∧ ∀ row ∈ es', row.length = n ∧ InB (-1000) 1000 row := by
 intro m
 induction m with
 | zero =>
  intro i ts es a s h1 h2 h3 h4 h5 h6 h7 h8
  refine ⟨ts, es, a, s, ev_end (fun k => ?_), by omega, by omega, h5, h6⟩
  simp only [spec_l12Draw.l0]
  rw [if_neg (by omega)]
 | succ m ih =>
  intro i ts es a s h1 h2 h3 h4 h5 h6 h7 h8
  obtain ⟨v, a1, s1, e1, v0, v1, b1, b2⟩ := pick_ok h a s 20 h7 (by omega)
  have hw : wrap64 (50 * v) = 50 * v := wrap_in (by omega) (by omega)
  obtain ⟨row', a', s', q1, q2, q3, q4, q5⟩ := drawRow h n i hn (by omega) (ts ++ [50 * v]) es (by omega) n 0 [] a1 s1 (by omega) (by omega) rfl (fun x hx => by simp at hx) (by omega) (by omega)
  obtain ⟨ts', es', a2, s2, g1, g2⟩ := ih (i + 1) (ts ++ [50 * v]) (es ++ [row']) a' s' (by omega) (by omega) (by rw [List.length_append, h3]; rfl) (by rw [List.length_append, h4]; rfl) (inb_app h5 (by omega)) (fun row hrow => by rcases List.mem_append.1 hrow with h_ | h_; exact h6 row h_; rw [List.mem_singleton.1 h_]; exact ⟨q1, q2⟩) (by omega) (by omega)
  refine ⟨ts', es', a2, s2, ev_step (fun k => ?_) (q5 _ g1), g2⟩
  simp only [spec_l12Draw.l0]
  rw [if_pos (by omega), e1]
  simp only [Option.bind_some]
  rw [if_pos (by omega), hw]
  rfl
theorem tuningDraw {c : List Int} (h : bytes c) : ∃ ts es, Ev (fun k => spec_A2Tuning.f k c) (ts, es) ∧ okTB ts es = true ∧ InB 0 1000 ts := by
 obtain ⟨v, a1, s1, e1, v0, v1, b1, b2⟩ := pick_ok h 0 0 3 (by omega) (by omega)
 obtain ⟨n, hn⟩ : ∃ n : Nat, wrap64 (1 + v) = (n : Int) := ⟨(1 + v).toNat, by rw [wrap_in (by omega) (by omega)]; omega⟩
 have hn' : 1 ≤ n ∧ n ≤ 3 := by rw [wrap_in (by omega) (by omega)] at hn; omega
 obtain ⟨ts, es, a', s', g1, g2, g3, g4, g5⟩ := drawRows h n (by omega) n 0 [] [] a1 s1 (by omega) (by omega) rfl rfl (fun x hx => by simp at hx) (fun row hrow => by simp at hrow) (by omega) (by omega)
 refine ⟨ts, es, ?_, ?_, g4⟩
 ·unfold spec_A2Tuning.f spec_l00From.f spec_l12Draw.f
  refine ev_some (ev_bind (a := (v, a1, s1)) (ev_now fun _ => e1) ?_)
  rw [hn]
  exact ev_bind g1 (ev_now fun _ => rfl)
 ·simp only [okTB, okRowB, Bool.and_eq_true, decide_eq_true_eq, List.all_eq_true]
  refine ⟨⟨⟨⟨by omega, fun x hx => ⟨(g4 x hx).1, Int.le_trans (g4 x hx).2 (by omega)⟩⟩, fun row hrow => ⟨by rw [(g5 row hrow).1, g2], fun x hx => (g5 row hrow).2 x hx⟩⟩, by omega⟩, by omega⟩
theorem turnsLoop {c : List Int} (h : bytes c) (n : Nat) (hn : n ≤ 4) : ∀ (m i : Nat) (tn : List Int) (a s : Int), n - i = m → i ≤ n → tn.length = i → InB (-6) 6 tn → 0 ≤ a → a + 2 * m ≤ 500 →
  ∃ tn', Ev (fun k => spec_A2Turns.l0 k (n : Int) tn (i : Int) c a s) tn' ∧ tn'.length = n ∧ InB (-6) 6 tn' := by
 intro m
 induction m with
 | zero =>
  intro i tn a s h1 h2 h3 h4 h5 h6
  refine ⟨tn, ev_end (fun k => ?_), by omega, h4⟩
  simp only [spec_A2Turns.l0]
  rw [if_neg (by omega)]
 | succ m ih =>
  intro i tn a s h1 h2 h3 h4 h5 h6
  obtain ⟨v, a1, s1, e1, v0, v1, b1, b2⟩ := pick_ok h a s 13 h5 (by omega)
  have hw : wrap64 (v - 6) = v - 6 := wrap_in (by omega) (by omega)
  obtain ⟨tn', g1, g2⟩ := ih (i + 1) (tn ++ [v - 6]) a1 s1 (by omega) (by omega) (by rw [List.length_append, h3]; rfl) (inb_app h4 (by omega)) (by omega) (by omega)
  refine ⟨tn', ev_step (fun k => ?_) g1, g2⟩
  simp only [spec_A2Turns.l0]
  rw [if_pos (by omega), e1]
  simp only [Option.bind_some]
  rw [if_pos (by omega), hw, succ_cast i (by omega)]
theorem turnsDraw {c : List Int} (h : bytes c) (n : Nat) (hn : n ≤ 4) : ∃ tn, Ev (fun k => spec_A2Turns.f k c (n : Int)) tn ∧ tn.length = n ∧ InB (-6) 6 tn := by
 obtain ⟨tn, g1, g2⟩ := turnsLoop h n hn n 0 [] 0 0 (by omega) (by omega) rfl (fun x hx => by simp at hx) (by omega) (by omega)
 refine ⟨tn, ?_, g2⟩
 unfold spec_A2Turns.f spec_l00From.f
 exact ev_some g1
theorem foldl_inv {S : Type} (P : S → Prop) (F : S → Nat → S) (h : ∀ s j, P s → P (F s j)) : ∀ (l : List Nat) (s : S), P s → P (l.foldl F s)
 | [], _, hs => hs
 | j :: l, s, hs => foldl_inv P F h l _ (h s j hs)
theorem foldl_inv' {S : Type} (P : S → Prop) (F : S → Nat → S) : ∀ (l : List Nat) (s : S), (∀ j ∈ l, ∀ s, P s → P (F s j)) → P s → P (l.foldl F s)
 | [], _, _, hs => hs
 | j :: l, s, h, hs => foldl_inv' P F l _ (fun i hi => h i (List.mem_cons_of_mem _ hi)) (h j (List.mem_cons_self) s hs)
theorem fills_inv {S : Type} (P : S → Prop) (f : S → List Int → S) (n : Nat) (h : ∀ s tn, tn.length = n → InB (-6) 6 tn → P s → P (f s tn)) : ∀ (m : Nat) (s : S) (pre : List Int), pre.length + m = n → InB (-6) 6 pre → P s → P (fills f m s pre) := by
 intro m
 induction m with
 | zero => intro s pre h1 h2 h3; exact h s pre (by omega) h2 h3
 | succ m ih =>
  intro s pre h1 h2 h3
  exact foldl_inv' P _ (List.range 13) s (fun j hj s hs => ih s _ (by rw [List.length_append]; simp; omega) (inb_app h2 (by have := List.mem_range.1 hj; omega)) hs) h3
theorem fills_cov {S : Type} (Q : S → Prop) (f : S → List Int → S) (n : Nat) (tn : List Int) (hl : tn.length = n) (hb : InB (-6) 6 tn) (hup : ∀ s t, t.length = n → InB (-6) 6 t → Q s → Q (f s t)) (h0 : ∀ s, Q (f s tn)) : ∀ (m : Nat) (s : S) (pre : List Int), pre.length + m = n → pre = tn.take pre.length → Q (fills f m s pre) := by
 intro m
 induction m with
 | zero =>
  intro s pre h1 h2
  have e : pre = tn := by rw [h2]; exact List.take_of_length_le (by omega)
  rw [e]
  exact h0 s
 | succ m ih =>
  intro s pre h1 h2
  have hpb : InB (-6) 6 pre := fun x hx => hb x (List.mem_of_mem_take (h2 ▸ hx))
  have hi : pre.length < tn.length := by omega
  have hx := hb (tn.getD pre.length 0) (getD_mem hi)
  refine foldl_inv (fun s => Q s) (fun s (_ : Nat) => s) (fun s j h => h) [] _ ?_
  show Q ((List.range 13).foldl (fun s (j : Nat) => fills f m s (pre ++ [(j : Int) - 6])) s)
  have key : ∀ (l : List Nat) (s : S), (∀ j ∈ l, j < 13) → ((tn.getD pre.length 0 + 6).toNat ∈ l ∨ Q s) → Q (l.foldl (fun s (j : Nat) => fills f m s (pre ++ [(j : Int) - 6])) s) := by
   intro l
   induction l with
   | nil => intro s _ h; rcases h with h | h; simp at h; exact h
   | cons j l ihl =>
    intro s hj h
    have hj13 := hj j (List.mem_cons_self)
    refine ihl _ (fun i hi => hj i (List.mem_cons_of_mem _ hi)) ?_
    rcases h with h | h
    ·rcases List.mem_cons.1 h with h | h
     ·right
      refine ih s _ (by rw [List.length_append]; simp; omega) ?_
      rw [List.length_append]
      show pre ++ [(j : Int) - 6] = tn.take (pre.length + 1)
      rw [List.take_succ_eq_append_getElem hi, ← h2]
      congr 2
      rw [← h, List.getD_eq_getElem?_getD, List.getElem?_eq_getElem hi]
      rw [List.getD_eq_getElem?_getD, List.getElem?_eq_getElem hi] at hx
      simp at hx ⊢
      omega
     ·exact .inl h
    ·exact .inr (fills_inv Q f n hup m s _ (by rw [List.length_append]; simp; omega) (inb_app hpb (by omega)) h)
  exact key _ s (fun j hj => List.mem_range.1 hj) (.inl (List.mem_range.2 (by omega)))
theorem ev_ex {α : Type} {g : Nat → Option α} {r : α} (h : Ev g r) : ∃ k, g k = some r := by obtain ⟨n, h⟩ := h; exact ⟨n, h n (Nat.le_refl n)⟩
theorem afterT_len (ts : List Int) (es : List (List Int)) (tn : List Int) : (afterT ts es tn).length = ts.length := by unfold afterT; rw [stO_len]
theorem aftI0 (ts : List Int) (es : List (List Int)) (tn : List Int) (hv : okTB ts es = true) (htn : tn.length = ts.length) : Ev (fun k => impl_tensionsAfter.f k ts es tn) (afterT ts es tn) := by
 obtain ⟨hel, h1, h4, _, hrows⟩ := okT_row hv
 unfold impl_tensionsAfter.f
 refine ev_some (ev_if_pos (by simp; omega) ?_)
 rw [hel]
 exact implA es tn ts.length (by omega) hel htn (fun i hi => (hrows i hi).1) ts.length 0 ts (by omega) (by omega) rfl
def sumI (l : List Int) : Int := (l.map (fun x => mx x (-x))).sum
theorem sumI_cons (x : Int) (l : List Int) : sumI (x :: l) = mx x (-x) + sumI l := by simp [sumI]
theorem sumI_bd (l : List Int) (hb : InB (-6) 6 l) : 0 ≤ sumI l ∧ sumI l ≤ 6 * l.length := by
 induction l with
 | nil => simp [sumI]
 | cons x l ih =>
  have h1 := hb x (List.mem_cons_self)
  have h2 := ih (fun y hy => hb y (List.mem_cons_of_mem _ hy))
  rw [sumI_cons, List.length_cons]
  have : 0 ≤ mx x (-x) ∧ mx x (-x) ≤ 6 := by unfold mx; split <;> omega
  omega
theorem drop_sum (l : List Int) (i : Nat) (h : i < l.length) : sumI (l.drop i) = mx (l.getD i 0) (-(l.getD i 0)) + sumI (l.drop (i + 1)) := by
 rw [List.drop_eq_getElem_cons h, sumI_cons, List.getD_eq_getElem?_getD, List.getElem?_eq_getElem h]
 rfl
theorem sumI_loop (l : List Int) (hl : l.length ≤ 1048576) (hb : InB (-6) 6 l) : ∀ (m i : Nat) (s : Int), l.length - i = m → i ≤ l.length → 0 ≤ s → s ≤ 6 * i → Ev (fun k => impl_sizeOfTurns.l0 k s l (l.length : Int) (i : Int)) (s + sumI (l.drop i)) := by
 intro m
 induction m with
 | zero =>
  intro i s h1 h2 h3 h4
  have e : s + sumI (l.drop i) = s := by rw [List.drop_of_length_le (by omega)]; simp [sumI]
  rw [e]
  refine ev_end (fun k => ?_)
  simp only [impl_sizeOfTurns.l0]; rw [if_neg (by omega)]
 | succ m ih =>
  intro i s h1 h2 h3 h4
  have hi : i < l.length := by omega
  have hx := hb _ (mem_getD l 0 i hi)
  have hm : 0 ≤ mx (l.getD i 0) (-(l.getD i 0)) ∧ mx (l.getD i 0) (-(l.getD i 0)) ≤ 6 := by unfold mx; split <;> omega
  have q2 := ih (i + 1) (s + mx (l.getD i 0) (-(l.getD i 0))) (by omega) (by omega) (by omega) (by omega)
  have e : s + sumI (l.drop i) = s + mx (l.getD i 0) (-(l.getD i 0)) + sumI (l.drop (i + 1)) := by rw [drop_sum l i hi]; omega
  rw [e]
  refine ev_step (fun k => ?_) q2
  simp only [impl_sizeOfTurns.l0]
  rw [if_pos (by omega), if_pos (by omega), if_pos (by omega), succ_cast i (by omega)]
  simp only [rd, Int.toNat_natCast]
  rw [wrap_in (x := -(l.getD i 0)) (by omega) (by omega), wrap_in (by omega) (by omega)]
theorem sizeBoth (l : List Int) (hl : l.length ≤ 1048576) (hb : InB (-6) 6 l) : Ev (fun k => impl_sizeOfTurns.f k l) (sumI l) := by
 have h := sumI_loop l hl hb l.length 0 0 (by omega) (by omega) (by omega) (by omega)
 rw [List.drop_zero, Int.zero_add] at h
 exact h
theorem countAny (l : List Int) (hl : l.length ≤ 1048576) : ∀ (m i : Nat) (s : Int), l.length - i = m → i ≤ l.length → ∃ r, Ev (fun k => impl_sizeOfTurns.l0 k s l (l.length : Int) (i : Int)) r := by
 intro m
 induction m with
 | zero =>
  intro i s h1 h2
  refine ⟨s, ev_end (fun k => ?_)⟩
  simp only [impl_sizeOfTurns.l0]; rw [if_neg (by omega)]
 | succ m ih =>
  intro i s h1 h2
  have hi : i < l.length := by omega
  obtain ⟨r2, q2⟩ := ih (i + 1) (wrap64 (s + mx (l.getD i 0) (wrap64 (-(l.getD i 0))))) (by omega) (by omega)
  refine ⟨r2, ev_step (fun k => ?_) q2⟩
  simp only [impl_sizeOfTurns.l0]
  rw [if_pos (by omega), if_pos (by omega), if_pos (by omega), succ_cast i (by omega)]
  simp only [rd, Int.toNat_natCast]
theorem ndOk (ts : List Int) (es : List (List Int)) (lo hi : List Int) (hv : okTB ts es = true) (h1 : lo.length = ts.length) (h2 : hi.length = ts.length) : NdOk ts es lo hi := by
 obtain ⟨hel, hn1, hn4, _, hrows⟩ := okT_row hv
 refine ⟨hn1, by omega, h1, h2, fun tn htn => ?_⟩
 obtain ⟨r, hr⟩ := countAny tn (by omega) tn.length 0 0 (by omega) (by omega)
 exact ⟨afterT ts es tn, r, ev_ex (aftI0 ts es tn hv htn), afterT_len _ _ _, ev_ex (g := fun k => impl_sizeOfTurns.f k tn) hr⟩
theorem stepN_val (ts : List Int) (es : List (List Int)) (lo hi : List Int) (hv : okTB ts es = true) (s : Option (List Int × Int)) (tn : List Int) (htn : tn.length = ts.length) (hb : InB (-6) 6 tn) : stepN ts es lo hi s tn = stepB s tn (inB (afterT ts es tn) lo hi (afterT ts es tn).length 0) (sumI tn) := by
 have h4 := (okT_row hv).2.2.1
 exact stepN_eq (ev_ex (aftI0 ts es tn hv htn)) (ev_ex (sizeBoth tn (by omega) hb))
def bdB (l : List Int) (n : Nat) : Bool := decide (l.length = n) && l.all (fun x => decide (0 ≤ x) && decide (x ≤ 1000000))
theorem implBd (l : List Int) (hl : l.length ≤ 1048576) (n : Nat) : Ev (fun k => impl_areIn.f k l (n : Int) 0 1000000) (bdB l n) := by
 refine ev_eq (areIn l (by omega) _ _ _) ?_
 unfold bdB
 congr 1
 by_cases h : l.length = n
 ·rw [decide_eq_true h, decide_eq_true (by omega)]
 ·rw [decide_eq_false h, decide_eq_false (by omega)]
def resN (ts : List Int) (es : List (List Int)) (lo hi : List Int) (s : Option (List Int × Int)) : List Int × Int :=
 if okTB ts es = true then (if bdB lo ts.length = true then (if bdB hi ts.length = true then (match s with | none => ([], 3) | some p => (p.1, 0)) else ([], 2)) else ([], 2)) else ([], 1)
theorem needI (ts : List Int) (es : List (List Int)) (lo hi : List Int) (hs : Small ts es) (hlo : lo.length ≤ 1048576) (hhi : hi.length ≤ 1048576) : Ev (fun k => impl_TurnsNeeded.f k ts es lo hi) (resN ts es lo hi (fills (stepN ts es lo hi) ts.length none [])) := by
 unfold impl_TurnsNeeded.f resN
 refine ev_bind (implT ts es hs) ?_
 cases hv : okTB ts es with
 | false => exact ev_now fun _ => rfl
 | true =>
  refine ev_if_pos rfl (ev_bind (implBd lo hlo ts.length) ?_)
  cases h1 : bdB lo ts.length with
  | false => exact ev_now fun _ => rfl
  | true =>
   refine ev_if_pos rfl (ev_bind (implBd hi hhi ts.length) ?_)
   cases h2 : bdB hi ts.length with
   | false => exact ev_now fun _ => rfl
   | true =>
    have l1 : lo.length = ts.length := by simp only [bdB, Bool.and_eq_true, decide_eq_true_eq] at h1; exact h1.1
    have l2 : hi.length = ts.length := by simp only [bdB, Bool.and_eq_true, decide_eq_true_eq] at h2; exact h2.1
    refine ev_if_pos rfl (ev_now fun _ => ?_)
    rw [if_pos (ndOk ts es lo hi hv l1 l2)]
    cases fills (stepN ts es lo hi) ts.length none [] with
    | none => rfl
    | some p => rfl
def IsFit (ts : List Int) (es : List (List Int)) (lo hi : List Int) (s : Option (List Int × Int)) : Prop := ∀ p, s = some p → p.1.length = ts.length ∧ InB (-6) 6 p.1 ∧ inB (afterT ts es p.1) lo hi (afterT ts es p.1).length 0 = true ∧ p.2 = sumI p.1
theorem fit_one (ts : List Int) (es : List (List Int)) (lo hi : List Int) (hv : okTB ts es = true) : IsFit ts es lo hi (fills (stepN ts es lo hi) ts.length none []) := by
 refine fills_inv (IsFit ts es lo hi) _ ts.length (fun s tn hl hb hs => ?_) ts.length none [] (by simp) (fun x hx => by simp at hx) (fun p hp => by simp at hp)
 rw [stepN_val ts es lo hi hv s tn hl hb]
 unfold stepB
 split
 ·rename_i hc
  intro p hp
  injection hp with hp
  subst hp
  exact ⟨hl, hb, hc.1, rfl⟩
 ·exact hs
theorem fit_least (ts : List Int) (es : List (List Int)) (lo hi : List Int) (hv : okTB ts es = true) (tn : List Int) (hl : tn.length = ts.length) (hb : InB (-6) 6 tn) (h0 : inB (afterT ts es tn) lo hi (afterT ts es tn).length 0 = true) : ∃ p, fills (stepN ts es lo hi) ts.length none [] = some p ∧ p.2 ≤ sumI tn := by
 refine fills_cov (fun s => ∃ p : List Int × Int, s = some p ∧ p.2 ≤ sumI tn) _ ts.length tn hl hb (fun s t htl htb hs => ?_) (fun s => ?_) ts.length none [] (by simp) rfl
 ·obtain ⟨p, rfl, hp⟩ := hs
  rw [stepN_val ts es lo hi hv _ t htl htb]
  unfold stepB
  split
  ·rename_i hc
   exact ⟨_, rfl, by have := hc.2 p rfl; show sumI t ≤ _; omega⟩
  ·exact ⟨p, rfl, hp⟩
 ·rw [stepN_val ts es lo hi hv _ tn hl hb]
  unfold stepB
  split
  ·exact ⟨_, rfl, Int.le_refl _⟩
  ·rename_i hc
   cases s with
   | none => exact absurd ⟨h0, fun p hp => by simp at hp⟩ hc
   | some p =>
    refine ⟨p, rfl, ?_⟩
    by_cases hlt : sumI tn < p.2
    ·exact absurd ⟨h0, fun q hq => by injection hq with hq; rw [← hq]; exact hlt⟩ hc
    ·omega
theorem inB_is (a lo hi : List Int) : ∀ (m q : Nat), (inB a lo hi m q = true ↔ ∀ j, q ≤ j → j < q + m → lo.getD j 0 ≤ a.getD j 0 ∧ a.getD j 0 ≤ hi.getD j 0) := by
 intro m
 induction m with
 | zero => intro q; exact ⟨fun _ j h1 h2 => by omega, fun _ => rfl⟩
 | succ m ih =>
  intro q
  unfold inB
  rw [Bool.and_eq_true, Bool.and_eq_true, decide_eq_true_eq, decide_eq_true_eq, ih (q + 1)]
  constructor
  ·intro h j h1 h2
   by_cases e : j = q
   ·subst e; exact h.1
   ·exact h.2 j (by omega) (by omega)
  ·intro h
   exact ⟨h q (by omega) (by omega), fun j h1 h2 => h j (by omega) (by omega)⟩
def dotI (row tn : List Int) : Nat → Nat → Int
 | 0, _ => 0
 | m + 1, k => row.getD k 0 * tn.getD k 0 + dotI row tn m (k + 1)
theorem mul_bd (a b : Int) (ha : -1000 ≤ a ∧ a ≤ 1000) (hb : -6 ≤ b ∧ b ≤ 6) : -6000 ≤ a * b ∧ a * b ≤ 6000 := by
 have h : b = -6 ∨ b = -5 ∨ b = -4 ∨ b = -3 ∨ b = -2 ∨ b = -1 ∨ b = 0 ∨ b = 1 ∨ b = 2 ∨ b = 3 ∨ b = 4 ∨ b = 5 ∨ b = 6 := by omega
 rcases h with h | h | h | h | h | h | h | h | h | h | h | h | h <;> subst h <;> omega
theorem getD_set_eq (o : List Int) (i : Nat) (x : Int) (h : i < o.length) : (o.set i x).getD i 0 = x := by
 rw [List.getD_eq_getElem?_getD, List.getElem?_set_self h]; rfl
theorem getD_set_ne (o : List Int) (i j : Nat) (x : Int) (h : i ≠ j) : (o.set i x).getD j 0 = o.getD j 0 := by
 rw [List.getD_eq_getElem?_getD, List.getElem?_set_ne h, ← List.getD_eq_getElem?_getD]
theorem stI_off (row tn : List Int) (i j : Nat) (hij : i ≠ j) : ∀ (m k : Nat) (o : List Int), (stI row tn i m k o).getD j 0 = o.getD j 0 := by
 intro m
 induction m with
 | zero => intro k o; rfl
 | succ m ih => intro k o; show (stI row tn i m (k + 1) _).getD j 0 = _; rw [ih, getD_set_ne _ _ _ _ hij]
theorem stI_on (row tn : List Int) (i n : Nat) (hr : ∀ j < n, -1000 ≤ row.getD j 0 ∧ row.getD j 0 ≤ 1000) (ht : ∀ j < n, -6 ≤ tn.getD j 0 ∧ tn.getD j 0 ≤ 6) : ∀ (m k : Nat) (o : List Int), k + m ≤ n → m ≤ 4 → i < o.length → -10000000 + 6000 * (m : Int) ≤ o.getD i 0 → o.getD i 0 ≤ 10000000 - 6000 * (m : Int) → (stI row tn i m k o).getD i 0 = o.getD i 0 + dotI row tn m k ∧ -6000 * (m : Int) ≤ dotI row tn m k ∧ dotI row tn m k ≤ 6000 * (m : Int) := by
 intro m
 induction m with
 | zero => intro k o _ _ _ _ _; refine ⟨?_, ?_, ?_⟩ <;> simp [stI, dotI]
 | succ m ih =>
  intro k o h1 h2 h3 h4 h5
  have hp := mul_bd _ _ (hr k (by omega)) (ht k (by omega))
  have hd : dotI row tn (m + 1) k = row.getD k 0 * tn.getD k 0 + dotI row tn m (k + 1) := rfl
  have hs : stI row tn i (m + 1) k o = stI row tn i m (k + 1) (o.set i (wrap64 (o.getD i 0 + wrap64 (row.getD k 0 * tn.getD k 0)))) := rfl
  generalize row.getD k 0 * tn.getD k 0 = q at hp hd hs
  rw [wrap_in (x := q) (by omega) (by omega), wrap_in (x := o.getD i 0 + q) (by omega) (by omega)] at hs
  have e := getD_set_eq o i (o.getD i 0 + q) h3
  obtain ⟨g1, g2, g3⟩ := ih (k + 1) (o.set i (o.getD i 0 + q)) (by omega) (by omega) (by rw [List.length_set]; exact h3) (by rw [e]; omega) (by rw [e]; omega)
  rw [hs, g1, hd, e]
  omega
theorem stO_on (es : List (List Int)) (tn : List Int) (n : Nat) (hn : n ≤ 4) (hr : ∀ i < n, ∀ j < n, -1000 ≤ (es.getD i []).getD j 0 ∧ (es.getD i []).getD j 0 ≤ 1000) (ht : ∀ j < n, -6 ≤ tn.getD j 0 ∧ tn.getD j 0 ≤ 6) : ∀ (m i : Nat) (o : List Int), i + m = n → o.length = n → (∀ j < n, -9000000 ≤ o.getD j 0 ∧ o.getD j 0 ≤ 9000000) →
  ∀ j < n, (j < i → (stO es tn n m i o).getD j 0 = o.getD j 0) ∧ (i ≤ j → (stO es tn n m i o).getD j 0 = o.getD j 0 + dotI (es.getD j []) tn n 0 ∧ -6000 * (n : Int) ≤ dotI (es.getD j []) tn n 0 ∧ dotI (es.getD j []) tn n 0 ≤ 6000 * (n : Int)) := by
 intro m
 induction m with
 | zero => intro i o h1 h2 h3 j hj; exact ⟨fun _ => rfl, fun h => by omega⟩
 | succ m ih =>
  intro i o h1 h2 h3 j hj
  have hb := h3 i (by omega)
  have hon := stI_on (es.getD i []) tn i n (hr i (by omega)) ht n 0 o (by omega) hn (by omega) (by omega) (by omega)
  have hs : stO es tn n (m + 1) i o = stO es tn n m (i + 1) (stI (es.getD i []) tn i n 0 o) := rfl
  -- the rows behind i are as they were
  have key : ∀ (m i : Nat) (o : List Int), i + m = n → ∀ j, j < i → (stO es tn n m i o).getD j 0 = o.getD j 0 := by
   intro m
   induction m with
   | zero => intro i o _ j _; rfl
   | succ m ih2 => intro i o h1 j hj; show (stO es tn n m (i + 1) _).getD j 0 = _; rw [ih2 (i + 1) _ (by omega) j (by omega), stI_off _ _ _ _ (by omega)]
  by_cases hij : j = i
  ·subst hij
   refine ⟨fun h => by omega, fun _ => ?_⟩
   rw [hs, key m (j + 1) _ (by omega) j (by omega)]
   exact hon
  ·by_cases hlt : j < i
   ·refine ⟨fun _ => ?_, fun h => by omega⟩
    rw [hs, key m (i + 1) _ (by omega) j (by omega), stI_off _ _ _ _ (by omega)]
   ·refine ⟨fun h => by omega, fun _ => ?_⟩
    -- a row still to come: the numbers of the others are kept, so the induction serves on any list that agrees there
    have key2 : ∀ (m i : Nat) (o : List Int), i + m = n → o.length = n → i ≤ j → -9000000 ≤ o.getD j 0 → o.getD j 0 ≤ 9000000 → (stO es tn n m i o).getD j 0 = o.getD j 0 + dotI (es.getD j []) tn n 0 ∧ -6000 * (n : Int) ≤ dotI (es.getD j []) tn n 0 ∧ dotI (es.getD j []) tn n 0 ≤ 6000 * (n : Int) := by
     intro m
     induction m with
     | zero => intro i o h1 h2 h3; omega
     | succ m ih3 =>
      intro i o h1 h2 h3 h4 h5
      have hs : stO es tn n (m + 1) i o = stO es tn n m (i + 1) (stI (es.getD i []) tn i n 0 o) := rfl
      by_cases e : j = i
      ·subst e
       rw [hs, key m (j + 1) _ (by omega) j (by omega)]
       exact stI_on (es.getD j []) tn j n (hr j hj) ht n 0 o (by omega) hn (by omega) (by omega) (by omega)
      ·have e2 := stI_off (es.getD i []) tn i j (by omega) n 0 o
       rw [hs, ← e2]
       exact ih3 (i + 1) _ (by omega) (by rw [stI_len]; exact h2) (by omega) (by rw [e2]; exact h4) (by rw [e2]; exact h5)
    exact key2 (m + 1) i o h1 h2 (by omega) (h3 j hj).1 (h3 j hj).2
theorem afterT_at (ts : List Int) (es : List (List Int)) (tn : List Int) (hv : okTB ts es = true) (hl : tn.length = ts.length) (hb : InB (-6) 6 tn) (j : Nat) (hj : j < ts.length) : (afterT ts es tn).getD j 0 = ts.getD j 0 + dotI (es.getD j []) tn ts.length 0 ∧ -24000 ≤ dotI (es.getD j []) tn ts.length 0 ∧ dotI (es.getD j []) tn ts.length 0 ≤ 24000 := by
 obtain ⟨hel, h1, h4, hts, hrows⟩ := okT_row hv
 have h := (stO_on es tn ts.length h4 (fun i hi => (hrows i hi).2) (fun j hj => hb _ (getD_mem (by omega))) ts.length 0 ts (by omega) rfl (fun j hj => by have := hts j hj; omega) j hj).2 (by omega)
 unfold afterT
 refine ⟨h.1, ?_, ?_⟩ <;> omega
def backs (tn : List Int) : List Int := tn.map (fun x => wrap64 (-x))
theorem backs_len (tn : List Int) : (backs tn).length = tn.length := by simp [backs]
theorem backs_take (tn : List Int) (i : Nat) (hi : i < tn.length) : (backs (tn.take (i + 1))) = backs (tn.take i) ++ [wrap64 (-(tn.getD i 0))] := by
 unfold backs
 rw [List.take_succ_eq_append_getElem hi, List.map_append]
 simp [List.getD_eq_getElem?_getD, List.getElem?_eq_getElem hi]
theorem backs_at (tn : List Int) (i : Nat) (hi : i < tn.length) : (backs tn).getD i 0 = wrap64 (-(tn.getD i 0)) := by
 unfold backs
 rw [List.getD_eq_getElem?_getD, List.getElem?_map, List.getD_eq_getElem?_getD, List.getElem?_eq_getElem hi]
 rfl
theorem backs_at' (tn : List Int) (hb : InB (-6) 6 tn) (i : Nat) (hi : i < tn.length) : (backs tn).getD i 0 = -(tn.getD i 0) := by
 have := hb _ (getD_mem hi : tn.getD i 0 ∈ tn)
 rw [backs_at tn i hi, wrap_in (by omega) (by omega)]
theorem backs_in (tn : List Int) (hb : InB (-6) 6 tn) : InB (-6) 6 (backs tn) := by
 intro x hx
 obtain ⟨y, hy, rfl⟩ := List.mem_map.1 hx
 have := hb y hy
 show -6 ≤ wrap64 (-y) ∧ wrap64 (-y) ≤ 6
 rw [wrap_in (by omega) (by omega)]
 omega
theorem implB (tn : List Int) (hn : tn.length ≤ 1048576) : Ev (fun k => impl_BackTurns.l0 k [] tn (tn.length : Int) 0) (backs tn, 0) := by
 refine ev_eq (loop_all (fun k i => impl_BackTurns.l0 k (backs (tn.take i)) tn (tn.length : Int) (i : Int)) tn.length (backs tn, 0) (fun i hi k => ?_) (ev_end fun k => ?_)) rfl
 ·show impl_BackTurns.l0 (k + 1) _ _ _ _ = impl_BackTurns.l0 k _ _ _ _
  simp only [impl_BackTurns.l0]
  rw [if_pos (by omega), if_pos (by omega), if_pos (by omega), if_pos (by simp [backs]; omega), succ_cast i (by omega), backs_take tn i hi]
  simp only [rd, Int.toNat_natCast]
 ·show impl_BackTurns.l0 (k + 1) _ _ _ _ = _
  simp only [impl_BackTurns.l0]
  rw [if_neg (by omega), List.take_length]
theorem dot_back (row tn : List Int) (n : Nat) (hb : InB (-6) 6 tn) (hl : tn.length = n) : ∀ (m k : Nat), k + m ≤ n → dotI row (backs tn) m k = -dotI row tn m k := by
 intro m
 induction m with
 | zero => intro k _; rfl
 | succ m ih =>
  intro k h
  show row.getD k 0 * (backs tn).getD k 0 + dotI row (backs tn) m (k + 1) = -(row.getD k 0 * tn.getD k 0 + dotI row tn m (k + 1))
  rw [ih (k + 1) (by omega), backs_at' tn hb k (by omega), Int.mul_neg, Int.neg_add]
theorem ext_getD {a b : List Int} (hl : a.length = b.length) (h : ∀ j < a.length, a.getD j 0 = b.getD j 0) : a = b := by
 refine List.ext_getElem hl (fun j h1 h2 => ?_)
 have := h j h1
 rw [List.getD_eq_getElem?_getD, List.getD_eq_getElem?_getD, List.getElem?_eq_getElem h1, List.getElem?_eq_getElem h2] at this
 exact this
theorem okT_after (ts : List Int) (es : List (List Int)) (hv : okTB ts es = true) (a : List Int) (hl : a.length = ts.length) (ha : ∀ j < ts.length, 0 ≤ a.getD j 0 ∧ a.getD j 0 ≤ 1000000) : okTB a es = true := by
 obtain ⟨hel, h1, h4, hts, hrows⟩ := okT_row hv
 rw [okT_end (by omega) (fun j hj => ⟨ha j (by omega), by rw [hl]; exact row_good (hrows j (by omega)).1 (fun i hi => (hrows j (by omega)).2 i (by rw [(hrows j (by omega)).1] at hi; exact hi))⟩), hl]
 simp only [Bool.and_eq_true, decide_eq_true_eq]
 exact ⟨h1, h4⟩
theorem back_again (ts : List Int) (es : List (List Int)) (tn : List Int) (hv : okTB ts es = true) (hl : tn.length = ts.length) (hb : InB (-6) 6 tn) (hv2 : okTB (afterT ts es tn) es = true) : afterT (afterT ts es tn) es (backs tn) = ts := by
 refine ext_getD (by rw [afterT_len, afterT_len]) (fun j hj => ?_)
 rw [afterT_len, afterT_len] at hj
 have h1 := (afterT_at ts es tn hv hl hb j hj).1
 have h2 := (afterT_at (afterT ts es tn) es (backs tn) hv2 (by rw [backs_len, afterT_len]; exact hl) (backs_in tn hb) j (by rw [afterT_len]; exact hj)).1
 rw [h2, h1, afterT_len, dot_back _ tn ts.length hb hl ts.length 0 (by omega)]
 omega
theorem ev_succ {α : Type} {g : Nat → Option α} {r : α} (h : Ev (fun k => g (k + 1)) r) : Ev g r := Ev.step (fun _ => rfl) h
theorem code0 (ts : List Int) (es : List (List Int)) (hv : okTB ts es = true) (tn : List Int) (hl : tn.length = ts.length) (hb : InB (-6) 6 tn) : codeT ts es tn = 0 := by
 unfold codeT
 rw [if_pos hv, if_pos]
 simp only [Bool.and_eq_true, List.all_eq_true, decide_eq_true_eq]
 exact ⟨fun x hx => hb x hx, hl⟩
theorem small_of {ts : List Int} {es : List (List Int)} (hv : okTB ts es = true) : Small ts es := by
 obtain ⟨hel, h1, h4, _, hrows⟩ := okT_row hv
 refine ⟨by omega, by omega, fun row hrow => ?_⟩
 obtain ⟨i, hi, rfl⟩ := List.mem_iff_getElem.1 hrow
 have := (hrows i (by omega)).1
 rw [List.getD_eq_getElem?_getD, List.getElem?_eq_getElem hi] at this
 simp at this
 omega
theorem aftI (ts : List Int) (es : List (List Int)) (hv : okTB ts es = true) (tn : List Int) (hl : tn.length = ts.length) (hb : InB (-6) 6 tn) : Ev (fun k => impl_TensionsAfter.f k ts es tn) (afterT ts es tn, 0) := by
 have h4 := (okT_row hv).2.2.1
 unfold impl_TensionsAfter.f
 refine ev_bind (implC ts es tn (small_of hv) (by omega)) ?_
 rw [code0 ts es hv tn hl hb]
 exact ev_if_pos rfl (ev_bind (aftI0 ts es tn hv hl) (ev_now fun _ => rfl))
theorem cntI (ts : List Int) (es : List (List Int)) (hv : okTB ts es = true) (tn : List Int) (hl : tn.length = ts.length) (hb : InB (-6) 6 tn) : Ev (fun k => impl_CountTurns.f k ts es tn) (sumI tn, 0) := by
 have h4 := (okT_row hv).2.2.1
 unfold impl_CountTurns.f
 refine ev_bind (implC ts es tn (small_of hv) (by omega)) ?_
 rw [code0 ts es hv tn hl hb]
 exact ev_if_pos rfl (ev_bind (sizeBoth tn (by omega) hb) (ev_now fun _ => rfl))
theorem bckI (ts : List Int) (es : List (List Int)) (hv : okTB ts es = true) (tn : List Int) (hl : tn.length = ts.length) (hb : InB (-6) 6 tn) : Ev (fun k => impl_BackTurns.f k ts es tn) (backs tn, 0) := by
 have h4 := (okT_row hv).2.2.1
 unfold impl_BackTurns.f
 refine ev_bind (implC ts es tn (small_of hv) (by omega)) ?_
 rw [code0 ts es hv tn hl hb]
 exact ev_if_pos rfl (implB tn (by omega))
theorem minI (a : List Int) (h0 : 0 < a.length) (h6 : a.length ≤ 1048576) : ∃ x, Ev (fun k => slices_Min_int64_int64.f k a) x ∧ (∀ j < a.length, x ≤ a.getD j 0) ∧ ∃ j < a.length, a.getD j 0 = x := by
 have key : ∀ (m i : Nat) (x : Int), a.length - i = m → i ≤ a.length → (∀ j < i, x ≤ a.getD j 0) → (∃ j < a.length, a.getD j 0 = x) → ∃ y, Ev (fun k => slices_Min_int64_int64.l0 k a x (i : Int)) y ∧ (∀ j < a.length, y ≤ a.getD j 0) ∧ ∃ j < a.length, a.getD j 0 = y := by
  intro m
  induction m with
  | zero =>
   intro i x h1 h2 h3 h4
   refine ⟨x, ev_end (fun k => ?_), fun j hj => h3 j (by omega), h4⟩
   simp only [slices_Min_int64_int64.l0]
   rw [if_neg (by omega)]
  | succ m ih =>
   intro i x h1 h2 h3 h4
   obtain ⟨y, q1, q2⟩ := ih (i + 1) (mn x (a.getD i 0)) (by omega) (by omega) (fun j hj => by
    by_cases e : j = i
    ·subst e; unfold mn; split <;> omega
    ·have := h3 j (by omega); unfold mn; split <;> omega) (by
    unfold mn
    split
    ·exact ⟨i, by omega, rfl⟩
    ·exact h4)
   refine ⟨y, ev_step (fun k => ?_) q1, q2⟩
   simp only [slices_Min_int64_int64.l0]
   rw [if_pos (by omega), if_pos (by omega), succ_cast i (by omega)]
   simp only [rd, Int.toNat_natCast]
 unfold slices_Min_int64_int64.f
 obtain ⟨y, q1, q2⟩ := key _ 1 (a.getD 0 0) rfl (by omega) (fun j hj => Int.le_of_eq (by rw [show j = 0 by omega])) ⟨0, h0, rfl⟩
 exact ⟨y, ev_if_neg (by omega) (ev_if_pos (by omega) q1), q2⟩
theorem maxI (a : List Int) (h0 : 0 < a.length) (h6 : a.length ≤ 1048576) (b : Int) (hb : ∀ j < a.length, a.getD j 0 ≤ b) : ∃ x, Ev (fun k => slices_Max_int64_int64.f k a) x ∧ x ≤ b := by
 have key : ∀ (m i : Nat) (x : Int), a.length - i = m → i ≤ a.length → x ≤ b → ∃ y, Ev (fun k => slices_Max_int64_int64.l0 k a x (i : Int)) y ∧ y ≤ b := by
  intro m
  induction m with
  | zero =>
   intro i x h1 h2 h3
   refine ⟨x, ev_end (fun k => ?_), h3⟩
   simp only [slices_Max_int64_int64.l0]
   rw [if_neg (by omega)]
  | succ m ih =>
   intro i x h1 h2 h3
   obtain ⟨y, q1, q2⟩ := ih (i + 1) (mx x (a.getD i 0)) (by omega) (by omega) (by have := hb i (by omega); unfold mx; split <;> omega)
   refine ⟨y, ev_step (fun k => ?_) q1, q2⟩
   simp only [slices_Max_int64_int64.l0]
   rw [if_pos (by omega), if_pos (by omega), succ_cast i (by omega)]
   simp only [rd, Int.toNat_natCast]
 unfold slices_Max_int64_int64.f
 obtain ⟨y, q1, q2⟩ := key _ 1 (a.getD 0 0) rfl (by omega) (hb 0 h0)
 exact ⟨y, ev_if_neg (by omega) (ev_if_pos (by omega) q1), q2⟩
theorem rows_copy (es : List (List Int)) (a : List Int) (hn : es.length ≤ 4) (hr : ∀ i < es.length, (es.getD i []).length ≤ 4) : ∀ (m i : Nat), es.length - i = m → i ≤ es.length → Ev (fun k => impl_Retuned.l0 k es (es.length : Int) (i : Int) a (es.take i)) (a, es, 0) := by
 intro m
 induction m with
 | zero =>
  intro i h1 h2
  refine ev_end (fun k => ?_)
  simp only [impl_Retuned.l0]
  rw [if_neg (by omega), List.take_of_length_le (by omega)]
 | succ m ih =>
  intro i h1 h2
  refine ev_step (fun k => ?_) (ih (i + 1) (by omega) (by omega))
  have hi : i < es.length := by omega
  have e : rd_L2 es (i : Int) = es.getD i [] := by simp only [rd_L2, Int.toNat_natCast]
  have e2 : es.take (i + 1) = es.take i ++ [es.getD i []] := by
   rw [List.take_succ_eq_append_getElem hi, List.getD_eq_getElem?_getD, List.getElem?_eq_getElem hi]
   rfl
  have := hr i hi
  simp only [impl_Retuned.l0]
  rw [if_pos (by omega), if_pos (by omega), if_pos (by omega)]
  simp only [Option.bind_some]
  rw [e, if_pos (by rw [List.length_nil]; omega), if_pos (by rw [List.length_take]; omega), succ_cast i (by omega), e2]
  rfl
theorem retI (ts : List Int) (es : List (List Int)) (hv : okTB ts es = true) (tn : List Int) (hl : tn.length = ts.length) (hb : InB (-6) 6 tn) (hmax : ∀ j < ts.length, (afterT ts es tn).getD j 0 ≤ 1000000) :
  ((∃ j < ts.length, (afterT ts es tn).getD j 0 < 0) ∧ Ev (fun k => impl_Retuned.f k ts es tn) ([], [], 10)) ∨ ((∀ j < ts.length, 0 ≤ (afterT ts es tn).getD j 0) ∧ Ev (fun k => impl_Retuned.f k ts es tn) (afterT ts es tn, es, 0)) := by
 obtain ⟨hel, h1, h4, hts, hrows⟩ := okT_row hv
 have hal := afterT_len ts es tn
 obtain ⟨x, m1, m2, m3⟩ := minI (afterT ts es tn) (by omega) (by omega)
 obtain ⟨y, n1, n2⟩ := maxI (afterT ts es tn) (by omega) (by omega) 1000000 (fun j hj => hmax j (by omega))
 unfold impl_Retuned.f
 by_cases hx : x < 0
 ·obtain ⟨j, hj, e⟩ := m3
  refine .inl ⟨⟨j, by omega, by omega⟩, ev_bind (implC ts es tn (small_of hv) (by omega)) ?_⟩
  rw [code0 ts es hv tn hl hb]
  exact ev_if_pos rfl (ev_bind (aftI0 ts es tn hv hl) (ev_bind m1 (ev_if_pos hx (ev_now fun _ => rfl))))
 ·refine .inr ⟨fun j hj => by have := m2 j (by omega); omega, ev_bind (implC ts es tn (small_of hv) (by omega)) ?_⟩
  rw [code0 ts es hv tn hl hb]
  refine ev_if_pos rfl (ev_bind (aftI0 ts es tn hv hl) (ev_bind m1 (ev_if_neg hx (ev_bind n1 (ev_if_neg (by omega) ?_)))))
  exact rows_copy es (afterT ts es tn) (by omega) (fun i hi => by rw [(hrows i (by omega)).1]; omega) es.length 0 (by omega) (by omega)
def FirstP (a : List Int) (p : Nat) : Prop := p < a.length ∧ a.getD p 0 ≤ 0 ∧ ∀ j < p, 0 < a.getD j 0
theorem looseI (a : List Int) (hl : a.length ≤ 1048576) : ((∀ j < a.length, 0 < a.getD j 0) ∧ Ev (fun k => impl_FirstLoose.l0 k a (a.length : Int) 0) (0, 3)) ∨ ∃ p, FirstP a p ∧ Ev (fun k => impl_FirstLoose.l0 k a (a.length : Int) 0) ((p : Int), 0) := by
 have key : ∀ (m i : Nat), a.length - i = m → i ≤ a.length → (∀ j < i, 0 < a.getD j 0) → ((∀ j < a.length, 0 < a.getD j 0) ∧ Ev (fun k => impl_FirstLoose.l0 k a (a.length : Int) (i : Int)) (0, 3)) ∨ ∃ p, FirstP a p ∧ Ev (fun k => impl_FirstLoose.l0 k a (a.length : Int) (i : Int)) ((p : Int), 0) := by
  intro m
  induction m with
  | zero =>
   intro i h1 h2 h3
   refine .inl ⟨fun j hj => h3 j (by omega), ev_end fun k => ?_⟩
   simp only [impl_FirstLoose.l0]; rw [if_neg (by omega)]
  | succ m ih =>
   intro i h1 h2 h3
   have e : rd a (i : Int) = a.getD i 0 := by simp only [rd, Int.toNat_natCast]
   by_cases hz : a.getD i 0 ≤ 0
   ·refine .inr ⟨i, ⟨by omega, hz, h3⟩, ev_end fun k => ?_⟩
    simp only [impl_FirstLoose.l0]; rw [if_pos (by omega), if_pos (by omega), if_pos (by omega), if_pos (by omega)]
   ·have h4 : ∀ j < i + 1, 0 < a.getD j 0 := fun j hj => by
     by_cases e : j = i
     ·subst e; omega
     ·exact h3 j (by omega)
    have st : ∀ k, impl_FirstLoose.l0 (k + 1) a (a.length : Int) (i : Int) = impl_FirstLoose.l0 k a (a.length : Int) ((i + 1 : Nat) : Int) := fun k => by
     simp only [impl_FirstLoose.l0]; rw [if_pos (by omega), if_pos (by omega), if_pos (by omega), if_neg (by omega), succ_cast i (by omega)]
    rcases ih (i + 1) (by omega) (by omega) h4 with ⟨g1, g2⟩ | ⟨p, g1, g2⟩
    ·exact .inl ⟨g1, ev_step st g2⟩
    ·exact .inr ⟨p, g1, ev_step st g2⟩
 exact key a.length 0 (by omega) (by omega) (fun j hj => by omega)
theorem firI (ts : List Int) (es : List (List Int)) (hv : okTB ts es = true) (tn : List Int) (hl : tn.length = ts.length) (hb : InB (-6) 6 tn) :
  ((∀ j < ts.length, 0 < (afterT ts es tn).getD j 0) ∧ Ev (fun k => impl_FirstLoose.f k ts es tn) (0, 3)) ∨ ∃ p, FirstP (afterT ts es tn) p ∧ Ev (fun k => impl_FirstLoose.f k ts es tn) ((p : Int), 0) := by
 have h4 := (okT_row hv).2.2.1
 have hal := afterT_len ts es tn
 have st : ∀ r, Ev (fun k => impl_FirstLoose.l0 k (afterT ts es tn) ((afterT ts es tn).length : Int) 0) r → Ev (fun k => impl_FirstLoose.f k ts es tn) r := fun r h => by
  unfold impl_FirstLoose.f
  refine ev_bind (implC ts es tn (small_of hv) (by omega)) ?_
  rw [code0 ts es hv tn hl hb]
  exact ev_if_pos rfl (ev_bind (aftI0 ts es tn hv hl) h)
 rcases looseI (afterT ts es tn) (by omega) with ⟨g1, g2⟩ | ⟨p, g1, g2⟩
 ·exact .inl ⟨fun j hj => g1 j (by omega), st _ g2⟩
 ·exact .inr ⟨p, g1, st _ g2⟩
theorem same (a : List Int) (hl : a.length ≤ 1048576) : Ev (fun k => laws_a2Same.f k a a) true := by
 have key : ∀ (m i : Nat), a.length - i = m → i ≤ a.length → Ev (fun k => laws_a2Same.l0 k a a (i : Int)) true := by
  intro m
  induction m with
  | zero =>
   intro i h1 h2
   refine ev_end fun k => ?_
   simp only [laws_a2Same.l0]; rw [if_neg (by omega)]
  | succ m ih =>
   intro i h1 h2
   refine ev_step (fun k => ?_) (ih (i + 1) (by omega) (by omega))
   simp only [laws_a2Same.l0]; rw [if_pos (by omega), if_pos (by omega), if_pos (by omega), if_pos trivial, succ_cast i (by omega)]
 unfold laws_a2Same.f
 exact ev_if_pos rfl (key a.length 0 (by omega) (by omega))
theorem lastL (n : Nat) (lo hi a : List Int) (hn : n ≤ 4) (h1 : lo.length = n) (h2 : hi.length = n) (h3 : a.length = n) (h : ∀ j < n, lo.getD j 0 ≤ a.getD j 0 ∧ a.getD j 0 ≤ hi.getD j 0) : ∀ (m i : Nat), n - i = m → i ≤ n → Ev (fun k => laws_FnTunings.l3 k (n : Int) lo hi a (i : Int)) true := by
 intro m
 induction m with
 | zero =>
  intro i g1 g2
  refine ev_end fun k => ?_
  simp only [laws_FnTunings.l3]; rw [if_neg (by omega)]
 | succ m ih =>
  intro i g1 g2
  have hb := h i (by omega)
  refine ev_step (fun k => ?_) (ih (i + 1) (by omega) (by omega))
  have ra : ∀ l : List Int, rd l (i : Int) = l.getD i 0 := fun l => by simp only [rd, Int.toNat_natCast]
  have r1 := ra lo
  have r2 := ra a
  have r3 := ra hi
  simp only [laws_FnTunings.l3]
  rw [if_pos (by omega), if_pos (by omega), if_pos (by omega), if_pos (by omega), if_neg (by omega), if_pos (by omega), if_neg (by omega), succ_cast i (by omega)]
def lowB (a : List Int) : List Int := a.map (fun x => mx 0 (wrap64 (x - 20)))
def topB (a : List Int) : List Int := a.map (fun x => mx 0 (wrap64 (x + 20)))
theorem map_take (f : Int → Int) (a : List Int) (i : Nat) (hi : i < a.length) : (a.take (i + 1)).map f = (a.take i).map f ++ [f (a.getD i 0)] := by
 rw [List.take_succ_eq_append_getElem hi, List.map_append]
 simp [List.getD_eq_getElem?_getD, List.getElem?_eq_getElem hi]
theorem map_at (f : Int → Int) (a : List Int) (i : Nat) (hi : i < a.length) : (a.map f).getD i 0 = f (a.getD i 0) := by
 rw [List.getD_eq_getElem?_getD, List.getElem?_map, List.getD_eq_getElem?_getD, List.getElem?_eq_getElem hi]
 rfl
theorem low_at (a : List Int) (i : Nat) (hi : i < a.length) (h : -1000000 ≤ a.getD i 0 ∧ a.getD i 0 ≤ 900000) : (lowB a).getD i 0 = mx 0 (a.getD i 0 - 20) ∧ (topB a).getD i 0 = mx 0 (a.getD i 0 + 20) := by
 unfold lowB topB
 rw [map_at _ a i hi, map_at _ a i hi, wrap_in (x := a.getD i 0 - 20) (by omega) (by omega), wrap_in (x := a.getD i 0 + 20) (by omega) (by omega)]
 exact ⟨rfl, rfl⟩
theorem FnTunings_end (ts : List Int) (es : List (List Int)) (hv : okTB ts es = true) (tn : List Int) (hl : tn.length = ts.length) (hb : InB (-6) 6 tn) (hbd : ∀ j < ts.length, -1000000 ≤ (afterT ts es tn).getD j 0 ∧ (afterT ts es tn).getD j 0 ≤ 900000) (x20 : Int) (hlow : x20 ≥ 0 → ∀ j < ts.length, 0 ≤ (afterT ts es tn).getD j 0) :
  ∀ (m i : Nat), ts.length - i = m → i ≤ ts.length → Ev (fun k => laws_FnTunings.l2 k (ts.length : Int) (afterT ts es tn) (sumI tn) x20 (lowB ((afterT ts es tn).take i)) (topB ((afterT ts es tn).take i)) (i : Int) ts es) true := by
 obtain ⟨hel, hn1, hn4, hts, hrows⟩ := okT_row hv
 have hal := afterT_len ts es tn
 intro m
 induction m with
 | succ m ih =>
  intro i h1 h2
  refine ev_step (fun k => ?_) (ih (i + 1) (by omega) (by omega))
  have e1 : lowB ((afterT ts es tn).take (i + 1)) = lowB ((afterT ts es tn).take i) ++ [mx 0 (wrap64 ((afterT ts es tn).getD i 0 - 20))] := map_take _ _ i (by omega)
  have e2 : topB ((afterT ts es tn).take (i + 1)) = topB ((afterT ts es tn).take i) ++ [mx 0 (wrap64 ((afterT ts es tn).getD i 0 + 20))] := map_take _ _ i (by omega)
  simp only [laws_FnTunings.l2, rd, Int.toNat_natCast]
  rw [if_pos (by omega), if_pos (by omega), if_pos (by omega), if_pos (by simp [lowB]; omega), if_pos (by simp [topB]; omega), succ_cast i (by omega), e1, e2]
 | zero =>
  intro i h1 h2
  have e : i = ts.length := by omega
  subst e
  rw [List.take_of_length_le (by omega)]
  have hll : (lowB (afterT ts es tn)).length = ts.length := by simp [lowB, hal]
  have htl : (topB (afterT ts es tn)).length = ts.length := by simp [topB, hal]
  have hat := fun j (hj : j < ts.length) => low_at (afterT ts es tn) j (by omega) (hbd j hj)
  have bd : ∀ l : List Int, l.length = ts.length → (∀ j < ts.length, 0 ≤ l.getD j 0 ∧ l.getD j 0 ≤ 1000000) → bdB l ts.length = true := by
   intro l h1 h2
   unfold bdB
   rw [decide_eq_true h1, Bool.true_and]
   simp only [Bool.and_eq_true, List.all_eq_true, decide_eq_true_eq]
   intro x hx
   obtain ⟨j, hj, rfl⟩ := List.getElem_of_mem hx
   have := h2 j (by omega)
   rwa [List.getD_eq_getElem?_getD, List.getElem?_eq_getElem hj] at this
  have b1 : bdB (lowB (afterT ts es tn)) ts.length = true := bd _ hll (fun j hj => by have := hbd j hj; rw [(hat j hj).1]; unfold mx; split <;> omega)
  have b2 : bdB (topB (afterT ts es tn)) ts.length = true := bd _ htl (fun j hj => by have := hbd j hj; rw [(hat j hj).2]; unfold mx; split <;> omega)
  have hN := needI ts es (lowB (afterT ts es tn)) (topB (afterT ts es tn)) (small_of hv) (by omega) (by omega)
  have hone := fit_one ts es (lowB (afterT ts es tn)) (topB (afterT ts es tn)) hv
  have hleast := fit_least ts es (lowB (afterT ts es tn)) (topB (afterT ts es tn)) hv tn hl hb
  unfold resN at hN
  rw [if_pos hv, if_pos b1, if_pos b2] at hN
  refine ev_succ ?_
  simp only [laws_FnTunings.l2]
  refine ev_if_neg (by omega) (ev_bind hN ?_)
  have hcov : x20 ≥ 0 → ∃ p, fills (stepN ts es (lowB (afterT ts es tn)) (topB (afterT ts es tn))) ts.length none [] = some p ∧ p.2 ≤ sumI tn := fun h0 => hleast ((inB_is _ _ _ _ 0).2 (fun j g1 g2 => by
   have hj : j < ts.length := by omega
   have := hlow h0 j hj
   rw [(hat j hj).1, (hat j hj).2]
   unfold mx
   constructor <;> split <;> omega))
  cases hf : fills (stepN ts es (lowB (afterT ts es tn)) (topB (afterT ts es tn))) ts.length none [] with
  | none =>
   have h0 : ¬ x20 ≥ 0 := fun h0 => by obtain ⟨p, hp, _⟩ := hcov h0; rw [hf] at hp; cases hp
   refine ev_if_neg h0 (ev_succ ?_)
   simp only [laws_FnTunings.j6, Bool.false_eq_true, if_false]
   exact ev_if_neg (by show ¬ (3 : Int) = 0; omega) (ev_now fun _ => rfl)
  | some p =>
   obtain ⟨p1, p2, p3, p4⟩ := hone p hf
   have ho := (inB_is _ _ _ _ 0).1 p3
   have hpl := afterT_len ts es p.1
   have fin : Ev (fun k => laws_FnTunings.j7 k (ts.length : Int) (lowB (afterT ts es tn)) (topB (afterT ts es tn)) (afterT ts es p.1) false) true := by
    refine ev_succ ?_
    simp only [laws_FnTunings.j7, Bool.false_eq_true, if_false]
    exact lastL ts.length _ _ _ hn4 hll htl hpl (fun j hj => ho j (by omega) (by omega)) ts.length 0 (by omega) (by omega)
   have go : Ev (fun k => laws_FnTunings.j6 k (ts.length : Int) (sumI tn) x20 (lowB (afterT ts es tn)) (topB (afterT ts es tn)) p.1 0 false ts es) true := by
    refine ev_succ ?_
    simp only [laws_FnTunings.j6, Bool.false_eq_true, if_false]
    refine ev_if_pos trivial (ev_bind (aftI ts es hv p.1 p1 p2) (ev_bind (cntI ts es hv p.1 p1 p2) (ev_if_pos rfl (ev_if_pos (by show ((afterT ts es p.1).length : Int) = _; omega) (ev_if_pos rfl ?_)))))
    by_cases h0 : x20 ≥ 0
    ·refine ev_if_pos h0 ?_
     obtain ⟨q, hq, hq2⟩ := hcov h0
     rw [hf] at hq
     injection hq with hq
     subst hq
     have : decide (sumI p.1 > sumI tn) = false := decide_eq_false (by omega)
     rw [this]
     exact fin
    ·exact ev_if_neg h0 fin
   by_cases h0 : x20 ≥ 0
   ·exact ev_if_pos h0 go
   ·exact ev_if_neg h0 go
def LowF (a : List Int) (i : Nat) (low first : Int) : Prop := low ≤ 0 ∧ (∀ j < i, low ≤ a.getD j 0) ∧ (low < 0 → ∃ j < i, a.getD j 0 = low) ∧ ((first = -1 ∧ ∀ j < i, 0 < a.getD j 0) ∨ ∃ p : Nat, first = (p : Int) ∧ p < i ∧ a.getD p 0 ≤ 0 ∧ ∀ j < p, 0 < a.getD j 0)
theorem lowF_next {a : List Int} {i : Nat} {low first : Int} (h : LowF a i low first) : (first < 0 → a.getD i 0 ≤ 0 → LowF a (i + 1) (mn low (a.getD i 0)) (i : Int)) ∧ (first < 0 → ¬ a.getD i 0 ≤ 0 → LowF a (i + 1) (mn low (a.getD i 0)) first) ∧ (¬ first < 0 → LowF a (i + 1) (mn low (a.getD i 0)) first) := by
 obtain ⟨h1, h2, h3, h4⟩ := h
 have k1 : mn low (a.getD i 0) ≤ 0 := by unfold mn; split <;> omega
 have k2 : ∀ j < i + 1, mn low (a.getD i 0) ≤ a.getD j 0 := fun j hj => by
  by_cases e : j = i
  ·subst e; unfold mn; split <;> omega
  ·have := h2 j (by omega); unfold mn; split <;> omega
 have k3 : mn low (a.getD i 0) < 0 → ∃ j < i + 1, a.getD j 0 = mn low (a.getD i 0) := fun hlt => by
  unfold mn at hlt ⊢
  split
  ·exact ⟨i, by omega, rfl⟩
  ·rename_i hc
   rw [if_neg hc] at hlt
   obtain ⟨j, hj, e⟩ := h3 hlt
   exact ⟨j, by omega, e⟩
 refine ⟨fun c1 c2 => ⟨k1, k2, k3, .inr ⟨i, rfl, by omega, c2, ?_⟩⟩, fun c1 c2 => ⟨k1, k2, k3, ?_⟩, fun c1 => ⟨k1, k2, k3, ?_⟩⟩
 ·rcases h4 with ⟨e, h5⟩ | ⟨p, e, h5⟩
  ·exact h5
  ·omega
 ·rcases h4 with ⟨e, h5⟩ | ⟨p, e, h5⟩
  ·refine .inl ⟨e, fun j hj => ?_⟩
   by_cases e2 : j = i
   ·subst e2; omega
   ·exact h5 j (by omega)
  ·omega
 ·rcases h4 with ⟨e, h5⟩ | ⟨p, e, h5, h6⟩
  ·omega
  ·exact .inr ⟨p, e, by omega, h6⟩
theorem FnTunings : Say.FnTunings := by
 intro c m hc hm
 have bc1 := bytes_of hc.2
 have bm1 := bytes_of hm.2
 apply Ev.rounds
 unfold laws_FnTunings.f laws_a2Long.f
 by_cases h1 : (c.length : Int) > 3000
 ·rw [if_pos h1]; exact ev_now fun _ => rfl
 rw [if_neg h1]
 refine ev_some ?_
 by_cases h2 : (m.length : Int) > 3000
 ·exact ev_if_pos (decide_eq_true h2) (ev_now fun _ => rfl)
 refine ev_if_neg (by rw [decide_eq_false h2]; decide) ?_
 obtain ⟨ts, es, e1, hv, hts⟩ := tuningDraw bc1
 obtain ⟨hel, hn1, hn4, _, hrows⟩ := okT_row hv
 obtain ⟨tn, e2, hl, hb⟩ := turnsDraw bm1 ts.length hn4
 have hal := afterT_len ts es tn
 have hbd : ∀ j < ts.length, -1000000 ≤ (afterT ts es tn).getD j 0 ∧ (afterT ts es tn).getD j 0 ≤ 900000 := fun j hj => by
  have g := afterT_at ts es tn hv hl hb j hj
  have := hts _ (getD_mem hj : ts.getD j 0 ∈ ts)
  omega
 refine ev_bind e1 (ev_bind e2 (ev_bind (aftI ts es hv tn hl hb) (ev_bind (cntI ts es hv tn hl hb) (ev_bind (bckI ts es hv tn hl hb) (ev_if_pos rfl (ev_if_pos (by show ((afterT ts es tn).length : Int) = (ts.length : Int); omega) (ev_if_pos rfl (ev_if_pos rfl ?_))))))))
 have e3 : (((backs tn).length : Int) != (ts.length : Int)) = false := by rw [backs_len, hl]; exact bne_self_eq_false _
 show Ev (fun k => laws_FnTunings.j0 k (ts.length : Int) tn (afterT ts es tn) (sumI tn) (backs tn) (((backs tn).length : Int) != (ts.length : Int)) ts es) true
 rw [e3]
 refine ev_succ ?_
 simp only [laws_FnTunings.j0, Bool.false_eq_true, if_false]
 -- the walk over all tensions, and what follows it
 have rest : ∀ (four loose five : Int) (YA : List Int) (XA : List (List Int)), (((∃ j < ts.length, (afterT ts es tn).getD j 0 < 0) ∧ four = 10) ∨ ((∀ j < ts.length, 0 ≤ (afterT ts es tn).getD j 0) ∧ four = 0 ∧ YA = afterT ts es tn ∧ es = XA)) →
   (((∀ j < ts.length, 0 < (afterT ts es tn).getD j 0) ∧ five = 3) ∨ ∃ p, FirstP (afterT ts es tn) p ∧ loose = (p : Int) ∧ five = 0) →
   ∀ (m i : Nat) (low first : Int), ts.length - i = m → i ≤ ts.length → LowF (afterT ts es tn) i low first → Ev (fun k => laws_FnTunings.l1 k (ts.length : Int) (afterT ts es tn) (sumI tn) (backs tn) (sumI tn) four loose five low first (i : Int) ts es YA XA) true := by
  intro four loose five YA XA hfour hfive m
  induction m with
  | succ m ih =>
   intro i low first g1 g2 g3
   obtain ⟨q1, q2, q3⟩ := lowF_next g3
   refine ev_succ ?_
   simp only [laws_FnTunings.l1, rd, Int.toNat_natCast]
   rw [succ_cast i (by omega)]
   refine ev_if_pos (by omega) (ev_if_pos (by omega) (ev_if_pos (by omega) ?_))
   by_cases c1 : first < 0
   ·refine ev_if_pos c1 ?_
    by_cases c2 : (afterT ts es tn).getD i 0 ≤ 0
    ·exact ev_if_pos c2 (ih (i + 1) _ _ (by omega) (by omega) (q1 c1 c2))
    ·exact ev_if_neg c2 (ih (i + 1) _ _ (by omega) (by omega) (q2 c1 c2))
   ·exact ev_if_neg c1 (ih (i + 1) _ _ (by omega) (by omega) (q3 c1))
  | zero =>
   intro i low first g1 g2 g3
   have ei : i = ts.length := by omega
   subst ei
   obtain ⟨l1, l2, l3, l4⟩ := g3
   refine ev_succ ?_
   simp only [laws_FnTunings.l1]
   have hx : (decide (low < 0) != (four == 10)) = false := by
    rcases hfour with ⟨⟨j, hj, h5⟩, rfl⟩ | ⟨h5, rfl, _⟩
    ·have := l2 j hj
     rw [decide_eq_true (by omega)]; rfl
    ·have : ¬ low < 0 := fun hlt => by obtain ⟨j, hj, e⟩ := l3 hlt; have := h5 j hj; omega
     rw [decide_eq_false this]; rfl
   have hend : Ev (fun k => laws_FnTunings.j4 k (ts.length : Int) (afterT ts es tn) (sumI tn) low ts es) true := by
    refine ev_succ ?_
    simp only [laws_FnTunings.j4]
    refine FnTunings_end ts es hv tn hl hb hbd low (fun h0 j hj => ?_) ts.length 0 (by omega) (by omega)
    have := l2 j hj
    omega
   have hj3 : Ev (fun k => laws_FnTunings.j3 k (ts.length : Int) (afterT ts es tn) (sumI tn) (backs tn) four low false ts es YA XA) true := by
    refine ev_succ ?_
    simp only [laws_FnTunings.j3, Bool.false_eq_true, if_false]
    rcases hfour with ⟨_, rfl⟩ | ⟨h5, rfl, rfl, rfl⟩
    ·exact ev_if_neg (by omega) hend
    ·have hv2 : okTB (afterT ts es tn) es = true := okT_after ts es hv _ hal (fun j hj => by have := h5 j hj; have := hbd j hj; omega)
     have hb2 := backs_in tn hb
     have ha := aftI (afterT ts es tn) es hv2 (backs tn) (by rw [backs_len, hal]; exact hl) hb2
     rw [back_again ts es tn hv hl hb hv2] at ha
     exact ev_if_pos rfl (ev_bind ha (ev_if_pos rfl (ev_bind (same ts (by omega)) (ev_if_pos rfl hend))))
   refine ev_if_neg (by omega) (ev_if_pos trivial ?_)
   rw [hx]
   refine ev_if_neg (by decide) ?_
   rcases hfive with ⟨f1, rfl⟩ | ⟨p, ⟨f1, f2, f3⟩, rfl, rfl⟩
   ·have hneg : first = -1 := by
     rcases l4 with ⟨e, _⟩ | ⟨p, e, e2, e3, _⟩
     ·exact e
     ·have := f1 p e2; omega
    subst hneg
    exact ev_if_pos (by omega) (ev_if_pos rfl (ev_if_neg (by omega) hj3))
   ·have hpos : first = (p : Int) := by
     rcases l4 with ⟨e, h5⟩ | ⟨q, e, h5, h6, h7⟩
     ·have := h5 p (by omega); omega
     ·by_cases e1 : q < p
      ·have := f3 q e1; omega
      ·by_cases e2 : p < q
       ·have := h7 p e2; omega
       ·omega
    subst hpos
    refine ev_if_neg (by omega) (ev_if_pos (by omega) (ev_if_pos rfl ?_))
    rw [bne_self_eq_false]
    exact hj3
 have h0 : LowF (afterT ts es tn) 0 0 (-1) := ⟨Int.le_refl _, fun j hj => by omega, fun h => by omega, .inl ⟨rfl, fun j hj => by omega⟩⟩
 have all : ∀ (m i : Nat) (s : Int), tn.length - i = m → i ≤ tn.length → s + sumI (tn.drop i) = sumI tn → 0 ≤ s → s ≤ 6 * i → Ev (fun k => laws_FnTunings.l0 k (ts.length : Int) tn (afterT ts es tn) (sumI tn) (backs tn) s (i : Int) ts es) true := by
  intro m
  induction m with
  | succ m ih =>
   intro i s g1 g2 g3 g4 g5
   have hi : i < tn.length := by omega
   have hx := hb _ (getD_mem hi : tn.getD i 0 ∈ tn)
   have hm : 0 ≤ mx (tn.getD i 0) (-(tn.getD i 0)) ∧ mx (tn.getD i 0) (-(tn.getD i 0)) ≤ 6 := by unfold mx; split <;> omega
   refine ev_step (fun k => ?_) (ih (i + 1) (s + mx (tn.getD i 0) (-(tn.getD i 0))) (by omega) (by omega) (by rw [drop_sum tn i hi] at g3; omega) (by omega) (by omega))
   have bl := backs_len tn
   have ra : ∀ l : List Int, rd l (i : Int) = l.getD i 0 := fun l => by simp only [rd, Int.toNat_natCast]
   simp only [laws_FnTunings.l0]
   rw [if_pos (by omega), if_pos (by omega), if_pos (by omega), if_pos (by omega), if_pos (by rw [ra, ra]; exact backs_at tn i hi), ra, succ_cast i (by omega), wrap_in (x := -(tn.getD i 0)) (by omega) (by omega), wrap_in (x := s + _) (by omega) (by omega)]
  | zero =>
   intro i s g1 g2 g3 g4 g5
   have es0 : s = sumI tn := by
    rw [List.drop_of_length_le (by omega)] at g3
    have : sumI [] = 0 := rfl
    omega
   subst es0
   refine ev_succ ?_
   simp only [laws_FnTunings.l0]
   refine ev_if_neg (by omega) ?_
   have hR := retI ts es hv tn hl hb (fun j hj => by have := hbd j hj; omega)
   have hF := firI ts es hv tn hl hb
   rcases hR with ⟨r1, r2⟩ | ⟨r1, r2⟩
   ·refine ev_bind r2 ?_
    rcases hF with ⟨f1, f2⟩ | ⟨p, f1, f2⟩
    ·exact ev_bind f2 (rest 10 0 3 [] [] (.inl ⟨r1, rfl⟩) (.inl ⟨f1, rfl⟩) ts.length 0 0 (-1) (by omega) (by omega) h0)
    ·exact ev_bind f2 (rest 10 p 0 [] [] (.inl ⟨r1, rfl⟩) (.inr ⟨p, f1, rfl, rfl⟩) ts.length 0 0 (-1) (by omega) (by omega) h0)
   ·refine ev_bind r2 ?_
    rcases hF with ⟨f1, f2⟩ | ⟨p, f1, f2⟩
    ·exact ev_bind f2 (rest 0 0 3 _ es (.inr ⟨r1, rfl, rfl, rfl⟩) (.inl ⟨f1, rfl⟩) ts.length 0 0 (-1) (by omega) (by omega) h0)
    ·exact ev_bind f2 (rest 0 p 0 _ es (.inr ⟨r1, rfl, rfl, rfl⟩) (.inr ⟨p, f1, rfl, rfl⟩) ts.length 0 0 (-1) (by omega) (by omega) h0)
 exact all tn.length 0 0 (by omega) (by omega) (by rw [List.drop_zero]; omega) (by omega) (by omega)
end Go.Proofs.Ythfpaldhdohnkaa.Pure

