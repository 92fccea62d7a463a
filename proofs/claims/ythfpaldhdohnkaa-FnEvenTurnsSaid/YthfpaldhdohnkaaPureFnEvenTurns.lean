import Derived.Test.YthfpaldhdohnkaaSayFnEvenTurns
import Derived.Test.YthfpaldhdohnkaaPlain
namespace Go.Proofs.Ythfpaldhdohnkaa.Pure
open Go.RowKit Go.Proofs.Ythfpaldhdohnkaa.PFnEvenTurns Go.Proofs.Ythfpaldhdohnkaa.Plain Go.Proofs.YthfpaldhdohnkaaW.PrintWords
set_option linter.unusedVariables false
set_option linter.unusedSimpArgs false
open Go.Proofs.YthfpaldhdohnkaaW.PrintMore
theorem specIn (n a b : Int) : spec_l00In.f n a b = some (decide (a ≤ n ∧ n ≤ b)) := by
  unfold spec_l00In.f
  by_cases h1 : n ≥ a <;> by_cases h2 : n ≤ b <;> simp [h1, h2] <;> omega
theorem implIn (n a b : Int) : impl_within.f n a b = some (decide (a ≤ n ∧ n ≤ b)) := by
  unfold impl_within.f
  by_cases h1 : n ≥ a <;> by_cases h2 : n ≤ b <;> simp [h1, h2] <;> omega
/-! ### loops over lists -/
theorem mem_getD {α : Type} (l : List α) (z : α) (i : Nat) (h : i < l.length) : l.getD i z ∈ l := by
  rw [List.getD_eq_getElem?_getD, List.getElem?_eq_getElem h]; exact List.getElem_mem h
theorem all_loop {α : Type} (z : α) (p : α → Bool) (T : Nat → α → Option Bool) (F : Nat → Int → Option Bool) (l : List α) (hl : l.length < 9223372036854775807) (hT : ∀ x ∈ l, Ev (fun k => T k x) (p x))
    (hF : ∀ k x5, F (k + 1) x5 = if x5 < (l.length : Int) then (if 0 ≤ x5 then (if x5 < (l.length : Int) then ((T k (l.getD x5.toNat z)).bind fun t => (if t = true then (F k (wrap64 (x5 + 1))) else (some false))) else (none)) else (none)) else (some true)) :
    Ev (fun k => F k 0) (l.all p) := by
  refine loop_up' (fun k i => F k (i : Int)) l.length (l.all p) (fun i => (l.take i).all p = true) (fun i hi hI => ?_) (fun hI => ?_) l.length 0 (by omega) (by omega) (by simp)
  · have hm := hT _ (mem_getD l z i hi)
    cases hp : p (l.getD i z) with
    | true =>
      refine .inl ⟨?_, fun h => ?_⟩
      · rw [List.take_succ_eq_append_getElem hi, List.all_append, hI]
        rw [List.getD_eq_getElem?_getD, List.getElem?_eq_getElem hi] at hp
        simpa using hp
      · refine ev_step (fun k => hF k i) (ev_if_pos (by omega) (ev_if_pos (by omega) (ev_if_pos (by omega) ?_)))
        rw [Int.toNat_natCast]
        refine ev_bind hm (ev_if_pos hp ?_)
        rw [succ_cast i (by omega)]
        exact h
    | false =>
      refine .inr ?_
      refine ev_step (fun k => hF k i) (ev_if_pos (by omega) (ev_if_pos (by omega) (ev_if_pos (by omega) ?_)))
      rw [Int.toNat_natCast]
      refine ev_bind hm (ev_if_neg (by rw [hp]; decide) (ev_now fun _ => ?_))
      have : l.all p = false := by
        cases hq : l.all p with
        | false => rfl
        | true => rw [List.all_eq_true.mp hq _ (mem_getD l z i hi)] at hp; cases hp
      rw [this]
  · refine ev_end (fun k => ?_)
    show F (k + 1) _ = _
    rw [hF, if_neg (by omega)]
    simpa using hI.symm
theorem copyT_loop {α β : Type} (z : α) (zb : β) (f : α → β) (T : Nat → α → Option β) (F : Nat → List β → Int → Option (List β)) (l : List α) (hl : l.length < 9223372036854775807) (hT : ∀ x ∈ l, Ev (fun k => T k x) (f x))
    (hF : ∀ k x3 x4, F (k + 1) x3 x4 = if x4 < (l.length : Int) then (if 0 ≤ x4 then ((T k (l.getD x4.toNat z)).bind fun t => (if x4 < (x3.length : Int) then (F k (x3.set x4.toNat t) (wrap64 (x4 + 1))) else (none))) else (none)) else (some x3)) :
    Ev (fun k => F k (List.replicate l.length zb) 0) (l.map f) := by
  have h := loop_up' (fun k i => F k ((l.take i).map f ++ List.replicate (l.length - i) zb) (i : Int)) l.length (l.map f) (fun _ => True) (fun i hi _ => .inl ⟨trivial, fun h => by
    refine ev_step (fun k => hF k _ i) (ev_if_pos (by omega) (ev_if_pos (by omega) ?_))
    rw [Int.toNat_natCast]
    refine ev_bind (hT _ (mem_getD l z i hi)) (ev_if_pos (by simp; omega) ?_)
    have e : List.replicate (l.length - i) zb = zb :: List.replicate (l.length - (i + 1)) zb := by
      rw [← List.replicate_succ]; congr 1; omega
    rw [e, set_next _ _ _ _ (by simp; omega), succ_cast i (by omega)]
    have e2 : (l.take (i + 1)).map f = (l.take i).map f ++ [f (l.getD i z)] := by
      rw [List.take_succ_eq_append_getElem hi, List.map_append]
      simp [List.getD_eq_getElem?_getD, List.getElem?_eq_getElem hi]
    rw [← e2]
    exact h⟩) (fun _ => by
    refine ev_end (fun k => ?_)
    show F (k + 1) _ _ = _
    rw [hF, if_neg (by omega)]
    simp) l.length 0 (by omega) (by omega) trivial
  simpa using h
/-! ### drawn numbers -/
def bytes (l : List Int) : Prop := ∀ x ∈ l, 0 ≤ x ∧ x ≤ 255
theorem bytes_of {l : List Int} (h : ∀ x ∈ l, (Lit.int .u8 x).wf = true) : bytes l := fun x hx => wf_u8 (h x hx)
theorem rd_byte {l : List Int} (h : bytes l) (i : Int) (h0 : 0 ≤ i) (h1 : i < l.length) : 0 ≤ rd l i ∧ rd l i ≤ 255 := by
  obtain ⟨n, rfl⟩ := Int.eq_ofNat_of_zero_le h0
  have hn : n < l.length := by omega
  unfold rd
  rw [getD_nat, List.getD_eq_getElem?_getD, List.getElem?_eq_getElem hn]
  exact h _ (List.getElem_mem hn)
theorem and255 (x : Int) : 0 ≤ wrap64 (Go.bits .and .u64 (IntKind.u64.wrap x / 1099511627776) 255) ∧ wrap64 (Go.bits .and .u64 (IntKind.u64.wrap x / 1099511627776) 255) ≤ 255 := by
  have e : IntKind.u64.wrap x = x % 18446744073709551616 := by simp [IntKind.wrap, IntKind.bits, IntKind.signed]
  have hb : ∀ y : Int, 0 ≤ y → y < 16777216 → Go.bits .and .u64 y 255 = y % 256 := by
    intro y h0 h1
    exact Go.bits_mask .u64 24 (by decide) (fun n h0 h1 => by
      have : n < 16777216 := h1
      simp [IntKind.wrap, IntKind.bits, IntKind.signed]; omega) 8 (by decide) y h0 h1
  rw [e, hb _ (by omega) (by omega)]
  unfold wrap64
  omega
theorem next_ok {l : List Int} (h : bytes l) (a s : Int) (h0 : 0 ≤ a) (h1 : a ≤ 1000000000000000) : ∃ v s', spec_l00Src_next.f l a s = some (v, a + 1, s') ∧ 0 ≤ v ∧ v ≤ 255 := by
  unfold spec_l00Src_next.f
  rw [wrap_in (x := a + 1) (by omega) (by omega)]
  by_cases c1 : a < (l.length : Int)
  · rw [if_pos c1, if_pos h0]
    have hr := rd_byte h a h0 c1
    rw [if_pos (show a + 1 ≤ (l.length : Int) by omega)]
    exact ⟨_, _, rfl, by rw [wrap_in (by omega) (by omega)]; exact hr.1, by rw [wrap_in (by omega) (by omega)]; exact hr.2⟩
  · rw [if_neg c1]
    by_cases c2 : a + 1 ≤ (l.length : Int)
    · rw [if_pos c2]
      exact ⟨_, _, rfl, by omega, by omega⟩
    · rw [if_neg c2]
      exact ⟨_, _, rfl, (and255 _).1, (and255 _).2⟩
theorem pick_ok {l : List Int} (h : bytes l) (a s n : Int) (h0 : 0 ≤ a) (h1 : a ≤ 1000000000) : ∃ v a' s', spec_l00Src_pick.f l a s n = some (v, a', s') ∧ 0 ≤ v ∧ (v < n ∨ v = 0) ∧ a ≤ a' ∧ a' ≤ a + 2 := by
  unfold spec_l00Src_pick.f
  by_cases c : n ≤ 1
  · rw [if_pos c]
    exact ⟨0, a, s, rfl, by omega, .inr rfl, by omega, by omega⟩
  · rw [if_neg c]
    obtain ⟨v, s1, e1, b1, b2⟩ := next_ok h a s h0 (by omega)
    rw [e1]
    simp only [Option.bind_some]
    by_cases c2 : n > 200
    · rw [if_pos c2]
      obtain ⟨v2, s2, e2, d1, d2⟩ := next_ok h (a + 1) s1 (by omega) (by omega)
      rw [e2]
      simp only [Option.bind_some]
      rw [if_neg (by omega), wrap_in (x := v * 256) (by omega) (by omega), wrap_in (x := v * 256 + v2) (by omega) (by omega)]
      have m1 := Int.tmod_nonneg n (show 0 ≤ v * 256 + v2 by omega)
      have m2 := Int.tmod_lt_of_pos (v * 256 + v2) (show 0 < n by omega)
      exact ⟨_, _, _, rfl, m1, .inl m2, by omega, by omega⟩
    · rw [if_neg c2, if_neg (by omega)]
      have m1 := Int.tmod_nonneg n b1
      have m2 := Int.tmod_lt_of_pos v (show 0 < n by omega)
      exact ⟨_, _, _, rfl, m1, .inl m2, by omega, by omega⟩
def okRowB (n : Nat) (row : List Int) : Bool := decide (row.length = n) && row.all (fun x => decide (-1000 ≤ x) && decide (x ≤ 1000))
def okTB (ts : List Int) (es : List (List Int)) : Bool := decide (es.length = ts.length) && ts.all (fun x => decide (0 ≤ x) && decide (x ≤ 1000000)) && es.all (okRowB ts.length) && decide (1 ≤ ts.length) && decide (ts.length ≤ 4)
def codeT (ts : List Int) (es : List (List Int)) (tn : List Int) : Int := if okTB ts es = true then (if (tn.all (fun x => decide (-6 ≤ x) && decide (x ≤ 6)) && decide (tn.length = ts.length)) = true then 0 else 2) else 1
theorem getD_mem {α : Type} {l : List α} {z : α} {i : Nat} (h : i < l.length) : l.getD i z ∈ l := by
  rw [List.getD_eq_getElem?_getD, List.getElem?_eq_getElem h]; exact List.getElem_mem h
theorem bad_row {ts : List Int} {es : List (List Int)} (i : Nat) (h : i < es.length) (h2 : okRowB ts.length (es.getD i []) = false) : okTB ts es = false := by
  cases hq : okTB ts es with
  | false => rfl
  | true =>
    simp only [okTB, Bool.and_eq_true, List.all_eq_true] at hq
    have := hq.1.1.2 (es.getD i []) (by rw [List.getD_eq_getElem?_getD, List.getElem?_eq_getElem h]; exact List.getElem_mem h)
    rw [h2] at this; cases this
theorem bad_num {ts : List Int} {es : List (List Int)} (i : Nat) (h : i < ts.length) (h2 : ¬ (0 ≤ ts.getD i 0 ∧ ts.getD i 0 ≤ 1000000)) : okTB ts es = false := by
  cases hq : okTB ts es with
  | false => rfl
  | true =>
    simp only [okTB, Bool.and_eq_true, List.all_eq_true, decide_eq_true_eq] at hq
    exact absurd (hq.1.1.1.2 (ts.getD i 0) (by rw [List.getD_eq_getElem?_getD, List.getElem?_eq_getElem h]; exact List.getElem_mem h)) h2
theorem all_step {p : Nat → Prop} {i : Nat} (h : ∀ j < i, p j) (h2 : p i) : ∀ j < i + 1, p j := by
  intro j hj
  rcases Nat.lt_succ_iff_lt_or_eq.mp hj with h3 | h3
  · exact h j h3
  · rw [h3]; exact h2
theorem row_good {n : Nat} {row : List Int} (h : row.length = n) (h2 : ∀ j < row.length, -1000 ≤ row.getD j 0 ∧ row.getD j 0 ≤ 1000) : okRowB n row = true := by
  simp only [okRowB, Bool.and_eq_true, List.all_eq_true, decide_eq_true_eq]
  refine ⟨h, fun x hx => ?_⟩
  obtain ⟨j, hj, rfl⟩ := List.getElem_of_mem hx
  have := h2 j hj
  rwa [List.getD_eq_getElem?_getD, List.getElem?_eq_getElem hj] at this
theorem okT_end {ts : List Int} {es : List (List Int)} (hl : es.length = ts.length) (h : ∀ j < ts.length, (0 ≤ ts.getD j 0 ∧ ts.getD j 0 ≤ 1000000) ∧ okRowB ts.length (es.getD j []) = true) : okTB ts es = (decide (1 ≤ ts.length) && decide (ts.length ≤ 4)) := by
  have h1 : ts.all (fun x => decide (0 ≤ x) && decide (x ≤ 1000000)) = true := by
    simp only [Bool.and_eq_true, List.all_eq_true, decide_eq_true_eq]
    intro x hx
    obtain ⟨j, hj, rfl⟩ := List.getElem_of_mem hx
    have := (h j hj).1
    rwa [List.getD_eq_getElem?_getD, List.getElem?_eq_getElem hj] at this
  have h2 : es.all (okRowB ts.length) = true := by
    simp only [List.all_eq_true]
    intro x hx
    obtain ⟨j, hj, rfl⟩ := List.getElem_of_mem hx
    have := (h j (by omega)).2
    rwa [List.getD_eq_getElem?_getD, List.getElem?_eq_getElem hj] at this
  simp [okTB, hl, h1, h2]
theorem row_bad {n : Nat} {row : List Int} (i : Nat) (h : i < row.length) (h2 : ¬ (-1000 ≤ row.getD i 0 ∧ row.getD i 0 ≤ 1000)) : okRowB n row = false := by
  cases hq : okRowB n row with
  | false => rfl
  | true =>
    simp only [okRowB, Bool.and_eq_true, List.all_eq_true, decide_eq_true_eq] at hq
    exact absurd (hq.2 (row.getD i 0) (by rw [List.getD_eq_getElem?_getD, List.getElem?_eq_getElem h]; exact List.getElem_mem h)) h2
theorem okT_row {ts : List Int} {es : List (List Int)} (h : okTB ts es = true) : es.length = ts.length ∧ 1 ≤ ts.length ∧ ts.length ≤ 4 ∧ (∀ j < ts.length, 0 ≤ ts.getD j 0 ∧ ts.getD j 0 ≤ 1000000) ∧ ∀ j < ts.length, (es.getD j []).length = ts.length ∧ ∀ i < ts.length, -1000 ≤ (es.getD j []).getD i 0 ∧ (es.getD j []).getD i 0 ≤ 1000 := by
  simp only [okTB, okRowB, Bool.and_eq_true, List.all_eq_true, decide_eq_true_eq] at h
  have hl := h.1.1.1.1
  refine ⟨hl, h.1.2, h.2, fun j hj => h.1.1.1.2 _ (getD_mem hj), fun j hj => ?_⟩
  have h2 := h.1.1.2 (es.getD j []) (getD_mem (by omega))
  exact ⟨h2.1, fun i hi => h2.2 _ (getD_mem (by omega))⟩
theorem codeT_bad {ts : List Int} {es : List (List Int)} {tn : List Int} (h0 : okTB ts es = true) (i : Nat) (h : i < tn.length) (h2 : ¬ (-6 ≤ tn.getD i 0 ∧ tn.getD i 0 ≤ 6)) : codeT ts es tn = 2 := by
  unfold codeT
  rw [if_pos h0, if_neg]
  intro hq
  simp only [Bool.and_eq_true, List.all_eq_true, decide_eq_true_eq] at hq
  exact absurd (hq.1 (tn.getD i 0) (by rw [List.getD_eq_getElem?_getD, List.getElem?_eq_getElem h]; exact List.getElem_mem h)) h2
theorem codeT_end {ts : List Int} {es : List (List Int)} {tn : List Int} (h0 : okTB ts es = true) (h : ∀ j < tn.length, -6 ≤ tn.getD j 0 ∧ tn.getD j 0 ≤ 6) : codeT ts es tn = if tn.length = ts.length then 0 else 2 := by
  have h1 : tn.all (fun x => decide (-6 ≤ x) && decide (x ≤ 6)) = true := by
    simp only [Bool.and_eq_true, List.all_eq_true, decide_eq_true_eq]
    intro x hx
    obtain ⟨j, hj, rfl⟩ := List.getElem_of_mem hx
    have := h j hj
    rwa [List.getD_eq_getElem?_getD, List.getElem?_eq_getElem hj] at this
  unfold codeT
  rw [if_pos h0, h1]
  simp
def Small (ts : List Int) (es : List (List Int)) : Prop := ts.length ≤ 1048576 ∧ es.length ≤ 1048576 ∧ ∀ row ∈ es, row.length ≤ 1048576
theorem cast_eq (x y : List Int) : decide ((x.length : Int) = (y.length : Int)) = decide (x.length = y.length) := by
  by_cases h : x.length = y.length
  · simp [h]
  · rw [decide_eq_false h, decide_eq_false (by omega)]
theorem areIn (l : List Int) (hl : l.length < 9223372036854775807) (n a b : Int) : Ev (fun k => impl_areIn.f k l n a b) (decide ((l.length : Int) = n) && l.all (fun x => decide (a ≤ x) && decide (x ≤ b))) := by
  unfold impl_areIn.f
  by_cases h : (l.length : Int) = n
  · refine ev_if_pos h ?_
    have := all_loop (0 : Int) (fun x => decide (a ≤ x) && decide (x ≤ b)) (fun _ x => impl_within.f x a b) (fun k x5 => impl_areIn.l0 k a b l (l.length : Int) x5) l hl (fun x _ => ev_const (by rw [implIn]; simp)) (fun _ _ => rfl)
    simpa [h] using this
  · exact ev_if_neg h (ev_now fun _ => by simp [h])
theorem implT (ts : List Int) (es : List (List Int)) (h : Small ts es) : Ev (fun k => impl_ValidTuning.f k ts es) (okTB ts es) := by
  obtain ⟨h1, h2, h3⟩ := h
  unfold impl_ValidTuning.f
  by_cases c1 : (ts.length : Int) < 1
  · refine ev_if_pos c1 (ev_end fun k => ?_)
    simp only [impl_ValidTuning.j0, if_true]
    have : ts.length = 0 := by omega
    simp [okTB, this]
  refine ev_if_neg c1 ?_
  by_cases c2 : (ts.length : Int) > 4
  · refine ev_if_pos c2 (ev_end fun k => ?_)
    simp only [impl_ValidTuning.j0, if_true]
    have : ¬ ts.length ≤ 4 := by omega
    simp [okTB, this]
  refine ev_if_neg c2 ?_
  by_cases c3 : (es.length : Int) = (ts.length : Int)
  · refine ev_if_pos c3 (ev_bind (areIn ts (by omega) _ _ _) ?_)
    cases c4 : ts.all (fun x => decide (0 ≤ x) && decide (x ≤ 1000000)) with
    | false =>
      refine ev_end fun k => ?_
      simp [impl_ValidTuning.j0, okTB, c4]
    | true =>
      refine ev_step (f := fun k => impl_ValidTuning.l0 k (ts.length : Int) es (es.length : Int) 0) (fun k => by simp [impl_ValidTuning.j0]) ?_
      have := all_loop ([] : List Int) (okRowB ts.length) (fun k x => impl_areIn.f k x (ts.length : Int) (-1000) 1000) (fun k x5 => impl_ValidTuning.l0 k (ts.length : Int) es (es.length : Int) x5) es (by omega)
        (fun x hx => ev_eq (areIn x (by have := h3 x hx; omega) _ _ _) (by unfold okRowB; rw [cast_eq x ts])) (fun _ _ => rfl)
      refine ev_eq this ?_
      have e1 : es.length = ts.length := by omega
      have e2 : 1 ≤ ts.length := by omega
      have e3 : ts.length ≤ 4 := by omega
      simp [okTB, c4, e1, e2, e3]
  · refine ev_if_neg c3 (ev_end fun k => ?_)
    simp only [impl_ValidTuning.j0, if_true]
    have : ¬ es.length = ts.length := by omega
    simp [okTB, this]
theorem oneFour (n : Nat) : decide (1 ≤ (n : Int) ∧ (n : Int) ≤ 4) = (decide (1 ≤ n) && decide (n ≤ 4)) := by
  by_cases a : 1 ≤ n
  · by_cases b : n ≤ 4
    · rw [decide_eq_true a, decide_eq_true b, decide_eq_true (by omega)]; rfl
    · rw [decide_eq_true a, decide_eq_false b, decide_eq_false (by omega)]; rfl
  · rw [decide_eq_false a, decide_eq_false (by omega)]; rfl
theorem specOk_in (ts : List Int) (es : List (List Int)) (hn : ts.length ≤ 1048576) (i : Nat) (hi : i < es.length) (hrl : (es.getD i []).length = ts.length) (r : Bool)
    (h1 : (∀ j < ts.length, -1000 ≤ (es.getD i []).getD j 0 ∧ (es.getD i []).getD j 0 ≤ 1000) → Ev (fun k => spec_l12Ok.l0 k (ts.length : Int) (wrap64 ((i : Int) + 1)) ts es) r)
    (h2 : ∀ j < ts.length, ¬ (-1000 ≤ (es.getD i []).getD j 0 ∧ (es.getD i []).getD j 0 ≤ 1000) → r = false) : Ev (fun k => spec_l12Ok.l1 k (ts.length : Int) (i : Int) 0 ts es) r := by
  refine loop_up' (fun k j => spec_l12Ok.l1 k (ts.length : Int) (i : Int) (j : Int) ts es) ts.length r (fun j => ∀ t < j, -1000 ≤ (es.getD i []).getD t 0 ∧ (es.getD i []).getD t 0 ≤ 1000) (fun j hj hI => ?_) (fun hI => ?_) ts.length 0 (by omega) (by omega) (by intro t ht; omega)
  · have e : ∀ k, spec_l12Ok.l1 (k + 1) (ts.length : Int) (i : Int) (j : Int) ts es = if decide (-1000 ≤ (es.getD i []).getD j 0 ∧ (es.getD i []).getD j 0 ≤ 1000) = true then spec_l12Ok.l1 k (ts.length : Int) (i : Int) ((j + 1 : Nat) : Int) ts es else some false := by
      intro k
      simp only [spec_l12Ok.l1]
      rw [if_pos (by omega), if_pos (by omega), if_pos (by omega), if_pos (by omega), if_pos (by simp only [rd_L2, Int.toNat_natCast]; omega), succ_cast j (by omega)]
      simp only [rd, rd_L2, Int.toNat_natCast]
      rw [specIn]
      rfl
    by_cases hc : -1000 ≤ (es.getD i []).getD j 0 ∧ (es.getD i []).getD j 0 ≤ 1000
    · exact .inl ⟨all_step hI hc, fun h => ev_step e (ev_if_pos (decide_eq_true hc) h)⟩
    · rw [h2 j hj hc]
      exact .inr (ev_step e (ev_if_neg (by simpa using hc) (ev_now fun _ => rfl)))
  · refine ev_step (f := fun k => spec_l12Ok.l0 k (ts.length : Int) (wrap64 ((i : Int) + 1)) ts es) (fun k => ?_) (h1 hI)
    simp only [spec_l12Ok.l1]
    rw [if_neg (by omega)]
theorem specOk (ts : List Int) (es : List (List Int)) (hs : Small ts es) : Ev (fun k => spec_l12Ok.f k ts es) (okTB ts es) := by
  obtain ⟨hn, he, _⟩ := hs
  unfold spec_l12Ok.f
  by_cases hl : (es.length : Int) = (ts.length : Int)
  · refine ev_if_pos hl ?_
    have hl' : es.length = ts.length := by omega
    refine loop_up' (fun k i => spec_l12Ok.l0 k (ts.length : Int) (i : Int) ts es) ts.length (okTB ts es) (fun i => ∀ j < i, (0 ≤ ts.getD j 0 ∧ ts.getD j 0 ≤ 1000000) ∧ okRowB ts.length (es.getD j []) = true) (fun i hi hI => ?_) (fun hI => ?_) ts.length 0 (by omega) (by omega) (by intro t ht; omega)
    · have e : ∀ k, spec_l12Ok.l0 (k + 1) (ts.length : Int) (i : Int) ts es = if decide (0 ≤ ts.getD i 0 ∧ ts.getD i 0 ≤ 1000000) = true then spec_l12Ok.j1 k (ts.length : Int) (i : Int) (((es.getD i []).length : Int) != (ts.length : Int)) ts es else spec_l12Ok.j1 k (ts.length : Int) (i : Int) true ts es := by
        intro k
        simp only [spec_l12Ok.l0]
        rw [if_pos (by omega), if_pos (by omega), if_pos (by omega)]
        simp only [rd, rd_L2, Int.toNat_natCast]
        rw [specIn, if_pos (show (i : Int) < (es.length : Int) by omega)]
        rfl
      by_cases hc : 0 ≤ ts.getD i 0 ∧ ts.getD i 0 ≤ 1000000
      · by_cases hrl : (es.getD i []).length = ts.length
        · have hb : (((es.getD i []).length : Int) != (ts.length : Int)) = false := by rw [hrl]; exact bne_self_eq_false _
          rw [hb] at e
          have ej : ∀ k, spec_l12Ok.j1 (k + 1) (ts.length : Int) (i : Int) false ts es = spec_l12Ok.l1 k (ts.length : Int) (i : Int) 0 ts es := by
            intro k; simp [spec_l12Ok.j1]
          by_cases hg : ∀ j < ts.length, -1000 ≤ (es.getD i []).getD j 0 ∧ (es.getD i []).getD j 0 ≤ 1000
          · refine .inl ⟨all_step hI ⟨hc, row_good hrl (by rw [hrl]; exact hg)⟩, fun h => ?_⟩
            refine ev_step e (ev_if_pos (decide_eq_true hc) (ev_step ej (specOk_in ts es hn i (by omega) hrl _ (fun _ => ?_) (fun j hj hb => absurd (hg j hj) hb))))
            rw [succ_cast i (by omega)]
            exact h
          · have hf : okTB ts es = false := by
              obtain ⟨j, hj⟩ := Classical.not_forall.mp hg
              obtain ⟨hj1, hj2⟩ := Classical.not_imp.mp hj
              exact bad_row i (by omega) (row_bad j (by omega) hj2)
            rw [hf]
            exact .inr (ev_step e (ev_if_pos (decide_eq_true hc) (ev_step ej (specOk_in ts es hn i (by omega) hrl _ (fun h => absurd h hg) (fun _ _ _ => rfl)))))
        · have hf : okTB ts es = false := bad_row i (by omega) (by simp only [okRowB, decide_eq_false hrl, Bool.false_and])
          have hb : (((es.getD i []).length : Int) != (ts.length : Int)) = true := bne_iff_ne.mpr (by omega)
          rw [hb] at e
          rw [hf]
          exact .inr (ev_step e (ev_if_pos (decide_eq_true hc) (ev_end fun k => by simp [spec_l12Ok.j1])))
      · rw [bad_num i (by omega) hc]
        exact .inr (ev_step e (ev_if_neg (by simpa using hc) (ev_end fun k => by simp [spec_l12Ok.j1])))
    · refine ev_end (fun k => ?_)
      show spec_l12Ok.l0 (k + 1) _ _ _ _ = _
      simp only [spec_l12Ok.l0]
      rw [if_neg (by omega), specIn, okT_end hl' hI, oneFour ts.length]
      rfl
  · refine ev_if_neg hl (ev_now fun _ => ?_)
    have : ¬ es.length = ts.length := by omega
    simp [okTB, this]
theorem specC (ts : List Int) (es : List (List Int)) (tn : List Int) (hs : Small ts es) (ht : tn.length ≤ 1048576) : Ev (fun k => spec_l12Code.f k ts es tn) (codeT ts es tn) := by
  unfold spec_l12Code.f
  refine ev_bind (specOk ts es hs) ?_
  cases hv : okTB ts es with
  | false => exact ev_now fun _ => by simp [codeT, hv]
  | true =>
    refine ev_if_pos rfl ?_
    refine loop_up' (fun k i => spec_l12Code.l0 k tn (i : Int) ts es) tn.length (codeT ts es tn) (fun i => ∀ j < i, -6 ≤ tn.getD j 0 ∧ tn.getD j 0 ≤ 6) (fun i hi hI => ?_) (fun hI => ?_) tn.length 0 (by omega) (by omega) (by intro t h; omega)
    · have e : ∀ k, spec_l12Code.l0 (k + 1) tn (i : Int) ts es = if decide (-6 ≤ tn.getD i 0 ∧ tn.getD i 0 ≤ 6) = true then spec_l12Code.l0 k tn ((i + 1 : Nat) : Int) ts es else some 2 := by
        intro k
        simp only [spec_l12Code.l0]
        rw [if_pos (by omega), if_pos (by omega), succ_cast i (by omega)]
        simp only [rd, Int.toNat_natCast]
        rw [specIn]
        rfl
      by_cases hc : -6 ≤ tn.getD i 0 ∧ tn.getD i 0 ≤ 6
      · exact .inl ⟨all_step hI hc, fun h => ev_step e (ev_if_pos (decide_eq_true hc) h)⟩
      · rw [codeT_bad hv i hi hc]
        exact .inr (ev_step e (ev_if_neg (by simpa using hc) (ev_now fun _ => rfl)))
    · refine ev_end (fun k => ?_)
      show spec_l12Code.l0 (k + 1) _ _ _ _ = _
      simp only [spec_l12Code.l0]
      rw [if_neg (by omega), codeT_end hv hI]
      by_cases hl : tn.length = ts.length
      · rw [if_pos hl, if_pos (by omega)]
      · rw [if_neg hl, if_neg (by omega)]
theorem implC (ts : List Int) (es : List (List Int)) (tn : List Int) (h : Small ts es) (ht : tn.length ≤ 1048576) : Ev (fun k => impl_turnsCode.f k ts es tn) (codeT ts es tn) := by
  unfold impl_turnsCode.f codeT
  refine ev_bind (implT ts es h) ?_
  cases okTB ts es with
  | false => exact ev_now fun _ => rfl
  | true =>
    refine ev_if_pos rfl (ev_bind (areIn tn (by omega) _ _ _) ?_)
    rw [if_pos rfl, cast_eq, Bool.and_comm]
    split
    · exact ev_now fun _ => rfl
    · exact ev_now fun _ => rfl
theorem code_zero {ts : List Int} {es : List (List Int)} {tn : List Int} (h : codeT ts es tn = 0) : okTB ts es = true ∧ (∀ x ∈ tn, -6 ≤ x ∧ x ≤ 6) ∧ tn.length = ts.length := by
  unfold codeT at h
  split at h
  · rename_i h1
    split at h
    · rename_i h2
      simp only [Bool.and_eq_true, List.all_eq_true, decide_eq_true_eq] at h2
      exact ⟨h1, h2.1, h2.2⟩
    · cases h
  · cases h
theorem code_cases (ts : List Int) (es : List (List Int)) (tn : List Int) : codeT ts es tn = 0 ∨ codeT ts es tn ≠ 0 := by omega
def stI (row tn : List Int) (i : Nat) : Nat → Nat → List Int → List Int
  | 0, _, o => o
  | m + 1, k, o => stI row tn i m (k + 1) (o.set i (wrap64 (o.getD i 0 + wrap64 (row.getD k 0 * tn.getD k 0))))
def stO (es : List (List Int)) (tn : List Int) (n : Nat) : Nat → Nat → List Int → List Int
  | 0, _, o => o
  | m + 1, i, o => stO es tn n m (i + 1) (stI (es.getD i []) tn i n 0 o)
theorem stI_len (row tn : List Int) (i : Nat) : ∀ (m k : Nat) (o : List Int), (stI row tn i m k o).length = o.length := by
  intro m
  induction m with
  | zero => intro k o; rfl
  | succ m ih => intro k o; show (stI row tn i m (k + 1) _).length = _; rw [ih]; simp
def afterT (ts : List Int) (es : List (List Int)) (tn : List Int) : List Int := stO es tn ts.length ts.length 0 ts
theorem stO_len (es : List (List Int)) (tn : List Int) (n : Nat) : ∀ (m i : Nat) (o : List Int), (stO es tn n m i o).length = o.length := by
  intro m
  induction m with
  | zero => intro i o; rfl
  | succ m ih => intro i o; show (stO es tn n m (i + 1) _).length = _; rw [ih, stI_len]
theorem implA_in (es : List (List Int)) (tn : List Int) (n i : Nat) (hn : n ≤ 1048576) (hel : es.length = n) (htn : tn.length = n) (hi : i < n) (hrl : (es.getD i []).length = n) (r : List Int) : ∀ (m j : Nat) (o : List Int), n - j = m → j ≤ n → o.length = n →
    Ev (fun k => impl_tensionsAfter.l0 k tn (stI (es.getD i []) tn i m j o) es (n : Int) ((i + 1 : Nat) : Int)) r → Ev (fun k => impl_tensionsAfter.l1 k tn o (i : Int) es (n : Int) (i : Int) (es.getD i []) (n : Int) (j : Int)) r := by
  intro m
  induction m with
  | zero =>
    intro j o h1 h2 h3 h4
    refine ev_step (fun k => ?_) h4
    simp only [impl_tensionsAfter.l1]
    rw [if_neg (by omega), succ_cast i (by omega)]
    rfl
  | succ m ih =>
    intro j o h1 h2 h3 h4
    refine ev_step (fun k => ?_) (ih (j + 1) _ (by omega) (by omega) (by simp; exact h3) h4)
    simp only [impl_tensionsAfter.l1]
    rw [if_pos (by omega), if_pos (by omega), if_pos (by omega), if_pos (by omega), if_pos (by omega), if_pos (by omega), succ_cast j (by omega)]
    simp only [rd, Int.toNat_natCast]
theorem implA (es : List (List Int)) (tn : List Int) (n : Nat) (hn : n ≤ 1048576) (hel : es.length = n) (htn : tn.length = n) (hrl : ∀ i < n, (es.getD i []).length = n) : ∀ (m i : Nat) (o : List Int), n - i = m → i ≤ n → o.length = n →
    Ev (fun k => impl_tensionsAfter.l0 k tn o es (n : Int) (i : Int)) (stO es tn n m i o) := by
  intro m
  induction m with
  | zero =>
    intro i o h1 h2 h3
    refine ev_end (fun k => ?_)
    simp only [impl_tensionsAfter.l0]
    rw [if_neg (by omega)]
    rfl
  | succ m ih =>
    intro i o h1 h2 h3
    have h := implA_in es tn n i hn hel htn (by omega) (hrl i (by omega)) _ n 0 o (by omega) (by omega) h3 (ih (i + 1) (stI (es.getD i []) tn i n 0 o) (by omega) (by omega) (by rw [stI_len]; exact h3))
    refine ev_step (fun k => ?_) h
    simp only [impl_tensionsAfter.l0]
    rw [if_pos (by omega), if_pos (by omega), if_pos (by omega)]
    simp only [rd_L2, Int.toNat_natCast]
    rw [hrl i (by omega)]
    rfl
theorem specA_in (ts : List Int) (es : List (List Int)) (tn : List Int) (n i : Nat) (hn : n ≤ 1048576) (hel : es.length = n) (htn : tn.length = n) (hi : i < n) (hrl : (es.getD i []).length = n) (r : List Int) : ∀ (m j : Nat) (o : List Int), n - j = m → j ≤ n → o.length = n →
    Ev (fun k => spec_l12After.l0 k tn (stI (es.getD i []) tn i m j o) ((i + 1 : Nat) : Int) ts es) r → Ev (fun k => spec_l12After.l1 k tn o (i : Int) (j : Int) ts es) r := by
  intro m
  induction m with
  | zero =>
    intro j o h1 h2 h3 h4
    refine ev_step (fun k => ?_) h4
    simp only [spec_l12After.l1]
    rw [if_neg (by omega), succ_cast i (by omega)]
    rfl
  | succ m ih =>
    intro j o h1 h2 h3 h4
    refine ev_step (fun k => ?_) (ih (j + 1) _ (by omega) (by omega) (by simp; exact h3) h4)
    simp only [spec_l12After.l1]
    rw [if_pos (by omega), if_pos (by omega), if_pos (by omega), if_pos (by omega), if_pos (by omega), if_pos (by simp only [rd_L2, Int.toNat_natCast]; omega), succ_cast j (by omega)]
    simp only [rd, rd_L2, Int.toNat_natCast]
theorem specA (ts : List Int) (es : List (List Int)) (tn : List Int) (n : Nat) (hn : n ≤ 1048576) (hel : es.length = n) (htn : tn.length = n) (hrl : ∀ i < n, (es.getD i []).length = n) : ∀ (m i : Nat) (o : List Int), n - i = m → i ≤ n → o.length = n →
    Ev (fun k => spec_l12After.l0 k tn o (i : Int) ts es) (stO es tn n m i o) := by
  intro m
  induction m with
  | zero =>
    intro i o h1 h2 h3
    refine ev_end (fun k => ?_)
    simp only [spec_l12After.l0]
    rw [if_neg (by omega)]
    rfl
  | succ m ih =>
    intro i o h1 h2 h3
    have h := specA_in ts es tn n i hn hel htn (by omega) (hrl i (by omega)) _ n 0 o (by omega) (by omega) h3 (ih (i + 1) (stI (es.getD i []) tn i n 0 o) (by omega) (by omega) (by rw [stI_len]; exact h3))
    refine ev_step (fun k => ?_) h
    simp only [spec_l12After.l0]
    rw [if_pos (by omega)]
    rfl
theorem stI_bound (row tn : List Int) (i : Nat) : ∀ (m k : Nat) (o : List Int), (∀ x ∈ o, x ≤ 9223372036854775807) → ∀ x ∈ stI row tn i m k o, x ≤ 9223372036854775807 := by
  intro m
  induction m with
  | zero => intro k o h; exact h
  | succ m ih =>
    intro k o h
    refine ih (k + 1) _ (fun x hx => ?_)
    rcases List.mem_or_eq_of_mem_set hx with h1 | h1
    · exact h x h1
    · rw [h1]; exact (wrap_bound _).2
theorem stO_bound (es : List (List Int)) (tn : List Int) (n : Nat) : ∀ (m i : Nat) (o : List Int), (∀ x ∈ o, x ≤ 9223372036854775807) → ∀ x ∈ stO es tn n m i o, x ≤ 9223372036854775807 := by
  intro m
  induction m with
  | zero => intro i o h; exact h
  | succ m ih => intro i o h; exact ih (i + 1) _ (stI_bound _ _ _ _ _ _ h)
theorem fold_mn_le : ∀ (l : List Int) (x : Int), l.foldl mn x ≤ x
  | [], x => Int.le_refl x
  | y :: l, x => Int.le_trans (fold_mn_le l (mn x y)) (by unfold mn; split <;> omega)
theorem fold_mx_ge : ∀ (l : List Int) (x : Int), x ≤ l.foldl mx x
  | [], x => Int.le_refl x
  | y :: l, x => Int.le_trans (by unfold mx; split <;> omega) (fold_mx_ge l (mx x y))
theorem fold_mx_le (b : Int) : ∀ (l : List Int) (x : Int), x ≤ b → (∀ y ∈ l, y ≤ b) → l.foldl mx x ≤ b
  | [], x, h, _ => h
  | y :: l, x, h, hl => fold_mx_le b l (mx x y) (by have := hl y (by simp); unfold mx; split <;> omega) (fun z hz => hl z (by simp [hz]))
def loA (a : List Int) : Int := (a.drop 1).foldl mn (a.getD 0 0)
def hiA (a : List Int) : Int := (a.drop 1).foldl mx (a.getD 0 0)
def costA (a : List Int) : Int := if loA a < 0 then -1 else wrap64 (hiA a - loA a)
theorem drop_fold {f : Int → Int → Int} {a : List Int} {q : Nat} (h : q < a.length) (x : Int) : (a.drop q).foldl f x = (a.drop (q + 1)).foldl f (f x (a.getD q 0)) := by
  rw [List.drop_eq_getElem_cons h, List.foldl_cons]
  congr 2
  rw [List.getD_eq_getElem?_getD, List.getElem?_eq_getElem h]
  rfl
theorem minS (a : List Int) (h0 : 0 < a.length) (h6 : a.length ≤ 1048576) : Ev (fun k => slices_Min_int64_int64.f k a) (loA a) := by
  have key : ∀ (m i : Nat) (x : Int), a.length - i = m → i ≤ a.length → Ev (fun k => slices_Min_int64_int64.l0 k a x (i : Int)) ((a.drop i).foldl mn x) := by
    intro m
    induction m with
    | zero =>
      intro i x h1 h2
      refine ev_end (fun k => ?_)
      simp only [slices_Min_int64_int64.l0]
      rw [if_neg (by omega), List.drop_of_length_le (by omega)]
      rfl
    | succ m ih =>
      intro i x h1 h2
      refine ev_step (fun k => ?_) (ev_eq (ih (i + 1) (mn x (a.getD i 0)) (by omega) (by omega)) (drop_fold (by omega) x).symm)
      simp only [slices_Min_int64_int64.l0]
      rw [if_pos (by omega), if_pos (by omega), succ_cast i (by omega)]
      simp only [rd, Int.toNat_natCast]
  unfold slices_Min_int64_int64.f
  exact ev_if_neg (by omega) (ev_if_pos (by omega) (key _ 1 _ rfl (by omega)))
theorem maxS (a : List Int) (h0 : 0 < a.length) (h6 : a.length ≤ 1048576) : Ev (fun k => slices_Max_int64_int64.f k a) (hiA a) := by
  have key : ∀ (m i : Nat) (x : Int), a.length - i = m → i ≤ a.length → Ev (fun k => slices_Max_int64_int64.l0 k a x (i : Int)) ((a.drop i).foldl mx x) := by
    intro m
    induction m with
    | zero =>
      intro i x h1 h2
      refine ev_end (fun k => ?_)
      simp only [slices_Max_int64_int64.l0]
      rw [if_neg (by omega), List.drop_of_length_le (by omega)]
      rfl
    | succ m ih =>
      intro i x h1 h2
      refine ev_step (fun k => ?_) (ev_eq (ih (i + 1) (mx x (a.getD i 0)) (by omega) (by omega)) (drop_fold (by omega) x).symm)
      simp only [slices_Max_int64_int64.l0]
      rw [if_pos (by omega), if_pos (by omega), succ_cast i (by omega)]
      simp only [rd, Int.toNat_natCast]
  unfold slices_Max_int64_int64.f
  exact ev_if_neg (by omega) (ev_if_pos (by omega) (key _ 1 _ rfl (by omega)))
theorem aftersAll (ts : List Int) (es : List (List Int)) (tn : List Int) (hv : okTB ts es = true) (htn : tn.length = ts.length) : Ev (fun k => impl_tensionsAfter.f k ts es tn) (afterT ts es tn) ∧ Ev (fun k => spec_l12After.f k ts es tn) (afterT ts es tn) := by
  obtain ⟨hel, h1, h4, _, hrows⟩ := okT_row hv
  constructor
  · unfold impl_tensionsAfter.f
    refine ev_some (ev_if_pos (by simp; omega) ?_)
    rw [hel]
    exact implA es tn ts.length (by omega) hel htn (fun i hi => (hrows i hi).1) ts.length 0 ts (by omega) (by omega) rfl
  · unfold spec_l12After.f spec_l00Own.f
    refine ev_bind (a := ts) (ev_now fun _ => ?_) ?_
    · show (if _ then _ else _) = _
      rw [if_pos (by simp; omega)]
      rfl
    · exact specA ts es tn ts.length (by omega) hel htn (fun i hi => (hrows i hi).1) ts.length 0 ts (by omega) (by omega) rfl
theorem ev_ex {α : Type} {g : Nat → Option α} {r : α} (h : Ev g r) : ∃ k, g k = some r := by obtain ⟨n, h⟩ := h; exact ⟨n, h n (Nat.le_refl n)⟩
theorem afterT_len (ts : List Int) (es : List (List Int)) (tn : List Int) : (afterT ts es tn).length = ts.length := by unfold afterT; rw [stO_len]
theorem evOk (ts : List Int) (es : List (List Int)) (hv : okTB ts es = true) : EvOk ts es := by
  obtain ⟨hel, h1, h4, _, hrows⟩ := okT_row hv
  refine ⟨h1, by omega, fun tn htn => ⟨afterT ts es tn, loA _, hiA _, ev_ex (aftersAll ts es tn hv htn).1, ev_ex (minS _ (by rw [afterT_len]; omega) (by rw [afterT_len]; omega)), ev_ex (maxS _ (by rw [afterT_len]; omega) (by rw [afterT_len]; omega))⟩⟩
theorem wide_in (ts : List Int) (es : List (List Int)) (tn : List Int) (hv : okTB ts es = true) (h0 : 0 ≤ loA (afterT ts es tn)) : 0 ≤ hiA (afterT ts es tn) - loA (afterT ts es tn) ∧ wrap64 (hiA (afterT ts es tn) - loA (afterT ts es tn)) = hiA (afterT ts es tn) - loA (afterT ts es tn) := by
  obtain ⟨hel, h1, h4, hts, hrows⟩ := okT_row hv
  have hb : ∀ x ∈ afterT ts es tn, x ≤ 9223372036854775807 := by
    refine stO_bound es tn ts.length _ _ ts (fun x hx => ?_)
    obtain ⟨i, hi, rfl⟩ := List.mem_iff_getElem.1 hx
    have := (hts i hi).2
    rw [List.getD_eq_getElem?_getD, List.getElem?_eq_getElem hi] at this
    simp at this
    omega
  have e1 := fold_mn_le ((afterT ts es tn).drop 1) ((afterT ts es tn).getD 0 0)
  have e2 := fold_mx_ge ((afterT ts es tn).drop 1) ((afterT ts es tn).getD 0 0)
  have hl := afterT_len ts es tn
  have e3 := fold_mx_le 9223372036854775807 ((afterT ts es tn).drop 1) ((afterT ts es tn).getD 0 0) (hb _ (getD_mem (by omega))) (fun y hy => hb y (List.mem_of_mem_drop hy))
  unfold loA at *
  unfold hiA at *
  exact ⟨by omega, wrap_in (by omega) (by omega)⟩
/-! ### drawn tunings and turns -/
def InB (lo hi : Int) (l : List Int) : Prop := ∀ x ∈ l, lo ≤ x ∧ x ≤ hi
theorem inb_app {lo hi : Int} {l : List Int} {x : Int} (h : InB lo hi l) (hx : lo ≤ x ∧ x ≤ hi) : InB lo hi (l ++ [x]) := by
  intro y hy
  rcases List.mem_append.1 hy with h1 | h1
  · exact h y h1
  · rw [List.mem_singleton.1 h1]; exact hx
theorem drawRow {c : List Int} (h : bytes c) (n i : Nat) (hn : n ≤ 4) (hi : i < n) (ts : List Int) (es : List (List Int)) (hes : es.length ≤ 4) : ∀ (m j : Nat) (row : List Int) (a s : Int), n - j = m → j ≤ n → row.length = j → InB (-1000) 1000 row → 0 ≤ a → a + 2 * m ≤ 1000 →
    ∃ row' a' s', row'.length = n ∧ InB (-1000) 1000 row' ∧ a ≤ a' ∧ a' ≤ a + 2 * m ∧ ∀ r, Ev (fun k => spec_l12Draw.l0 k (n : Int) ((i + 1 : Nat) : Int) c a' s' ts (es ++ [row'])) r → Ev (fun k => spec_l12Draw.l1 k (n : Int) (i : Int) row (j : Int) c a s ts es) r := by
  intro m
  induction m with
  | zero =>
    intro j row a s h1 h2 h3 h4 h5 h6
    refine ⟨row, a, s, by omega, h4, by omega, by omega, fun r hr => ev_step (fun k => ?_) hr⟩
    simp only [spec_l12Draw.l1]
    rw [if_neg (by omega), if_pos (by omega), succ_cast i (by omega)]
  | succ m ih =>
    intro j row a s h1 h2 h3 h4 h5 h6
    by_cases hij : i = j
    · obtain ⟨v, a1, s1, e1, v0, v1, b1, b2⟩ := pick_ok h a s 10 h5 (by omega)
      have hw : wrap64 (10 * wrap64 (1 + v)) = 10 * (1 + v) := by rw [wrap_in (x := 1 + v) (by omega) (by omega), wrap_in (by omega) (by omega)]
      obtain ⟨row', a', s', q1, q2, q3, q4, q5⟩ := ih (j + 1) (row ++ [10 * (1 + v)]) a1 s1 (by omega) (by omega) (by rw [List.length_append, h3]; rfl) (inb_app h4 (by omega)) (by omega) (by omega)
      refine ⟨row', a', s', q1, q2, by omega, by omega, fun r hr => ev_step (fun k => ?_) (q5 r hr)⟩
      simp only [spec_l12Draw.l1]
      rw [if_pos (by omega), if_pos (by omega), e1]
      simp only [Option.bind_some]
      rw [if_pos (by omega), hw, succ_cast j (by omega)]
    · obtain ⟨v, a1, s1, e1, v0, v1, b1, b2⟩ := pick_ok h a s 7 h5 (by omega)
      have hw : wrap64 (wrap64 (10 * v) - 30) = 10 * v - 30 := by rw [wrap_in (x := 10 * v) (by omega) (by omega), wrap_in (by omega) (by omega)]
      obtain ⟨row', a', s', q1, q2, q3, q4, q5⟩ := ih (j + 1) (row ++ [10 * v - 30]) a1 s1 (by omega) (by omega) (by rw [List.length_append, h3]; rfl) (inb_app h4 (by omega)) (by omega) (by omega)
      refine ⟨row', a', s', q1, q2, by omega, by omega, fun r hr => ev_step (fun k => ?_) (q5 r hr)⟩
      simp only [spec_l12Draw.l1]
      rw [if_pos (by omega), if_neg (by omega), e1]
      simp only [Option.bind_some]
      rw [if_pos (by omega), hw, succ_cast j (by omega)]
theorem drawRows {c : List Int} (h : bytes c) (n : Nat) (hn : n ≤ 4) : ∀ (m i : Nat) (ts : List Int) (es : List (List Int)) (a s : Int), n - i = m → i ≤ n → ts.length = i → es.length = i → InB 0 1000000 ts → (∀ row ∈ es, row.length = n ∧ InB (-1000) 1000 row) → 0 ≤ a → a + 20 * m ≤ 500 →
    ∃ ts' es' a' s', Ev (fun k => spec_l12Draw.l0 k (n : Int) (i : Int) c a s ts es) (ts', es', a', s') ∧ ts'.length = n ∧ es'.length = n ∧ InB 0 1000000 ts' ∧ ∀ row ∈ es', row.length = n ∧ InB (-1000) 1000 row := by
  intro m
  induction m with
  | zero =>
    intro i ts es a s h1 h2 h3 h4 h5 h6 h7 h8
    refine ⟨ts, es, a, s, ev_end (fun k => ?_), by omega, by omega, h5, h6⟩
    simp only [spec_l12Draw.l0]
    rw [if_neg (by omega)]
  | succ m ih =>
    intro i ts es a s h1 h2 h3 h4 h5 h6 h7 h8
    obtain ⟨v, a1, s1, e1, v0, v1, b1, b2⟩ := pick_ok h a s 20 h7 (by omega)
    have hw : wrap64 (50 * v) = 50 * v := wrap_in (by omega) (by omega)
    obtain ⟨row', a', s', q1, q2, q3, q4, q5⟩ := drawRow h n i hn (by omega) (ts ++ [50 * v]) es (by omega) n 0 [] a1 s1 (by omega) (by omega) rfl (fun x hx => by simp at hx) (by omega) (by omega)
    obtain ⟨ts', es', a2, s2, g1, g2⟩ := ih (i + 1) (ts ++ [50 * v]) (es ++ [row']) a' s' (by omega) (by omega) (by rw [List.length_append, h3]; rfl) (by rw [List.length_append, h4]; rfl) (inb_app h5 (by omega)) (fun row hrow => by rcases List.mem_append.1 hrow with h_ | h_; exact h6 row h_; rw [List.mem_singleton.1 h_]; exact ⟨q1, q2⟩) (by omega) (by omega)
    refine ⟨ts', es', a2, s2, ev_step (fun k => ?_) (q5 _ g1), g2⟩
    simp only [spec_l12Draw.l0]
    rw [if_pos (by omega), e1]
    simp only [Option.bind_some]
    rw [if_pos (by omega), hw]
    rfl
theorem tuningDraw {c : List Int} (h : bytes c) : ∃ ts es, Ev (fun k => spec_A2Tuning.f k c) (ts, es) ∧ okTB ts es = true := by
  obtain ⟨v, a1, s1, e1, v0, v1, b1, b2⟩ := pick_ok h 0 0 3 (by omega) (by omega)
  obtain ⟨n, hn⟩ : ∃ n : Nat, wrap64 (1 + v) = (n : Int) := ⟨(1 + v).toNat, by rw [wrap_in (by omega) (by omega)]; omega⟩
  have hn' : 1 ≤ n ∧ n ≤ 3 := by rw [wrap_in (by omega) (by omega)] at hn; omega
  obtain ⟨ts, es, a', s', g1, g2, g3, g4, g5⟩ := drawRows h n (by omega) n 0 [] [] a1 s1 (by omega) (by omega) rfl rfl (fun x hx => by simp at hx) (fun row hrow => by simp at hrow) (by omega) (by omega)
  refine ⟨ts, es, ?_, ?_⟩
  · unfold spec_A2Tuning.f spec_l00From.f spec_l12Draw.f
    refine ev_some (ev_bind (a := (v, a1, s1)) (ev_now fun _ => e1) ?_)
    rw [hn]
    exact ev_bind g1 (ev_now fun _ => rfl)
  · simp only [okTB, okRowB, Bool.and_eq_true, decide_eq_true_eq, List.all_eq_true]
    refine ⟨⟨⟨⟨by omega, fun x hx => g4 x hx⟩, fun row hrow => ⟨by rw [(g5 row hrow).1, g2], fun x hx => (g5 row hrow).2 x hx⟩⟩, by omega⟩, by omega⟩
theorem turnsLoop {c : List Int} (h : bytes c) (n : Nat) (hn : n ≤ 4) : ∀ (m i : Nat) (tn : List Int) (a s : Int), n - i = m → i ≤ n → tn.length = i → InB (-6) 6 tn → 0 ≤ a → a + 2 * m ≤ 500 →
    ∃ tn', Ev (fun k => spec_A2Turns.l0 k (n : Int) tn (i : Int) c a s) tn' ∧ tn'.length = n ∧ InB (-6) 6 tn' := by
  intro m
  induction m with
  | zero =>
    intro i tn a s h1 h2 h3 h4 h5 h6
    refine ⟨tn, ev_end (fun k => ?_), by omega, h4⟩
    simp only [spec_A2Turns.l0]
    rw [if_neg (by omega)]
  | succ m ih =>
    intro i tn a s h1 h2 h3 h4 h5 h6
    obtain ⟨v, a1, s1, e1, v0, v1, b1, b2⟩ := pick_ok h a s 13 h5 (by omega)
    have hw : wrap64 (v - 6) = v - 6 := wrap_in (by omega) (by omega)
    obtain ⟨tn', g1, g2⟩ := ih (i + 1) (tn ++ [v - 6]) a1 s1 (by omega) (by omega) (by rw [List.length_append, h3]; rfl) (inb_app h4 (by omega)) (by omega) (by omega)
    refine ⟨tn', ev_step (fun k => ?_) g1, g2⟩
    simp only [spec_A2Turns.l0]
    rw [if_pos (by omega), e1]
    simp only [Option.bind_some]
    rw [if_pos (by omega), hw, succ_cast i (by omega)]
theorem turnsDraw {c : List Int} (h : bytes c) (n : Nat) (hn : n ≤ 4) : ∃ tn, Ev (fun k => spec_A2Turns.f k c (n : Int)) tn ∧ tn.length = n ∧ InB (-6) 6 tn := by
  obtain ⟨tn, g1, g2⟩ := turnsLoop h n hn n 0 [] 0 0 (by omega) (by omega) rfl (fun x hx => by simp at hx) (by omega) (by omega)
  refine ⟨tn, ?_, g2⟩
  unfold spec_A2Turns.f spec_l00From.f
  exact ev_some g1
/-! ### the best of all turns -/
theorem foldl_inv {S : Type} (P : S → Prop) (F : S → Nat → S) (h : ∀ s j, P s → P (F s j)) : ∀ (l : List Nat) (s : S), P s → P (l.foldl F s)
  | [], _, hs => hs
  | j :: l, s, hs => foldl_inv P F h l _ (h s j hs)
theorem foldl_inv' {S : Type} (P : S → Prop) (F : S → Nat → S) : ∀ (l : List Nat) (s : S), (∀ j ∈ l, ∀ s, P s → P (F s j)) → P s → P (l.foldl F s)
  | [], _, _, hs => hs
  | j :: l, s, h, hs => foldl_inv' P F l _ (fun i hi => h i (List.mem_cons_of_mem _ hi)) (h j (List.mem_cons_self) s hs)
theorem foldl_mem {S : Type} (Q : S → Prop) (F : S → Nat → S) (hup : ∀ s j, Q s → Q (F s j)) (j0 : Nat) (h0 : ∀ s, Q (F s j0)) : ∀ (l : List Nat) (s : S), j0 ∈ l → Q (l.foldl F s)
  | [], _, hj => by simp at hj
  | j :: l, s, hj => by
    rcases List.mem_cons.1 hj with h1 | h1
    · subst h1
      exact foldl_inv Q F hup l _ (h0 s)
    · exact foldl_mem Q F hup j0 h0 l _ h1
theorem fills_inv {S : Type} (P : S → Prop) (f : S → List Int → S) (n : Nat) (h : ∀ s tn, tn.length = n → InB (-6) 6 tn → P s → P (f s tn)) : ∀ (m : Nat) (s : S) (pre : List Int), pre.length + m = n → InB (-6) 6 pre → P s → P (fills f m s pre) := by
  intro m
  induction m with
  | zero => intro s pre h1 h2 h3; exact h s pre (by omega) h2 h3
  | succ m ih =>
    intro s pre h1 h2 h3
    exact foldl_inv' P _ (List.range 13) s (fun j hj s hs => ih s _ (by rw [List.length_append]; simp; omega) (inb_app h2 (by have := List.mem_range.1 hj; omega)) hs) h3
theorem fills_cov {S : Type} (Q : S → Prop) (f : S → List Int → S) (n : Nat) (tn : List Int) (hl : tn.length = n) (hb : InB (-6) 6 tn) (hup : ∀ s t, t.length = n → InB (-6) 6 t → Q s → Q (f s t)) (h0 : ∀ s, Q (f s tn)) : ∀ (m : Nat) (s : S) (pre : List Int), pre.length + m = n → pre = tn.take pre.length → Q (fills f m s pre) := by
  intro m
  induction m with
  | zero =>
    intro s pre h1 h2
    have e : pre = tn := by rw [h2]; exact List.take_of_length_le (by omega)
    rw [e]
    exact h0 s
  | succ m ih =>
    intro s pre h1 h2
    have hpb : InB (-6) 6 pre := fun x hx => hb x (List.mem_of_mem_take (h2 ▸ hx))
    have hi : pre.length < tn.length := by omega
    have hx := hb (tn.getD pre.length 0) (getD_mem hi)
    refine foldl_inv (fun s => Q s) (fun s (_ : Nat) => s) (fun s j h => h) [] _ ?_
    show Q ((List.range 13).foldl (fun s (j : Nat) => fills f m s (pre ++ [(j : Int) - 6])) s)
    have key : ∀ (l : List Nat) (s : S), (∀ j ∈ l, j < 13) → ((tn.getD pre.length 0 + 6).toNat ∈ l ∨ Q s) → Q (l.foldl (fun s (j : Nat) => fills f m s (pre ++ [(j : Int) - 6])) s) := by
      intro l
      induction l with
      | nil => intro s _ h; rcases h with h | h; simp at h; exact h
      | cons j l ihl =>
        intro s hj h
        have hj13 := hj j (List.mem_cons_self)
        refine ihl _ (fun i hi => hj i (List.mem_cons_of_mem _ hi)) ?_
        rcases h with h | h
        · rcases List.mem_cons.1 h with h | h
          · right
            refine ih s _ (by rw [List.length_append]; simp; omega) ?_
            rw [List.length_append]
            show pre ++ [(j : Int) - 6] = tn.take (pre.length + 1)
            rw [List.take_succ_eq_append_getElem hi, ← h2]
            congr 2
            rw [← h, List.getD_eq_getElem?_getD, List.getElem?_eq_getElem hi]
            rw [List.getD_eq_getElem?_getD, List.getElem?_eq_getElem hi] at hx
            simp at hx ⊢
            omega
          · exact .inl h
        · exact .inr (fills_inv Q f n hup m s _ (by rw [List.length_append]; simp; omega) (inb_app hpb (by omega)) h)
    exact key _ s (fun j hj => List.mem_range.1 hj) (.inl (List.mem_range.2 (by omega)))
def widA (ts : List Int) (es : List (List Int)) (tn : List Int) : Int := hiA (afterT ts es tn) - loA (afterT ts es tn)
theorem step_val (ts : List Int) (es : List (List Int)) (hv : okTB ts es = true) (s : Option (List Int × Int)) (tn : List Int) (htn : tn.length = ts.length) : stepE ts es s tn = stepV s tn (loA (afterT ts es tn)) (hiA (afterT ts es tn)) := by
  have hlen := afterT_len ts es tn
  have h1 := (okT_row hv).2.1
  have h4 := (okT_row hv).2.2.1
  exact stepE_eq (ev_ex (aftersAll ts es tn hv htn).1) (ev_ex (minS _ (by omega) (by omega))) (ev_ex (maxS _ (by omega) (by omega)))
/-- what the best is: it is one of all turns, and its tensions' spread is told with it -/
def IsOne (ts : List Int) (es : List (List Int)) (s : Option (List Int × Int)) : Prop := ∀ p, s = some p → p.1.length = ts.length ∧ InB (-6) 6 p.1 ∧ 0 ≤ loA (afterT ts es p.1) ∧ p.2 = widA ts es p.1
theorem best_one (ts : List Int) (es : List (List Int)) (hv : okTB ts es = true) : IsOne ts es (fills (stepE ts es) ts.length none []) := by
  refine fills_inv (IsOne ts es) _ ts.length (fun s tn hl hb hs => ?_) ts.length none [] (by simp) (fun x hx => by simp at hx) (fun p hp => by simp at hp)
  rw [step_val ts es hv s tn hl]
  unfold stepV
  split
  · rename_i hc
    intro p hp
    injection hp with hp
    subst hp
    exact ⟨hl, hb, hc.1, (wide_in ts es tn hv hc.1).2⟩
  · exact hs
theorem best_least (ts : List Int) (es : List (List Int)) (hv : okTB ts es = true) (tn : List Int) (hl : tn.length = ts.length) (hb : InB (-6) 6 tn) (h0 : 0 ≤ loA (afterT ts es tn)) : ∃ p, fills (stepE ts es) ts.length none [] = some p ∧ p.2 ≤ widA ts es tn := by
  refine fills_cov (fun s => ∃ p : List Int × Int, s = some p ∧ p.2 ≤ widA ts es tn) _ ts.length tn hl hb (fun s t htl htb hs => ?_) (fun s => ?_) ts.length none [] (by simp) rfl
  · obtain ⟨p, rfl, hp⟩ := hs
    rw [step_val ts es hv _ t htl]
    unfold stepV
    split
    · rename_i hc
      exact ⟨_, rfl, by have := hc.2 p rfl; show wrap64 _ ≤ _; omega⟩
    · exact ⟨p, rfl, hp⟩
  · rw [step_val ts es hv _ tn hl]
    unfold stepV
    have hw := (wide_in ts es tn hv h0).2
    split
    · exact ⟨_, rfl, by show wrap64 _ ≤ _; rw [hw]; exact Int.le_refl _⟩
    · rename_i hc
      cases s with
      | none => exact absurd ⟨h0, fun p hp => by simp at hp⟩ hc
      | some p =>
        refine ⟨p, rfl, ?_⟩
        by_cases hlt : wrap64 (hiA (afterT ts es tn) - loA (afterT ts es tn)) < p.2
        · exact absurd ⟨h0, fun q hq => by injection hq with hq; rw [← hq]; exact hlt⟩ hc
        · rw [hw] at hlt; unfold widA; omega
/-! ### the strongest screw -/
def sizeA (x : Int) : Int := if x < 0 then -x else x
def strongL (row : List Int) : Nat → Nat → Nat → Nat
  | 0, _, b => b
  | m + 1, k, b => strongL row m (k + 1) (if sizeA (row.getD k 0) > sizeA (row.getD b 0) then k else b)
theorem isize (x : Int) (h : -1000 ≤ x ∧ x ≤ 1000) : impl_size.f x = some (sizeA x) := by
  unfold impl_size.f sizeA
  have hw : ∀ y : Int, 0 ≤ y → y ≤ 1000 → IntKind.u64.wrap y = y := by
    intro y h0 h1
    have e : IntKind.u64.wrap y = y % 18446744073709551616 := by simp [IntKind.wrap, IntKind.bits, IntKind.signed]
    rw [e]
    omega
  split
  · rw [wrap_in (by omega) (by omega), hw _ (by omega) (by omega)]
  · rw [hw _ (by omega) (by omega)]
theorem strong (row : List Int) (hr : row.length ≤ 4) (hb : ∀ i < row.length, -1000 ≤ row.getD i 0 ∧ row.getD i 0 ≤ 1000) : ∀ (m k b : Nat), row.length - k = m → k ≤ row.length → b < row.length →
    Ev (fun n => impl_StrongestScrew.l0 n row (b : Int) (row.length : Int) (k : Int)) ((strongL row m k b : Nat), 0) := by
  intro m
  induction m with
  | zero =>
    intro k b h1 h2 h3
    refine ev_end (fun n => ?_)
    simp only [impl_StrongestScrew.l0]
    rw [if_neg (by omega)]
    rfl
  | succ m ih =>
    intro k b h1 h2 h3
    have e : ∀ n, impl_StrongestScrew.l0 (n + 1) row (b : Int) (row.length : Int) (k : Int) = if sizeA (row.getD k 0) > sizeA (row.getD b 0) then impl_StrongestScrew.l0 n row (k : Int) (row.length : Int) ((k + 1 : Nat) : Int) else impl_StrongestScrew.l0 n row (b : Int) (row.length : Int) ((k + 1 : Nat) : Int) := by
      intro n
      simp only [impl_StrongestScrew.l0]
      rw [if_pos (by omega), if_pos (by omega), if_pos (by omega), succ_cast k (by omega)]
      simp only [rd, Int.toNat_natCast]
      rw [isize _ (hb k (by omega)), isize _ (hb b h3)]
      simp only [Option.bind_some]
      rw [if_pos (show 0 ≤ (b : Int) by omega), if_pos (show (b : Int) < (row.length : Int) by omega)]
    refine ev_step e ?_
    show Ev _ (((strongL row m (k + 1) (if sizeA (row.getD k 0) > sizeA (row.getD b 0) then k else b) : Nat) : Int), (0 : Int))
    by_cases hc : sizeA (row.getD k 0) > sizeA (row.getD b 0)
    · simp only [if_pos hc]
      exact ih (k + 1) k (by omega) (by omega) (by omega)
    · simp only [if_neg hc]
      exact ih (k + 1) b (by omega) (by omega) h3
theorem strong_lt (row : List Int) : ∀ (m k b : Nat), k + m ≤ row.length → b < row.length → strongL row m k b < row.length := by
  intro m
  induction m with
  | zero => intro k b h1 h2; exact h2
  | succ m ih => intro k b h1 h2; refine ih (k + 1) _ (by omega) ?_; split <;> omega
theorem strong_max (row : List Int) : ∀ (m k b : Nat), sizeA (row.getD b 0) ≤ sizeA (row.getD (strongL row m k b) 0) ∧ ∀ j, k ≤ j → j < k + m → sizeA (row.getD j 0) ≤ sizeA (row.getD (strongL row m k b) 0) := by
  intro m
  induction m with
  | zero => intro k b; exact ⟨Int.le_refl _, fun j h1 h2 => by omega⟩
  | succ m ih =>
    intro k b
    obtain ⟨g1, g2⟩ := ih (k + 1) (if sizeA (row.getD k 0) > sizeA (row.getD b 0) then k else b)
    have e1 : sizeA (row.getD k 0) ≤ sizeA (row.getD (if sizeA (row.getD k 0) > sizeA (row.getD b 0) then k else b) 0) := by split <;> omega
    have e2 : sizeA (row.getD b 0) ≤ sizeA (row.getD (if sizeA (row.getD k 0) > sizeA (row.getD b 0) then k else b) 0) := by split <;> omega
    refine ⟨Int.le_trans e2 g1, fun j h1 h2 => ?_⟩
    by_cases hj : j = k
    · subst hj; exact Int.le_trans e1 g1
    · exact g2 j (by omega) (by omega)
theorem screw (ts : List Int) (es : List (List Int)) (hs : Small ts es) (hv : okTB ts es = true) (i : Nat) (hi : i < ts.length) : ∃ b : Nat, b < ts.length ∧ Ev (fun k => impl_StrongestScrew.f k ts es (i : Int)) ((b : Int), 0) ∧ ∀ j, j < ts.length → sizeA ((es.getD i []).getD j 0) ≤ sizeA ((es.getD i []).getD b 0) := by
  obtain ⟨hel, hn1, hn4, _, hrows⟩ := okT_row hv
  obtain ⟨hl, hb⟩ := hrows i hi
  refine ⟨strongL (es.getD i []) ts.length 0 0, by have := strong_lt (es.getD i []) ts.length 0 0 (by omega) (by omega); omega, ?_, fun j hj => (strong_max (es.getD i []) ts.length 0 0).2 j (by omega) (by omega)⟩
  unfold impl_StrongestScrew.f
  refine ev_bind (implT ts es hs) ?_
  rw [hv]
  refine ev_if_pos rfl ?_
  rw [wrap_in (by omega) (by omega), implIn]
  refine ev_some (ev_if_pos (by simp; omega) (ev_if_pos (by omega) (ev_if_pos (by omega) ?_)))
  simp only [rd_L2, Int.toNat_natCast]
  have := strong (es.getD i []) (by omega) (fun j hj => hb j (by omega)) (es.getD i []).length 0 0 (by omega) (by omega) (by omega)
  rw [hl] at this
  rw [hl]
  exact this
theorem ev_succ {α : Type} {g : Nat → Option α} {r : α} (h : Ev (fun k => g (k + 1)) r) : Ev g r := Ev.step (fun _ => rfl) h
theorem wideS (a : List Int) (h0 : 0 < a.length) (h6 : a.length ≤ 1048576) : Ev (fun k => laws_a2Wide.f k a) (costA a) := by
  have key : ∀ (m i : Nat) (x y : Int), a.length - i = m → i ≤ a.length → Ev (fun k => laws_a2Wide.l0 k a x y (i : Int)) (if (a.drop i).foldl mn x < 0 then -1 else wrap64 ((a.drop i).foldl mx y - (a.drop i).foldl mn x)) := by
    intro m
    induction m with
    | zero =>
      intro i x y h1 h2
      refine ev_end (fun k => ?_)
      simp only [laws_a2Wide.l0]
      rw [if_neg (by omega), List.drop_of_length_le (by omega)]
      show (if x < 0 then some (-1) else some (wrap64 (y - x))) = some (if x < 0 then -1 else wrap64 (y - x))
      by_cases hx : x < 0
      · rw [if_pos hx, if_pos hx]
      · rw [if_neg hx, if_neg hx]
    | succ m ih =>
      intro i x y h1 h2
      refine ev_step (fun k => ?_) (ev_eq (ih (i + 1) (mn x (a.getD i 0)) (mx y (a.getD i 0)) (by omega) (by omega)) (by rw [drop_fold (f := mn) (by omega) x, drop_fold (f := mx) (by omega) y]))
      simp only [laws_a2Wide.l0]
      rw [if_pos (by omega), if_pos (by omega), succ_cast i (by omega)]
      simp only [rd, Int.toNat_natCast]
  unfold laws_a2Wide.f
  exact ev_if_pos (by omega) (key _ 1 _ _ rfl (by omega))
theorem code0 (ts : List Int) (es : List (List Int)) (hv : okTB ts es = true) (tn : List Int) (hl : tn.length = ts.length) (hb : InB (-6) 6 tn) : codeT ts es tn = 0 := by
  unfold codeT
  rw [if_pos hv, if_pos]
  simp only [Bool.and_eq_true, List.all_eq_true, decide_eq_true_eq]
  exact ⟨fun x hx => hb x hx, hl⟩
theorem small_of {ts : List Int} {es : List (List Int)} (hv : okTB ts es = true) : Small ts es := by
  obtain ⟨hel, h1, h4, _, hrows⟩ := okT_row hv
  refine ⟨by omega, by omega, fun row hrow => ?_⟩
  obtain ⟨i, hi, rfl⟩ := List.mem_iff_getElem.1 hrow
  have := (hrows i (by omega)).1
  rw [List.getD_eq_getElem?_getD, List.getElem?_eq_getElem hi] at this
  simp at this
  omega
theorem aftI (ts : List Int) (es : List (List Int)) (hv : okTB ts es = true) (tn : List Int) (hl : tn.length = ts.length) (hb : InB (-6) 6 tn) : Ev (fun k => impl_TensionsAfter.f k ts es tn) (afterT ts es tn, 0) := by
  have h4 := (okT_row hv).2.2.1
  unfold impl_TensionsAfter.f
  refine ev_bind (implC ts es tn (small_of hv) (by omega)) ?_
  rw [code0 ts es hv tn hl hb]
  exact ev_if_pos rfl (ev_bind (aftersAll ts es tn hv hl).1 (ev_now fun _ => rfl))
theorem aftSp (ts : List Int) (es : List (List Int)) (hv : okTB ts es = true) (tn : List Int) (hl : tn.length = ts.length) (hb : InB (-6) 6 tn) : Ev (fun k => spec_TensionsAfter.f k ts es tn) (afterT ts es tn, 0) := by
  have h4 := (okT_row hv).2.2.1
  unfold spec_TensionsAfter.f
  refine ev_bind (specC ts es tn (small_of hv) (by omega)) ?_
  rw [code0 ts es hv tn hl hb]
  exact ev_if_pos rfl (ev_bind (aftersAll ts es tn hv hl).2 (ev_now fun _ => rfl))
theorem mx_size (x : Int) (h : -1000 ≤ x ∧ x ≤ 1000) : mx x (wrap64 (-x)) = sizeA x := by
  rw [wrap_in (by omega) (by omega)]
  unfold mx sizeA
  split <;> split <;> omega
theorem inner (ts : List Int) (es : List (List Int)) (hv : okTB ts es = true) (i b : Nat) (hi : i < ts.length) (hb : b < ts.length) (hmax : ∀ j, j < ts.length → sizeA ((es.getD i []).getD j 0) ≤ sizeA ((es.getD i []).getD b 0)) (h : Ev (fun k => laws_FnEvenTurns.l0 k (ts.length : Int) ((i + 1 : Nat) : Int) ts es) true) :
    ∀ (m j : Nat), ts.length - j = m → j ≤ ts.length → Ev (fun k => laws_FnEvenTurns.l1 k (ts.length : Int) (i : Int) (b : Int) (j : Int) ts es) true := by
  obtain ⟨hel, hn1, hn4, _, hrows⟩ := okT_row hv
  obtain ⟨hl, hbd⟩ := hrows i hi
  intro m
  induction m with
  | zero =>
    intro j h1 h2
    refine ev_step (fun k => ?_) h
    simp only [laws_FnEvenTurns.l1]
    rw [if_neg (by omega), succ_cast i (by omega)]
  | succ m ih =>
    intro j h1 h2
    refine ev_step (fun k => ?_) (ih (j + 1) (by omega) (by omega))
    simp only [laws_FnEvenTurns.l1]
    have er : rd_L2 es (i : Int) = es.getD i [] := by simp only [rd_L2, Int.toNat_natCast]
    have ex : ∀ q : Nat, rd (rd_L2 es (i : Int)) (q : Int) = (es.getD i []).getD q 0 := fun q => by rw [er]; simp only [rd, Int.toNat_natCast]
    rw [if_pos (by omega), if_pos (by omega), if_pos (by omega), if_pos (by omega), if_pos (by rw [er]; omega), if_pos (by omega), if_pos (by rw [er]; omega),
      if_neg (by rw [ex, ex, mx_size _ (hbd j (by omega)), mx_size _ (hbd b hb)]; have := hmax j (by omega); omega), succ_cast j (by omega)]
theorem screws (ts : List Int) (es : List (List Int)) (hv : okTB ts es = true) : ∀ (m i : Nat), ts.length - i = m → i ≤ ts.length → Ev (fun k => laws_FnEvenTurns.l0 k (ts.length : Int) (i : Int) ts es) true := by
  obtain ⟨hel, hn1, hn4, _, hrows⟩ := okT_row hv
  intro m
  induction m with
  | zero =>
    intro i h1 h2
    refine ev_end (fun k => ?_)
    simp only [laws_FnEvenTurns.l0]
    rw [if_neg (by omega)]
  | succ m ih =>
    intro i h1 h2
    obtain ⟨b, hb, e1, hmax⟩ := screw ts es (small_of hv) hv i (by omega)
    refine ev_succ ?_
    simp only [laws_FnEvenTurns.l0]
    refine ev_if_pos (by omega) (ev_bind e1 (ev_if_pos rfl (ev_if_neg (by show ¬ (b : Int) < 0; omega) ?_)))
    refine ev_succ ?_
    simp only [laws_FnEvenTurns.j2]
    refine ev_if_neg (by simp; omega) ?_
    exact inner ts es hv i b (by omega) hb hmax (ih (i + 1) (by omega) (by omega)) ts.length 0 (by omega) (by omega)
theorem FnEvenTurns : Say.FnEvenTurns := by
  intro c m hc hm
  have bc1 := bytes_of hc.2
  have bm1 := bytes_of hm.2
  apply Ev.rounds
  unfold laws_FnEvenTurns.f laws_a2Long.f
  by_cases h1 : (c.length : Int) > 3000
  · rw [if_pos h1]; exact ev_now fun _ => rfl
  rw [if_neg h1]
  refine ev_some ?_
  by_cases h2 : (m.length : Int) > 3000
  · exact ev_if_pos (decide_eq_true h2) (ev_now fun _ => rfl)
  refine ev_if_neg (by rw [decide_eq_false h2]; decide) ?_
  obtain ⟨ts, es, e1, hv⟩ := tuningDraw bc1
  obtain ⟨hel, hn1, hn4, _, hrows⟩ := okT_row hv
  obtain ⟨tn, e2, hl, hb⟩ := turnsDraw bm1 ts.length hn4
  have hw := wideS (afterT ts es tn) (by rw [afterT_len]; omega) (by rw [afterT_len]; omega)
  have h3 := implT ts es (small_of hv)
  rw [hv] at h3
  have hbest := best_one ts es hv
  have hleast := best_least ts es hv tn hl hb
  refine ev_bind e1 ?_
  cases hf : fills (stepE ts es) ts.length none [] with
  | none =>
    have hi : Ev (fun k => impl_EvenTurns.f k ts es) ([], 0, 3) := by
      unfold impl_EvenTurns.f
      refine ev_bind h3 (ev_now fun _ => ?_)
      rw [if_pos rfl, if_pos (evOk ts es hv), hf]
    refine ev_bind hi (ev_bind e2 (ev_bind (aftSp ts es hv tn hl hb) (ev_if_pos rfl (ev_bind hw (ev_if_neg (by show ¬ (3 : Int) = 0; omega) (ev_if_pos rfl (ev_now fun _ => ?_)))))))
    have hneg : loA (afterT ts es tn) < 0 := by
      by_cases h0 : 0 ≤ loA (afterT ts es tn)
      · obtain ⟨p, hp, _⟩ := hleast h0
        rw [hf] at hp
        cases hp
      · omega
    have : costA (afterT ts es tn) = -1 := if_pos hneg
    rw [this]
    rfl
  | some p =>
    obtain ⟨b1, b2, b3, b4⟩ := hbest p hf
    have hi : Ev (fun k => impl_EvenTurns.f k ts es) (p.1, p.2, 0) := by
      unfold impl_EvenTurns.f
      refine ev_bind h3 (ev_now fun _ => ?_)
      rw [if_pos rfl, if_pos (evOk ts es hv), hf]
    have hc : costA (afterT ts es p.1) = p.2 := by
      unfold costA
      rw [if_neg (by omega), (wide_in ts es p.1 hv b3).2, b4]
      rfl
    have hw2 := wideS (afterT ts es p.1) (by rw [afterT_len]; omega) (by rw [afterT_len]; omega)
    rw [hc] at hw2
    have hfin : Ev (fun k => laws_FnEvenTurns.j0 k (ts.length : Int) false ts es) true := by
      refine ev_succ ?_
      simp only [laws_FnEvenTurns.j0, Bool.false_eq_true, if_false]
      exact screws ts es hv ts.length 0 (by omega) (by omega)
    refine ev_bind hi (ev_bind e2 (ev_bind (aftSp ts es hv tn hl hb) (ev_if_pos rfl (ev_bind hw (ev_if_pos rfl (ev_bind (aftI ts es hv p.1 b1 b2) (ev_if_pos rfl (ev_if_pos (by show ((afterT ts es p.1).length : Int) = _; rw [afterT_len]) (ev_bind hw2 (ev_if_pos rfl ?_))))))))))
    by_cases hge : costA (afterT ts es tn) ≥ 0
    · refine ev_if_pos hge ?_
      have h0 : 0 ≤ loA (afterT ts es tn) := by
        by_cases h0 : loA (afterT ts es tn) < 0
        · have : costA (afterT ts es tn) = -1 := if_pos h0
          omega
        · omega
      obtain ⟨q, hq, hq2⟩ := hleast h0
      rw [hf] at hq
      injection hq with hq
      subst hq
      have e : costA (afterT ts es tn) = widA ts es tn := by unfold costA; rw [if_neg (by omega), (wide_in ts es tn hv h0).2]; rfl
      have : decide (costA (afterT ts es tn) < p.2) = false := decide_eq_false (by rw [e]; omega)
      rw [this]
      exact hfin
    · exact ev_if_neg hge hfin
end Go.Proofs.Ythfpaldhdohnkaa.Pure
