import Derived.Test.YthfpaldhdohnkaaSayFnExactRetuned
import Derived.Test.YthfpaldhdohnkaaPlain
namespace Go.Proofs.Ythfpaldhdohnkaa.Pure
open Go.RowKit Go.Proofs.Ythfpaldhdohnkaa.PFnExactRetuned Go.Proofs.Ythfpaldhdohnkaa.Plain Go.Proofs.YthfpaldhdohnkaaW.PrintWords
set_option linter.unusedVariables false
set_option linter.unusedSimpArgs false
open Go.Proofs.YthfpaldhdohnkaaW.PrintMore
theorem specIn (n a b : Int) : spec_l00In.f n a b = some (decide (a ≤ n ∧ n ≤ b)) := by
  unfold spec_l00In.f
  by_cases h1 : n ≥ a <;> by_cases h2 : n ≤ b <;> simp [h1, h2] <;> omega
theorem implIn (n a b : Int) : impl_within.f n a b = some (decide (a ≤ n ∧ n ≤ b)) := by
  unfold impl_within.f
  by_cases h1 : n ≥ a <;> by_cases h2 : n ≤ b <;> simp [h1, h2] <;> omega
/-! ### loops over lists -/
theorem mem_getD {α : Type} (l : List α) (z : α) (i : Nat) (h : i < l.length) : l.getD i z ∈ l := by
  rw [List.getD_eq_getElem?_getD, List.getElem?_eq_getElem h]; exact List.getElem_mem h
theorem all_loop {α : Type} (z : α) (p : α → Bool) (T : Nat → α → Option Bool) (F : Nat → Int → Option Bool) (l : List α) (hl : l.length < 9223372036854775807) (hT : ∀ x ∈ l, Ev (fun k => T k x) (p x))
    (hF : ∀ k x5, F (k + 1) x5 = if x5 < (l.length : Int) then (if 0 ≤ x5 then (if x5 < (l.length : Int) then ((T k (l.getD x5.toNat z)).bind fun t => (if t = true then (F k (wrap64 (x5 + 1))) else (some false))) else (none)) else (none)) else (some true)) :
    Ev (fun k => F k 0) (l.all p) := by
  refine loop_up' (fun k i => F k (i : Int)) l.length (l.all p) (fun i => (l.take i).all p = true) (fun i hi hI => ?_) (fun hI => ?_) l.length 0 (by omega) (by omega) (by simp)
  · have hm := hT _ (mem_getD l z i hi)
    cases hp : p (l.getD i z) with
    | true =>
      refine .inl ⟨?_, fun h => ?_⟩
      · rw [List.take_succ_eq_append_getElem hi, List.all_append, hI]
        rw [List.getD_eq_getElem?_getD, List.getElem?_eq_getElem hi] at hp
        simpa using hp
      · refine ev_step (fun k => hF k i) (ev_if_pos (by omega) (ev_if_pos (by omega) (ev_if_pos (by omega) ?_)))
        rw [Int.toNat_natCast]
        refine ev_bind hm (ev_if_pos hp ?_)
        rw [succ_cast i (by omega)]
        exact h
    | false =>
      refine .inr ?_
      refine ev_step (fun k => hF k i) (ev_if_pos (by omega) (ev_if_pos (by omega) (ev_if_pos (by omega) ?_)))
      rw [Int.toNat_natCast]
      refine ev_bind hm (ev_if_neg (by rw [hp]; decide) (ev_now fun _ => ?_))
      have : l.all p = false := by
        cases hq : l.all p with
        | false => rfl
        | true => rw [List.all_eq_true.mp hq _ (mem_getD l z i hi)] at hp; cases hp
      rw [this]
  · refine ev_end (fun k => ?_)
    show F (k + 1) _ = _
    rw [hF, if_neg (by omega)]
    simpa using hI.symm
theorem copyT_loop {α β : Type} (z : α) (zb : β) (f : α → β) (T : Nat → α → Option β) (F : Nat → List β → Int → Option (List β)) (l : List α) (hl : l.length < 9223372036854775807) (hT : ∀ x ∈ l, Ev (fun k => T k x) (f x))
    (hF : ∀ k x3 x4, F (k + 1) x3 x4 = if x4 < (l.length : Int) then (if 0 ≤ x4 then ((T k (l.getD x4.toNat z)).bind fun t => (if x4 < (x3.length : Int) then (F k (x3.set x4.toNat t) (wrap64 (x4 + 1))) else (none))) else (none)) else (some x3)) :
    Ev (fun k => F k (List.replicate l.length zb) 0) (l.map f) := by
  have h := loop_up' (fun k i => F k ((l.take i).map f ++ List.replicate (l.length - i) zb) (i : Int)) l.length (l.map f) (fun _ => True) (fun i hi _ => .inl ⟨trivial, fun h => by
    refine ev_step (fun k => hF k _ i) (ev_if_pos (by omega) (ev_if_pos (by omega) ?_))
    rw [Int.toNat_natCast]
    refine ev_bind (hT _ (mem_getD l z i hi)) (ev_if_pos (by simp; omega) ?_)
    have e : List.replicate (l.length - i) zb = zb :: List.replicate (l.length - (i + 1)) zb := by
      rw [← List.replicate_succ]; congr 1; omega
    rw [e, set_next _ _ _ _ (by simp; omega), succ_cast i (by omega)]
    have e2 : (l.take (i + 1)).map f = (l.take i).map f ++ [f (l.getD i z)] := by
      rw [List.take_succ_eq_append_getElem hi, List.map_append]
      simp [List.getD_eq_getElem?_getD, List.getElem?_eq_getElem hi]
    rw [← e2]
    exact h⟩) (fun _ => by
    refine ev_end (fun k => ?_)
    show F (k + 1) _ _ = _
    rw [hF, if_neg (by omega)]
    simp) l.length 0 (by omega) (by omega) trivial
  simpa using h
def okRowB (n : Nat) (row : List Int) : Bool := decide (row.length = n) && row.all (fun x => decide (-1000 ≤ x) && decide (x ≤ 1000))
def okTB (ts : List Int) (es : List (List Int)) : Bool := decide (es.length = ts.length) && ts.all (fun x => decide (0 ≤ x) && decide (x ≤ 1000000)) && es.all (okRowB ts.length) && decide (1 ≤ ts.length) && decide (ts.length ≤ 4)
def codeT (ts : List Int) (es : List (List Int)) (tn : List Int) : Int := if okTB ts es = true then (if (tn.all (fun x => decide (-6 ≤ x) && decide (x ≤ 6)) && decide (tn.length = ts.length)) = true then 0 else 2) else 1
theorem getD_mem {α : Type} {l : List α} {z : α} {i : Nat} (h : i < l.length) : l.getD i z ∈ l := by
  rw [List.getD_eq_getElem?_getD, List.getElem?_eq_getElem h]; exact List.getElem_mem h
theorem bad_row {ts : List Int} {es : List (List Int)} (i : Nat) (h : i < es.length) (h2 : okRowB ts.length (es.getD i []) = false) : okTB ts es = false := by
  cases hq : okTB ts es with
  | false => rfl
  | true =>
    simp only [okTB, Bool.and_eq_true, List.all_eq_true] at hq
    have := hq.1.1.2 (es.getD i []) (by rw [List.getD_eq_getElem?_getD, List.getElem?_eq_getElem h]; exact List.getElem_mem h)
    rw [h2] at this; cases this
theorem bad_num {ts : List Int} {es : List (List Int)} (i : Nat) (h : i < ts.length) (h2 : ¬ (0 ≤ ts.getD i 0 ∧ ts.getD i 0 ≤ 1000000)) : okTB ts es = false := by
  cases hq : okTB ts es with
  | false => rfl
  | true =>
    simp only [okTB, Bool.and_eq_true, List.all_eq_true, decide_eq_true_eq] at hq
    exact absurd (hq.1.1.1.2 (ts.getD i 0) (by rw [List.getD_eq_getElem?_getD, List.getElem?_eq_getElem h]; exact List.getElem_mem h)) h2
theorem all_step {p : Nat → Prop} {i : Nat} (h : ∀ j < i, p j) (h2 : p i) : ∀ j < i + 1, p j := by
  intro j hj
  rcases Nat.lt_succ_iff_lt_or_eq.mp hj with h3 | h3
  · exact h j h3
  · rw [h3]; exact h2
theorem row_good {n : Nat} {row : List Int} (h : row.length = n) (h2 : ∀ j < row.length, -1000 ≤ row.getD j 0 ∧ row.getD j 0 ≤ 1000) : okRowB n row = true := by
  simp only [okRowB, Bool.and_eq_true, List.all_eq_true, decide_eq_true_eq]
  refine ⟨h, fun x hx => ?_⟩
  obtain ⟨j, hj, rfl⟩ := List.getElem_of_mem hx
  have := h2 j hj
  rwa [List.getD_eq_getElem?_getD, List.getElem?_eq_getElem hj] at this
theorem okT_end {ts : List Int} {es : List (List Int)} (hl : es.length = ts.length) (h : ∀ j < ts.length, (0 ≤ ts.getD j 0 ∧ ts.getD j 0 ≤ 1000000) ∧ okRowB ts.length (es.getD j []) = true) : okTB ts es = (decide (1 ≤ ts.length) && decide (ts.length ≤ 4)) := by
  have h1 : ts.all (fun x => decide (0 ≤ x) && decide (x ≤ 1000000)) = true := by
    simp only [Bool.and_eq_true, List.all_eq_true, decide_eq_true_eq]
    intro x hx
    obtain ⟨j, hj, rfl⟩ := List.getElem_of_mem hx
    have := (h j hj).1
    rwa [List.getD_eq_getElem?_getD, List.getElem?_eq_getElem hj] at this
  have h2 : es.all (okRowB ts.length) = true := by
    simp only [List.all_eq_true]
    intro x hx
    obtain ⟨j, hj, rfl⟩ := List.getElem_of_mem hx
    have := (h j (by omega)).2
    rwa [List.getD_eq_getElem?_getD, List.getElem?_eq_getElem hj] at this
  simp [okTB, hl, h1, h2]
theorem row_bad {n : Nat} {row : List Int} (i : Nat) (h : i < row.length) (h2 : ¬ (-1000 ≤ row.getD i 0 ∧ row.getD i 0 ≤ 1000)) : okRowB n row = false := by
  cases hq : okRowB n row with
  | false => rfl
  | true =>
    simp only [okRowB, Bool.and_eq_true, List.all_eq_true, decide_eq_true_eq] at hq
    exact absurd (hq.2 (row.getD i 0) (by rw [List.getD_eq_getElem?_getD, List.getElem?_eq_getElem h]; exact List.getElem_mem h)) h2
theorem okT_row {ts : List Int} {es : List (List Int)} (h : okTB ts es = true) : es.length = ts.length ∧ 1 ≤ ts.length ∧ ts.length ≤ 4 ∧ (∀ j < ts.length, 0 ≤ ts.getD j 0 ∧ ts.getD j 0 ≤ 1000000) ∧ ∀ j < ts.length, (es.getD j []).length = ts.length ∧ ∀ i < ts.length, -1000 ≤ (es.getD j []).getD i 0 ∧ (es.getD j []).getD i 0 ≤ 1000 := by
  simp only [okTB, okRowB, Bool.and_eq_true, List.all_eq_true, decide_eq_true_eq] at h
  have hl := h.1.1.1.1
  refine ⟨hl, h.1.2, h.2, fun j hj => h.1.1.1.2 _ (getD_mem hj), fun j hj => ?_⟩
  have h2 := h.1.1.2 (es.getD j []) (getD_mem (by omega))
  exact ⟨h2.1, fun i hi => h2.2 _ (getD_mem (by omega))⟩
theorem codeT_bad {ts : List Int} {es : List (List Int)} {tn : List Int} (h0 : okTB ts es = true) (i : Nat) (h : i < tn.length) (h2 : ¬ (-6 ≤ tn.getD i 0 ∧ tn.getD i 0 ≤ 6)) : codeT ts es tn = 2 := by
  unfold codeT
  rw [if_pos h0, if_neg]
  intro hq
  simp only [Bool.and_eq_true, List.all_eq_true, decide_eq_true_eq] at hq
  exact absurd (hq.1 (tn.getD i 0) (by rw [List.getD_eq_getElem?_getD, List.getElem?_eq_getElem h]; exact List.getElem_mem h)) h2
theorem codeT_end {ts : List Int} {es : List (List Int)} {tn : List Int} (h0 : okTB ts es = true) (h : ∀ j < tn.length, -6 ≤ tn.getD j 0 ∧ tn.getD j 0 ≤ 6) : codeT ts es tn = if tn.length = ts.length then 0 else 2 := by
  have h1 : tn.all (fun x => decide (-6 ≤ x) && decide (x ≤ 6)) = true := by
    simp only [Bool.and_eq_true, List.all_eq_true, decide_eq_true_eq]
    intro x hx
    obtain ⟨j, hj, rfl⟩ := List.getElem_of_mem hx
    have := h j hj
    rwa [List.getD_eq_getElem?_getD, List.getElem?_eq_getElem hj] at this
  unfold codeT
  rw [if_pos h0, h1]
  simp
/-! ### what the laws do with a tuning -/
theorem szI (l : List Int) (n : Int) (h0 : 0 ≤ n) (hn : n ≤ 1048576) (hl : l.length ≤ 9223372036854775807) : laws_szInt64S.f l n = some (if (l.length : Int) ≤ n then n - l.length else -1) := by
  unfold laws_szInt64S.f
  rw [wrap_in (by omega) (by omega)]
  by_cases h : (l.length : Int) ≤ n
  · rw [if_neg (by omega), if_pos h]
  · rw [if_pos (by omega), if_neg h]
theorem szSSl (es : List (List Int)) (he : es.length < 9223372036854775807) (hr : ∀ row ∈ es, row.length ≤ 9223372036854775807) : ∀ (m i : Nat) (n : Int), es.length - i = m → i ≤ es.length → 0 ≤ n → n ≤ 1048576 →
    ∃ r, Ev (fun k => laws_szInt64SS.l0 k es n (i : Int)) r ∧ r ≤ n ∧ (0 ≤ r → ∀ j, i ≤ j → j < es.length → ((es.getD j []).length : Int) ≤ n) := by
  intro m
  induction m with
  | zero =>
    intro i n h1 h2 h3 h4
    refine ⟨n, ev_end (fun k => ?_), by omega, fun _ j h5 h6 => by omega⟩
    simp only [laws_szInt64SS.l0]
    rw [if_neg (by omega)]
  | succ m ih =>
    intro i n h1 h2 h3 h4
    have hi : i < es.length := by omega
    have hm := hr _ (mem_getD es [] i hi)
    have hz := szI (es.getD i []) n h3 h4 hm
    have hs : ∀ k, laws_szInt64SS.l0 (k + 1) es n (i : Int) = ((laws_szInt64S.f (es.getD i []) n).bind fun t102 => (if t102 < 0 then (some (-1)) else (laws_szInt64SS.l0 k es t102 ((i + 1 : Nat) : Int)))) := by
      intro k
      simp only [laws_szInt64SS.l0]
      rw [if_pos (by omega), if_pos (by omega), succ_cast i (by omega)]
      simp only [rd_L1, Int.toNat_natCast]
    by_cases hc : ((es.getD i []).length : Int) ≤ n
    · rw [if_pos hc] at hz
      obtain ⟨r, h5, h6, h7⟩ := ih (i + 1) (n - (es.getD i []).length) (by omega) (by omega) (by omega) (by omega)
      refine ⟨r, ev_step hs ?_, by omega, fun h0 j h8 h9 => ?_⟩
      · rw [hz]
        exact ev_some (ev_if_neg (by omega) h5)
      · rcases Nat.lt_or_ge i j with h | h
        · have := h7 h0 j (by omega) h9
          omega
        · obtain rfl : i = j := by omega
          exact hc
    · rw [if_neg hc] at hz
      refine ⟨-1, ev_step hs ?_, by omega, fun h0 => by omega⟩
      rw [hz]
      exact ev_some (ev_if_pos (by omega) (ev_now fun _ => rfl))
def Small (ts : List Int) (es : List (List Int)) : Prop := ts.length ≤ 1048576 ∧ es.length ≤ 1048576 ∧ ∀ row ∈ es, row.length ≤ 1048576
theorem szSS (es : List (List Int)) (n : Int) (h0 : 0 ≤ n) (hn : n ≤ 1048576) (he : es.length ≤ 9223372036854775807) (hr : ∀ row ∈ es, row.length ≤ 9223372036854775807) :
    ∃ r, Ev (fun k => laws_szInt64SS.f k es n) r ∧ r ≤ n ∧ (0 ≤ r → es.length ≤ 1048576 ∧ ∀ row ∈ es, row.length ≤ 1048576) := by
  unfold laws_szInt64SS.f
  rw [wrap_in (by omega) (by omega)]
  by_cases hc : (es.length : Int) ≤ n
  · obtain ⟨r, h1, h2, h3⟩ := szSSl es (by omega) hr es.length 0 (n - es.length) (by omega) (by omega) (by omega) (by omega)
    refine ⟨r, ev_if_neg (by omega) h1, by omega, fun h4 => ⟨by omega, fun row hrow => ?_⟩⟩
    obtain ⟨j, hj, rfl⟩ := List.getElem_of_mem hrow
    have := h3 h4 j (by omega) hj
    rw [List.getD_eq_getElem?_getD, List.getElem?_eq_getElem hj] at this
    simp only [Option.getD_some] at this
    omega
  · exact ⟨-1, ev_if_pos (by omega) (ev_now fun _ => rfl), by omega, fun h => by omega⟩
theorem szT (ts : List Int) (es : List (List Int)) (n : Int) (h0 : 0 ≤ n) (hn : n ≤ 1048576) (ht : ts.length ≤ maxLen) (he : es.length ≤ maxLen) (hr : ∀ row ∈ es, row.length ≤ maxLen) :
    ∃ r, Ev (fun k => laws_szTuning.f k ts es n) r ∧ r ≤ n ∧ (0 ≤ r → Small ts es) := by
  have hM : maxLen ≤ 9223372036854775807 := by decide
  unfold laws_szTuning.f
  rw [szI ts n h0 hn (by omega)]
  by_cases hc : (ts.length : Int) ≤ n
  · rw [if_pos hc]
    obtain ⟨r, h1, h2, h3⟩ := szSS es (n - ts.length) (by omega) (by omega) (by omega) (fun row h => by have := hr row h; omega)
    by_cases hr0 : r < 0
    · exact ⟨-1, ev_some (ev_if_neg (by omega) (ev_bind h1 (ev_if_pos hr0 (ev_now fun _ => rfl)))), by omega, fun h => by omega⟩
    · exact ⟨r, ev_some (ev_if_neg (by omega) (ev_bind h1 (ev_if_neg hr0 (ev_now fun _ => rfl)))), by omega, fun h => ⟨by omega, (h3 h).1, (h3 h).2⟩⟩
  · rw [if_neg hc]
    exact ⟨-1, ev_some (ev_if_pos (by omega) (ev_now fun _ => rfl)), by omega, fun h => by omega⟩
theorem toI (l : List Int) (h : l.length ≤ 1048576) : Ev (fun k => laws_toInt64S.f k l) l := by
  unfold laws_toInt64S.f
  refine ev_if_pos (by omega) (ev_if_pos (by omega) ?_)
  have := copy_loop (0 : Int) (0 : Int) (fun x => x) (fun k x3 x4 => laws_toInt64S.l0 k l x3 x4) l (by omega) (fun _ _ _ => rfl)
  simpa using this
theorem toSS (es : List (List Int)) (h : es.length ≤ 1048576) (hr : ∀ row ∈ es, row.length ≤ 1048576) : Ev (fun k => laws_toInt64SS.f k es) es := by
  unfold laws_toInt64SS.f
  refine ev_if_pos (by omega) (ev_if_pos (by omega) ?_)
  have := copyT_loop ([] : List Int) ([] : List Int) (fun x => x) laws_toInt64S.f (fun k x3 x4 => laws_toInt64SS.l0 k es x3 x4) es (by omega) (fun x hx => toI x (hr x hx)) (fun _ _ _ => rfl)
  simpa using this
theorem toT (ts : List Int) (es : List (List Int)) (h : Small ts es) : Ev (fun k => laws_toTuning.f k ts es) (ts, es) := by
  unfold laws_toTuning.f
  exact ev_bind (toI ts h.1) (ev_bind (toSS es h.2.1 h.2.2) (ev_now fun _ => rfl))
theorem eqI (l : List Int) (h : l.length < 9223372036854775807) : Ev (fun k => laws_eqInt64S.f k l l) true := by
  unfold laws_eqInt64S.f
  refine ev_if_pos rfl ?_
  exact eq_loop' (fun k x5 => laws_eqInt64S.l0 k l l x5) l h (fun i => rd l i = rd l i) (fun _ => rfl) (fun _ _ => rfl)
theorem eqSS (es : List (List Int)) (h : es.length ≤ 1048576) (hr : ∀ row ∈ es, row.length ≤ 1048576) : Ev (fun k => laws_eqInt64SS.f k es es) true := by
  unfold laws_eqInt64SS.f
  refine ev_if_pos rfl ?_
  have := all_loop ([] : List Int) (fun _ => true) (fun k x => laws_eqInt64S.f k x x) (fun k x5 => laws_eqInt64SS.l0 k es es x5) es (by omega) (fun x hx => eqI x (by have := hr x hx; omega)) (fun _ _ => rfl)
  exact ev_eq this (by simp)
theorem eqT (ts : List Int) (es : List (List Int)) (h : Small ts es) : Ev (fun k => laws_eqTuning.f k ts es ts es) true := by
  unfold laws_eqTuning.f
  exact ev_bind (eqI ts (by have := h.1; omega)) (ev_if_pos rfl (ev_bind (eqSS es h.2.1 h.2.2) (ev_if_pos rfl (ev_now fun _ => rfl))))
theorem cast_eq (x y : List Int) : decide ((x.length : Int) = (y.length : Int)) = decide (x.length = y.length) := by
  by_cases h : x.length = y.length
  · simp [h]
  · rw [decide_eq_false h, decide_eq_false (by omega)]
theorem areIn (l : List Int) (hl : l.length < 9223372036854775807) (n a b : Int) : Ev (fun k => impl_areIn.f k l n a b) (decide ((l.length : Int) = n) && l.all (fun x => decide (a ≤ x) && decide (x ≤ b))) := by
  unfold impl_areIn.f
  by_cases h : (l.length : Int) = n
  · refine ev_if_pos h ?_
    have := all_loop (0 : Int) (fun x => decide (a ≤ x) && decide (x ≤ b)) (fun _ x => impl_within.f x a b) (fun k x5 => impl_areIn.l0 k a b l (l.length : Int) x5) l hl (fun x _ => ev_const (by rw [implIn]; simp)) (fun _ _ => rfl)
    simpa [h] using this
  · exact ev_if_neg h (ev_now fun _ => by simp [h])
theorem implT (ts : List Int) (es : List (List Int)) (h : Small ts es) : Ev (fun k => impl_ValidTuning.f k ts es) (okTB ts es) := by
  obtain ⟨h1, h2, h3⟩ := h
  unfold impl_ValidTuning.f
  by_cases c1 : (ts.length : Int) < 1
  · refine ev_if_pos c1 (ev_end fun k => ?_)
    simp only [impl_ValidTuning.j0, if_true]
    have : ts.length = 0 := by omega
    simp [okTB, this]
  refine ev_if_neg c1 ?_
  by_cases c2 : (ts.length : Int) > 4
  · refine ev_if_pos c2 (ev_end fun k => ?_)
    simp only [impl_ValidTuning.j0, if_true]
    have : ¬ ts.length ≤ 4 := by omega
    simp [okTB, this]
  refine ev_if_neg c2 ?_
  by_cases c3 : (es.length : Int) = (ts.length : Int)
  · refine ev_if_pos c3 (ev_bind (areIn ts (by omega) _ _ _) ?_)
    cases c4 : ts.all (fun x => decide (0 ≤ x) && decide (x ≤ 1000000)) with
    | false =>
      refine ev_end fun k => ?_
      simp [impl_ValidTuning.j0, okTB, c4]
    | true =>
      refine ev_step (f := fun k => impl_ValidTuning.l0 k (ts.length : Int) es (es.length : Int) 0) (fun k => by simp [impl_ValidTuning.j0]) ?_
      have := all_loop ([] : List Int) (okRowB ts.length) (fun k x => impl_areIn.f k x (ts.length : Int) (-1000) 1000) (fun k x5 => impl_ValidTuning.l0 k (ts.length : Int) es (es.length : Int) x5) es (by omega)
        (fun x hx => ev_eq (areIn x (by have := h3 x hx; omega) _ _ _) (by unfold okRowB; rw [cast_eq x ts])) (fun _ _ => rfl)
      refine ev_eq this ?_
      have e1 : es.length = ts.length := by omega
      have e2 : 1 ≤ ts.length := by omega
      have e3 : ts.length ≤ 4 := by omega
      simp [okTB, c4, e1, e2, e3]
  · refine ev_if_neg c3 (ev_end fun k => ?_)
    simp only [impl_ValidTuning.j0, if_true]
    have : ¬ es.length = ts.length := by omega
    simp [okTB, this]
theorem implC (ts : List Int) (es : List (List Int)) (tn : List Int) (h : Small ts es) (ht : tn.length ≤ 1048576) : Ev (fun k => impl_turnsCode.f k ts es tn) (codeT ts es tn) := by
  unfold impl_turnsCode.f codeT
  refine ev_bind (implT ts es h) ?_
  cases okTB ts es with
  | false => exact ev_now fun _ => rfl
  | true =>
    refine ev_if_pos rfl (ev_bind (areIn tn (by omega) _ _ _) ?_)
    rw [if_pos rfl, cast_eq, Bool.and_comm]
    split
    · exact ev_now fun _ => rfl
    · exact ev_now fun _ => rfl
theorem code_zero {ts : List Int} {es : List (List Int)} {tn : List Int} (h : codeT ts es tn = 0) : okTB ts es = true ∧ (∀ x ∈ tn, -6 ≤ x ∧ x ≤ 6) ∧ tn.length = ts.length := by
  unfold codeT at h
  split at h
  · rename_i h1
    split at h
    · rename_i h2
      simp only [Bool.and_eq_true, List.all_eq_true, decide_eq_true_eq] at h2
      exact ⟨h1, h2.1, h2.2⟩
    · cases h
  · cases h
theorem code_cases (ts : List Int) (es : List (List Int)) (tn : List Int) : codeT ts es tn = 0 ∨ codeT ts es tn ≠ 0 := by omega
theorem oneFour (n : Nat) : decide (1 ≤ (n : Int) ∧ (n : Int) ≤ 4) = (decide (1 ≤ n) && decide (n ≤ 4)) := by
  by_cases a : 1 ≤ n
  · by_cases b : n ≤ 4
    · rw [decide_eq_true a, decide_eq_true b, decide_eq_true (by omega)]; rfl
    · rw [decide_eq_true a, decide_eq_false b, decide_eq_false (by omega)]; rfl
  · rw [decide_eq_false a, decide_eq_false (by omega)]; rfl
theorem specOk_in (ts : List Int) (es : List (List Int)) (hn : ts.length ≤ 1048576) (i : Nat) (hi : i < es.length) (hrl : (es.getD i []).length = ts.length) (r : Bool)
    (h1 : (∀ j < ts.length, -1000 ≤ (es.getD i []).getD j 0 ∧ (es.getD i []).getD j 0 ≤ 1000) → Ev (fun k => spec_l12Ok.l0 k (ts.length : Int) (wrap64 ((i : Int) + 1)) ts es) r)
    (h2 : ∀ j < ts.length, ¬ (-1000 ≤ (es.getD i []).getD j 0 ∧ (es.getD i []).getD j 0 ≤ 1000) → r = false) : Ev (fun k => spec_l12Ok.l1 k (ts.length : Int) (i : Int) 0 ts es) r := by
  refine loop_up' (fun k j => spec_l12Ok.l1 k (ts.length : Int) (i : Int) (j : Int) ts es) ts.length r (fun j => ∀ t < j, -1000 ≤ (es.getD i []).getD t 0 ∧ (es.getD i []).getD t 0 ≤ 1000) (fun j hj hI => ?_) (fun hI => ?_) ts.length 0 (by omega) (by omega) (by intro t ht; omega)
  · have e : ∀ k, spec_l12Ok.l1 (k + 1) (ts.length : Int) (i : Int) (j : Int) ts es = if decide (-1000 ≤ (es.getD i []).getD j 0 ∧ (es.getD i []).getD j 0 ≤ 1000) = true then spec_l12Ok.l1 k (ts.length : Int) (i : Int) ((j + 1 : Nat) : Int) ts es else some false := by
      intro k
      simp only [spec_l12Ok.l1]
      rw [if_pos (by omega), if_pos (by omega), if_pos (by omega), if_pos (by omega), if_pos (by simp only [rd_L1, Int.toNat_natCast]; omega), succ_cast j (by omega)]
      simp only [rd, rd_L1, Int.toNat_natCast]
      rw [specIn]
      rfl
    by_cases hc : -1000 ≤ (es.getD i []).getD j 0 ∧ (es.getD i []).getD j 0 ≤ 1000
    · exact .inl ⟨all_step hI hc, fun h => ev_step e (ev_if_pos (decide_eq_true hc) h)⟩
    · rw [h2 j hj hc]
      exact .inr (ev_step e (ev_if_neg (by simpa using hc) (ev_now fun _ => rfl)))
  · refine ev_step (f := fun k => spec_l12Ok.l0 k (ts.length : Int) (wrap64 ((i : Int) + 1)) ts es) (fun k => ?_) (h1 hI)
    simp only [spec_l12Ok.l1]
    rw [if_neg (by omega)]
theorem specOk (ts : List Int) (es : List (List Int)) (hs : Small ts es) : Ev (fun k => spec_l12Ok.f k ts es) (okTB ts es) := by
  obtain ⟨hn, he, _⟩ := hs
  unfold spec_l12Ok.f
  by_cases hl : (es.length : Int) = (ts.length : Int)
  · refine ev_if_pos hl ?_
    have hl' : es.length = ts.length := by omega
    refine loop_up' (fun k i => spec_l12Ok.l0 k (ts.length : Int) (i : Int) ts es) ts.length (okTB ts es) (fun i => ∀ j < i, (0 ≤ ts.getD j 0 ∧ ts.getD j 0 ≤ 1000000) ∧ okRowB ts.length (es.getD j []) = true) (fun i hi hI => ?_) (fun hI => ?_) ts.length 0 (by omega) (by omega) (by intro t ht; omega)
    · have e : ∀ k, spec_l12Ok.l0 (k + 1) (ts.length : Int) (i : Int) ts es = if decide (0 ≤ ts.getD i 0 ∧ ts.getD i 0 ≤ 1000000) = true then spec_l12Ok.j1 k (ts.length : Int) (i : Int) (((es.getD i []).length : Int) != (ts.length : Int)) ts es else spec_l12Ok.j1 k (ts.length : Int) (i : Int) true ts es := by
        intro k
        simp only [spec_l12Ok.l0]
        rw [if_pos (by omega), if_pos (by omega), if_pos (by omega)]
        simp only [rd, rd_L1, Int.toNat_natCast]
        rw [specIn, if_pos (show (i : Int) < (es.length : Int) by omega)]
        rfl
      by_cases hc : 0 ≤ ts.getD i 0 ∧ ts.getD i 0 ≤ 1000000
      · by_cases hrl : (es.getD i []).length = ts.length
        · have hb : (((es.getD i []).length : Int) != (ts.length : Int)) = false := by rw [hrl]; exact bne_self_eq_false _
          rw [hb] at e
          have ej : ∀ k, spec_l12Ok.j1 (k + 1) (ts.length : Int) (i : Int) false ts es = spec_l12Ok.l1 k (ts.length : Int) (i : Int) 0 ts es := by
            intro k; simp [spec_l12Ok.j1]
          by_cases hg : ∀ j < ts.length, -1000 ≤ (es.getD i []).getD j 0 ∧ (es.getD i []).getD j 0 ≤ 1000
          · refine .inl ⟨all_step hI ⟨hc, row_good hrl (by rw [hrl]; exact hg)⟩, fun h => ?_⟩
            refine ev_step e (ev_if_pos (decide_eq_true hc) (ev_step ej (specOk_in ts es hn i (by omega) hrl _ (fun _ => ?_) (fun j hj hb => absurd (hg j hj) hb))))
            rw [succ_cast i (by omega)]
            exact h
          · have hf : okTB ts es = false := by
              obtain ⟨j, hj⟩ := Classical.not_forall.mp hg
              obtain ⟨hj1, hj2⟩ := Classical.not_imp.mp hj
              exact bad_row i (by omega) (row_bad j (by omega) hj2)
            rw [hf]
            exact .inr (ev_step e (ev_if_pos (decide_eq_true hc) (ev_step ej (specOk_in ts es hn i (by omega) hrl _ (fun h => absurd h hg) (fun _ _ _ => rfl)))))
        · have hf : okTB ts es = false := bad_row i (by omega) (by simp only [okRowB, decide_eq_false hrl, Bool.false_and])
          have hb : (((es.getD i []).length : Int) != (ts.length : Int)) = true := bne_iff_ne.mpr (by omega)
          rw [hb] at e
          rw [hf]
          exact .inr (ev_step e (ev_if_pos (decide_eq_true hc) (ev_end fun k => by simp [spec_l12Ok.j1])))
      · rw [bad_num i (by omega) hc]
        exact .inr (ev_step e (ev_if_neg (by simpa using hc) (ev_end fun k => by simp [spec_l12Ok.j1])))
    · refine ev_end (fun k => ?_)
      show spec_l12Ok.l0 (k + 1) _ _ _ _ = _
      simp only [spec_l12Ok.l0]
      rw [if_neg (by omega), specIn, okT_end hl' hI, oneFour ts.length]
      rfl
  · refine ev_if_neg hl (ev_now fun _ => ?_)
    have : ¬ es.length = ts.length := by omega
    simp [okTB, this]
theorem specC (ts : List Int) (es : List (List Int)) (tn : List Int) (hs : Small ts es) (ht : tn.length ≤ 1048576) : Ev (fun k => spec_l12Code.f k ts es tn) (codeT ts es tn) := by
  unfold spec_l12Code.f
  refine ev_bind (specOk ts es hs) ?_
  cases hv : okTB ts es with
  | false => exact ev_now fun _ => by simp [codeT, hv]
  | true =>
    refine ev_if_pos rfl ?_
    refine loop_up' (fun k i => spec_l12Code.l0 k tn (i : Int) ts es) tn.length (codeT ts es tn) (fun i => ∀ j < i, -6 ≤ tn.getD j 0 ∧ tn.getD j 0 ≤ 6) (fun i hi hI => ?_) (fun hI => ?_) tn.length 0 (by omega) (by omega) (by intro t h; omega)
    · have e : ∀ k, spec_l12Code.l0 (k + 1) tn (i : Int) ts es = if decide (-6 ≤ tn.getD i 0 ∧ tn.getD i 0 ≤ 6) = true then spec_l12Code.l0 k tn ((i + 1 : Nat) : Int) ts es else some 2 := by
        intro k
        simp only [spec_l12Code.l0]
        rw [if_pos (by omega), if_pos (by omega), succ_cast i (by omega)]
        simp only [rd, Int.toNat_natCast]
        rw [specIn]
        rfl
      by_cases hc : -6 ≤ tn.getD i 0 ∧ tn.getD i 0 ≤ 6
      · exact .inl ⟨all_step hI hc, fun h => ev_step e (ev_if_pos (decide_eq_true hc) h)⟩
      · rw [codeT_bad hv i hi hc]
        exact .inr (ev_step e (ev_if_neg (by simpa using hc) (ev_now fun _ => rfl)))
    · refine ev_end (fun k => ?_)
      show spec_l12Code.l0 (k + 1) _ _ _ _ = _
      simp only [spec_l12Code.l0]
      rw [if_neg (by omega), codeT_end hv hI]
      by_cases hl : tn.length = ts.length
      · rw [if_pos hl, if_pos (by omega)]
      · rw [if_neg hl, if_neg (by omega)]
def stI (row tn : List Int) (i : Nat) : Nat → Nat → List Int → List Int
  | 0, _, o => o
  | m + 1, k, o => stI row tn i m (k + 1) (o.set i (wrap64 (o.getD i 0 + wrap64 (row.getD k 0 * tn.getD k 0))))
def stO (es : List (List Int)) (tn : List Int) (n : Nat) : Nat → Nat → List Int → List Int
  | 0, _, o => o
  | m + 1, i, o => stO es tn n m (i + 1) (stI (es.getD i []) tn i n 0 o)
theorem stI_len (row tn : List Int) (i : Nat) : ∀ (m k : Nat) (o : List Int), (stI row tn i m k o).length = o.length := by
  intro m
  induction m with
  | zero => intro k o; rfl
  | succ m ih => intro k o; show (stI row tn i m (k + 1) _).length = _; rw [ih]; simp
def afterT (ts : List Int) (es : List (List Int)) (tn : List Int) : List Int := stO es tn ts.length ts.length 0 ts
theorem stO_len (es : List (List Int)) (tn : List Int) (n : Nat) : ∀ (m i : Nat) (o : List Int), (stO es tn n m i o).length = o.length := by
  intro m
  induction m with
  | zero => intro i o; rfl
  | succ m ih => intro i o; show (stO es tn n m (i + 1) _).length = _; rw [ih, stI_len]
theorem implA_in (es : List (List Int)) (tn : List Int) (n i : Nat) (hn : n ≤ 1048576) (hel : es.length = n) (htn : tn.length = n) (hi : i < n) (hrl : (es.getD i []).length = n) (r : List Int) : ∀ (m j : Nat) (o : List Int), n - j = m → j ≤ n → o.length = n →
    Ev (fun k => impl_tensionsAfter.l0 k tn (stI (es.getD i []) tn i m j o) es (n : Int) ((i + 1 : Nat) : Int)) r → Ev (fun k => impl_tensionsAfter.l1 k tn o (i : Int) es (n : Int) (i : Int) (es.getD i []) (n : Int) (j : Int)) r := by
  intro m
  induction m with
  | zero =>
    intro j o h1 h2 h3 h4
    refine ev_step (fun k => ?_) h4
    simp only [impl_tensionsAfter.l1]
    rw [if_neg (by omega), succ_cast i (by omega)]
    rfl
  | succ m ih =>
    intro j o h1 h2 h3 h4
    refine ev_step (fun k => ?_) (ih (j + 1) _ (by omega) (by omega) (by simp; exact h3) h4)
    simp only [impl_tensionsAfter.l1]
    rw [if_pos (by omega), if_pos (by omega), if_pos (by omega), if_pos (by omega), if_pos (by omega), if_pos (by omega), succ_cast j (by omega)]
    simp only [rd, Int.toNat_natCast]
theorem implA (es : List (List Int)) (tn : List Int) (n : Nat) (hn : n ≤ 1048576) (hel : es.length = n) (htn : tn.length = n) (hrl : ∀ i < n, (es.getD i []).length = n) : ∀ (m i : Nat) (o : List Int), n - i = m → i ≤ n → o.length = n →
    Ev (fun k => impl_tensionsAfter.l0 k tn o es (n : Int) (i : Int)) (stO es tn n m i o) := by
  intro m
  induction m with
  | zero =>
    intro i o h1 h2 h3
    refine ev_end (fun k => ?_)
    simp only [impl_tensionsAfter.l0]
    rw [if_neg (by omega)]
    rfl
  | succ m ih =>
    intro i o h1 h2 h3
    have h := implA_in es tn n i hn hel htn (by omega) (hrl i (by omega)) _ n 0 o (by omega) (by omega) h3 (ih (i + 1) (stI (es.getD i []) tn i n 0 o) (by omega) (by omega) (by rw [stI_len]; exact h3))
    refine ev_step (fun k => ?_) h
    simp only [impl_tensionsAfter.l0]
    rw [if_pos (by omega), if_pos (by omega), if_pos (by omega)]
    simp only [rd_L1, Int.toNat_natCast]
    rw [hrl i (by omega)]
    rfl
theorem specA_in (ts : List Int) (es : List (List Int)) (tn : List Int) (n i : Nat) (hn : n ≤ 1048576) (hel : es.length = n) (htn : tn.length = n) (hi : i < n) (hrl : (es.getD i []).length = n) (r : List Int) : ∀ (m j : Nat) (o : List Int), n - j = m → j ≤ n → o.length = n →
    Ev (fun k => spec_l12After.l0 k tn (stI (es.getD i []) tn i m j o) ((i + 1 : Nat) : Int) ts es) r → Ev (fun k => spec_l12After.l1 k tn o (i : Int) (j : Int) ts es) r := by
  intro m
  induction m with
  | zero =>
    intro j o h1 h2 h3 h4
    refine ev_step (fun k => ?_) h4
    simp only [spec_l12After.l1]
    rw [if_neg (by omega), succ_cast i (by omega)]
    rfl
  | succ m ih =>
    intro j o h1 h2 h3 h4
    refine ev_step (fun k => ?_) (ih (j + 1) _ (by omega) (by omega) (by simp; exact h3) h4)
    simp only [spec_l12After.l1]
    rw [if_pos (by omega), if_pos (by omega), if_pos (by omega), if_pos (by omega), if_pos (by omega), if_pos (by simp only [rd_L1, Int.toNat_natCast]; omega), succ_cast j (by omega)]
    simp only [rd, rd_L1, Int.toNat_natCast]
theorem specA (ts : List Int) (es : List (List Int)) (tn : List Int) (n : Nat) (hn : n ≤ 1048576) (hel : es.length = n) (htn : tn.length = n) (hrl : ∀ i < n, (es.getD i []).length = n) : ∀ (m i : Nat) (o : List Int), n - i = m → i ≤ n → o.length = n →
    Ev (fun k => spec_l12After.l0 k tn o (i : Int) ts es) (stO es tn n m i o) := by
  intro m
  induction m with
  | zero =>
    intro i o h1 h2 h3
    refine ev_end (fun k => ?_)
    simp only [spec_l12After.l0]
    rw [if_neg (by omega)]
    rfl
  | succ m ih =>
    intro i o h1 h2 h3
    have h := specA_in ts es tn n i hn hel htn (by omega) (hrl i (by omega)) _ n 0 o (by omega) (by omega) h3 (ih (i + 1) (stI (es.getD i []) tn i n 0 o) (by omega) (by omega) (by rw [stI_len]; exact h3))
    refine ev_step (fun k => ?_) h
    simp only [spec_l12After.l0]
    rw [if_pos (by omega)]
    rfl
theorem afters (ts : List Int) (es : List (List Int)) (tn : List Int) (hs : Small ts es) (hc : codeT ts es tn = 0) : Ev (fun k => impl_tensionsAfter.f k ts es tn) (afterT ts es tn) ∧ Ev (fun k => spec_l12After.f k ts es tn) (afterT ts es tn) := by
  obtain ⟨hv, _, htn⟩ := code_zero hc
  obtain ⟨hel, h1, h4, _, hrows⟩ := okT_row hv
  constructor
  · unfold impl_tensionsAfter.f
    refine ev_some (ev_if_pos (by simp; omega) ?_)
    rw [hel]
    exact implA es tn ts.length (by omega) hel htn (fun i hi => (hrows i hi).1) ts.length 0 ts (by omega) (by omega) rfl
  · unfold spec_l12After.f spec_l00Own.f
    refine ev_bind (a := ts) (ev_now fun _ => ?_) ?_
    · show (if _ then _ else _) = _
      rw [if_pos (by simp; omega)]
      rfl
    · exact specA ts es tn ts.length (by omega) hel htn (fun i hi => (hrows i hi).1) ts.length 0 ts (by omega) (by omega) rfl
/-! ### marks on rows of numbers -/
def mkI (a : Int) (n : Nat) : List Int := (List.range n).map (fun i : Nat => a + (i : Int))
theorem mkI_len (a : Int) (n : Nat) : (mkI a n).length = n := by simp [mkI]
theorem mkI_succ (a : Int) (n : Nat) : mkI a (n + 1) = mkI a n ++ [a + (n : Int)] := by simp [mkI, List.range_succ]
theorem set_mid {α : Type} (a b : List α) (y x : α) (i : Nat) (h : a.length = i) : (a ++ y :: b).set i x = (a ++ [x]) ++ b := by
  subst h
  rw [List.set_append_right _ _ (Nat.le_refl _)]
  simp
theorem marksI (l : List Int) (a : Int) (h0 : 0 ≤ a) (h : a + l.length ≤ 4611686018427387904) : Ev (fun k => laws_markInt64S.f k l a) (a + l.length, mkI a l.length) := by
  unfold laws_markInt64S.f
  have key := loop_all (fun k i => laws_markInt64S.l0 k (mkI a i ++ l.drop i) (a + (i : Int)) (i : Int)) l.length (a + (l.length : Int), mkI a l.length) (fun i hi k => ?_) (ev_end fun k => ?_)
  · simpa [mkI] using key
  · show laws_markInt64S.l0 (k + 1) _ _ _ = laws_markInt64S.l0 k _ _ _
    have hlen : (mkI a i ++ l.drop i).length = l.length := by simp [mkI_len]; omega
    simp only [laws_markInt64S.l0]
    have e : l.drop i = l[i] :: l.drop (i + 1) := List.drop_eq_getElem_cons hi
    rw [hlen, if_pos (by omega), if_pos (by omega), Int.toNat_natCast, e, set_mid _ _ _ _ _ (mkI_len a i), ← mkI_succ, wrap_in (x := a + (i : Int) + 1) (by omega) (by omega), succ_cast i (by omega)]
    have e2 : a + (i : Int) + 1 = a + ((i + 1 : Nat) : Int) := by omega
    rw [e2]
  · show laws_markInt64S.l0 (k + 1) _ _ _ = _
    simp only [laws_markInt64S.l0]
    have hlen : (mkI a l.length ++ l.drop l.length).length = l.length := by simp [mkI_len]
    rw [hlen, if_neg (by omega)]
    simp
theorem heldI (n : Nat) (a : Int) (h0 : 0 ≤ a) (h : a + n ≤ 4611686018427387904) : Ev (fun k => laws_heldInt64S.f k (mkI a n) a) (a + n) := by
  unfold laws_heldInt64S.f
  have key := loop_all (fun k i => laws_heldInt64S.l0 k (mkI a n) (a + (i : Int)) (i : Int)) n (a + (n : Int)) (fun i hi k => ?_) (ev_end fun k => ?_)
  · simpa using key
  · show laws_heldInt64S.l0 (k + 1) _ _ _ = laws_heldInt64S.l0 k _ _ _
    have e : rd (mkI a n) (i : Int) = a + (i : Int) := by
      unfold rd
      rw [Int.toNat_natCast, List.getD_eq_getElem?_getD, List.getElem?_eq_getElem (by rw [mkI_len]; exact hi)]
      simp [mkI]
    simp only [laws_heldInt64S.l0, e]
    rw [mkI_len, if_pos (by omega), if_pos (by omega), if_pos trivial, wrap_in (x := a + (i : Int) + 1) (by omega) (by omega), succ_cast i (by omega)]
    have e2 : a + (i : Int) + 1 = a + ((i + 1 : Nat) : Int) := by omega
    rw [e2]
  · show laws_heldInt64S.l0 (k + 1) _ _ _ = _
    simp only [laws_heldInt64S.l0]
    rw [mkI_len, if_neg (by omega)]
theorem marksSS (n : Nat) (hn : n ≤ 1048576) : ∀ (m i : Nat) (es : List (List Int)) (a : Int), n - i = m → i ≤ n → es.length = n → (∀ row ∈ es, row.length ≤ 1048576) → 0 ≤ a → a + 1048576 * m ≤ 2305843009213693952 →
    ∃ b es', Ev (fun k => laws_markInt64SS.l0 k es a (i : Int)) (b, es') ∧ a ≤ b ∧ b ≤ a + 1048576 * m := by
  intro m
  induction m with
  | zero =>
    intro i es a h1 h2 h3 h4 h5 h6
    refine ⟨a, es, ev_end (fun k => ?_), by omega, by omega⟩
    simp only [laws_markInt64SS.l0]
    rw [if_neg (by omega)]
  | succ m ih =>
    intro i es a h1 h2 h3 h4 h5 h6
    have hi : i < es.length := by omega
    have hrow := h4 _ (mem_getD es [] i hi)
    have hm := marksI (es.getD i []) a h5 (by omega)
    obtain ⟨b, es', h7, h8, h9⟩ := ih (i + 1) (es.set i (mkI a (es.getD i []).length)) (a + (es.getD i []).length) (by omega) (by omega) (by rw [List.length_set]; exact h3) (fun row hr => by
      rcases List.mem_or_eq_of_mem_set hr with h | h
      · exact h4 row h
      · rw [h, mkI_len]; exact hrow) (by omega) (by omega)
    refine ⟨b, es', ev_step (f := fun k => (laws_markInt64S.f k (es.getD i []) a).bind fun c => laws_markInt64SS.l0 k (es.set i c.2) c.1 ((i + 1 : Nat) : Int)) (fun k => ?_) (ev_bind hm h7), by omega, by omega⟩
    simp only [laws_markInt64SS.l0]
    rw [if_pos (by omega), if_pos (by omega), succ_cast i (by omega), Int.toNat_natCast]
theorem marksT (ts : List Int) (es : List (List Int)) (hs : Small ts es) : ∃ b ts' es', Ev (fun k => laws_markTuning.f k ts es 1) (b, ts', es') ∧ 0 ≤ b ∧ b ≤ 1152921504606846976 := by
  have h1 := hs.1
  have h2 := hs.2.1
  obtain ⟨b, es', h7, h8, h9⟩ := marksSS es.length h2 es.length 0 es (1 + ts.length) (by omega) (by omega) rfl hs.2.2 (by omega) (by omega)
  refine ⟨b, mkI 1 ts.length, es', ?_, by omega, by omega⟩
  unfold laws_markTuning.f
  refine ev_bind (marksI ts 1 (by omega) (by omega)) (ev_bind (a := (b, es')) ?_ (ev_now fun _ => rfl))
  unfold laws_markInt64SS.f
  exact h7
theorem ev_succ {α : Type} {g : Nat → Option α} {r : α} (h : Ev (fun k => g (k + 1)) r) : Ev g r := Ev.step (fun _ => rfl) h
/-! ### marks on rows of rows, read again -/
def mkR : Int → List (List Int) → List (List Int)
  | _, [] => []
  | a, r :: rs => mkI a r.length :: mkR (a + r.length) rs
def totR : List (List Int) → Int
  | [] => 0
  | r :: rs => r.length + totR rs
theorem totR_nn : ∀ es : List (List Int), 0 ≤ totR es
  | [] => Int.le_refl _
  | r :: rs => by have := totR_nn rs; show 0 ≤ (r.length : Int) + totR rs; omega
theorem getD_mid {α : Type} (a b : List α) (y z : α) (i : Nat) (h : a.length = i) : (a ++ y :: b).getD i z = y := by
  subst h
  rw [List.getD_eq_getElem?_getD, List.getElem?_append_right (Nat.le_refl _)]
  simp
theorem marksR (es : List (List Int)) : ∀ (pre : List (List Int)) (a : Int), 0 ≤ a → a + totR es ≤ 4611686018427387904 → pre.length + es.length ≤ 1048576 → Ev (fun k => laws_markInt64SS.l0 k (pre ++ es) a (pre.length : Int)) (a + totR es, pre ++ mkR a es) := by
  induction es with
  | nil =>
    intro pre a h0 h1 h2
    refine ev_end (fun k => ?_)
    simp only [laws_markInt64SS.l0, List.append_nil, mkR, totR]
    rw [if_neg (by omega), Int.add_zero]
  | cons r rs ih =>
    intro pre a h0 h1 h2
    have hn := totR_nn rs
    have h1' : a + (r.length + totR rs) ≤ 4611686018427387904 := h1
    have hlc : (r :: rs).length = rs.length + 1 := rfl
    have hp : (pre ++ [mkI a r.length]).length = pre.length + 1 := by simp
    have hih := ih (pre ++ [mkI a r.length]) (a + r.length) (by omega) (by omega) (by omega)
    rw [hp] at hih
    have e : (a + totR (r :: rs), pre ++ mkR a (r :: rs)) = (a + r.length + totR rs, pre ++ [mkI a r.length] ++ mkR (a + r.length) rs) := by
      show (a + (r.length + totR rs), pre ++ (mkI a r.length :: mkR (a + r.length) rs)) = _
      rw [List.append_assoc]
      congr 1
      omega
    rw [e]
    refine ev_step (f := fun k => (laws_markInt64S.f k r a).bind fun c => laws_markInt64SS.l0 k ((pre ++ r :: rs).set pre.length c.2) c.1 ((pre.length + 1 : Nat) : Int)) (fun k => ?_) (ev_bind (marksI r a h0 (by omega)) ?_)
    · simp only [laws_markInt64SS.l0]
      rw [if_pos (by simp only [List.length_append]; omega), if_pos (by omega), succ_cast pre.length (by omega), Int.toNat_natCast, getD_mid _ _ _ _ _ rfl]
    · show Ev (fun k => laws_markInt64SS.l0 k ((pre ++ r :: rs).set pre.length (mkI a r.length)) (a + r.length) ((pre.length + 1 : Nat) : Int)) _
      rw [set_mid _ _ _ _ _ rfl]
      exact hih
theorem heldR (es : List (List Int)) : ∀ (pre : List (List Int)) (a : Int), 0 ≤ a → a + totR es ≤ 4611686018427387904 → pre.length + es.length ≤ 1048576 → Ev (fun k => laws_heldInt64SS.l0 k (pre ++ mkR a es) a (pre.length : Int)) (a + totR es) := by
  induction es with
  | nil =>
    intro pre a h0 h1 h2
    refine ev_end (fun k => ?_)
    simp only [laws_heldInt64SS.l0, List.append_nil, mkR, totR]
    rw [if_neg (by omega), Int.add_zero]
  | cons r rs ih =>
    intro pre a h0 h1 h2
    have hn := totR_nn rs
    have h1' : a + (r.length + totR rs) ≤ 4611686018427387904 := h1
    have hlc : (r :: rs).length = rs.length + 1 := rfl
    have hp : (pre ++ [mkI a r.length]).length = pre.length + 1 := by simp
    have hih := ih (pre ++ [mkI a r.length]) (a + r.length) (by omega) (by omega) (by omega)
    rw [hp] at hih
    have e : a + totR (r :: rs) = a + r.length + totR rs := by show a + (r.length + totR rs) = _; omega
    have e2 : pre ++ mkR a (r :: rs) = pre ++ [mkI a r.length] ++ mkR (a + r.length) rs := by
      show pre ++ (mkI a r.length :: mkR (a + r.length) rs) = _
      rw [List.append_assoc]; rfl
    rw [e, e2]
    refine ev_step (f := fun k => (laws_heldInt64S.f k (mkI a r.length) a).bind fun t => if t < 0 then some (-1) else laws_heldInt64SS.l0 k (pre ++ [mkI a r.length] ++ mkR (a + r.length) rs) t ((pre.length + 1 : Nat) : Int)) (fun k => ?_) (ev_bind (heldI r.length a h0 (by omega)) (ev_if_neg (by omega) hih))
    simp only [laws_heldInt64SS.l0]
    rw [List.append_assoc]
    have e3 : rd_L1 (pre ++ ([mkI a r.length] ++ mkR (a + r.length) rs)) (pre.length : Int) = mkI a r.length := by
      simp only [rd_L1, Int.toNat_natCast]
      exact getD_mid _ _ _ _ _ rfl
    rw [e3, if_pos (by simp only [List.length_append, List.length_cons]; omega), if_pos (by omega), succ_cast pre.length (by omega)]
theorem markedT (a : List Int) (es : List (List Int)) (ha : a.length ≤ 1048576) (hes : es.length ≤ 1048576) (ht : totR es ≤ 1048576) : Ev (fun k => laws_markTuning.f k a es 1) (1 + a.length + totR es, mkI 1 a.length, mkR (1 + a.length) es) ∧ Ev (fun k => laws_heldTuning.f k (mkI 1 a.length) (mkR (1 + a.length) es) 1) (1 + a.length + totR es) := by
  have h0 := totR_nn es
  constructor
  · unfold laws_markTuning.f
    refine ev_bind (marksI a 1 (by omega) (by omega)) (ev_bind (a := (1 + (a.length : Int) + totR es, mkR (1 + a.length) es)) ?_ (ev_now fun _ => rfl))
    unfold laws_markInt64SS.f
    exact marksR es [] (1 + a.length) (by omega) (by omega) (by simpa using hes)
  · unfold laws_heldTuning.f
    refine ev_bind (heldI a.length 1 (by omega) (by omega)) (ev_if_neg (by omega) (ev_bind (a := 1 + (a.length : Int) + totR es) ?_ (ev_if_neg (by omega) (ev_now fun _ => rfl))))
    unfold laws_heldInt64SS.f
    exact heldR es [] (1 + a.length) (by omega) (by omega) (by simpa using hes)
theorem totR_le : ∀ (es : List (List Int)) (n : Nat), (∀ row ∈ es, row.length ≤ n) → totR es ≤ n * es.length
  | [], _, _ => by simp [totR]
  | r :: rs, n, h => by
    have h1 := totR_le rs n (fun x hx => h x (List.mem_cons_of_mem _ hx))
    have h2 := h r (List.mem_cons_self ..)
    show (r.length : Int) + totR rs ≤ (n : Int) * ((rs.length + 1 : Nat) : Int)
    rw [Int.natCast_add, Int.mul_add, Int.natCast_one, Int.mul_one]
    omega
/-! ### the least and the greatest tension -/
theorem minI (a : List Int) (h0 : 0 < a.length) (h6 : a.length ≤ 1048576) : ∃ x, Ev (fun k => slices_Min_int64_int64.f k a) x ∧ (∀ j < a.length, x ≤ a.getD j 0) ∧ ∃ j < a.length, a.getD j 0 = x := by
  have key : ∀ (m i : Nat) (x : Int), a.length - i = m → i ≤ a.length → (∀ j < i, x ≤ a.getD j 0) → (∃ j < a.length, a.getD j 0 = x) → ∃ y, Ev (fun k => slices_Min_int64_int64.l0 k a x (i : Int)) y ∧ (∀ j < a.length, y ≤ a.getD j 0) ∧ ∃ j < a.length, a.getD j 0 = y := by
    intro m
    induction m with
    | zero =>
      intro i x h1 h2 h3 h4
      refine ⟨x, ev_end (fun k => ?_), fun j hj => h3 j (by omega), h4⟩
      simp only [slices_Min_int64_int64.l0]
      rw [if_neg (by omega)]
    | succ m ih =>
      intro i x h1 h2 h3 h4
      obtain ⟨y, q1, q2⟩ := ih (i + 1) (mn x (a.getD i 0)) (by omega) (by omega) (fun j hj => by
        by_cases e : j = i
        · subst e; unfold mn; split <;> omega
        · have := h3 j (by omega); unfold mn; split <;> omega) (by
        unfold mn
        split
        · exact ⟨i, by omega, rfl⟩
        · exact h4)
      refine ⟨y, ev_step (fun k => ?_) q1, q2⟩
      simp only [slices_Min_int64_int64.l0]
      rw [if_pos (by omega), if_pos (by omega), succ_cast i (by omega)]
      simp only [rd, Int.toNat_natCast]
  unfold slices_Min_int64_int64.f
  obtain ⟨y, q1, q2⟩ := key _ 1 (a.getD 0 0) rfl (by omega) (fun j hj => Int.le_of_eq (by rw [show j = 0 by omega])) ⟨0, h0, rfl⟩
  exact ⟨y, ev_if_neg (by omega) (ev_if_pos (by omega) q1), q2⟩
theorem maxI (a : List Int) (h0 : 0 < a.length) (h6 : a.length ≤ 1048576) : ∃ x, Ev (fun k => slices_Max_int64_int64.f k a) x ∧ (∀ j < a.length, a.getD j 0 ≤ x) ∧ ∃ j < a.length, a.getD j 0 = x := by
  have key : ∀ (m i : Nat) (x : Int), a.length - i = m → i ≤ a.length → (∀ j < i, a.getD j 0 ≤ x) → (∃ j < a.length, a.getD j 0 = x) → ∃ y, Ev (fun k => slices_Max_int64_int64.l0 k a x (i : Int)) y ∧ (∀ j < a.length, a.getD j 0 ≤ y) ∧ ∃ j < a.length, a.getD j 0 = y := by
    intro m
    induction m with
    | zero =>
      intro i x h1 h2 h3 h4
      refine ⟨x, ev_end (fun k => ?_), fun j hj => h3 j (by omega), h4⟩
      simp only [slices_Max_int64_int64.l0]
      rw [if_neg (by omega)]
    | succ m ih =>
      intro i x h1 h2 h3 h4
      obtain ⟨y, q1, q2⟩ := ih (i + 1) (mx x (a.getD i 0)) (by omega) (by omega) (fun j hj => by
        by_cases e : j = i
        · subst e; unfold mx; split <;> omega
        · have := h3 j (by omega); unfold mx; split <;> omega) (by
        unfold mx
        split
        · exact ⟨i, by omega, rfl⟩
        · exact h4)
      refine ⟨y, ev_step (fun k => ?_) q1, q2⟩
      simp only [slices_Max_int64_int64.l0]
      rw [if_pos (by omega), if_pos (by omega), succ_cast i (by omega)]
      simp only [rd, Int.toNat_natCast]
  unfold slices_Max_int64_int64.f
  obtain ⟨y, q1, q2⟩ := key _ 1 (a.getD 0 0) rfl (by omega) (fun j hj => Int.le_of_eq (by rw [show j = 0 by omega])) ⟨0, h0, rfl⟩
  exact ⟨y, ev_if_neg (by omega) (ev_if_pos (by omega) q1), q2⟩
theorem take_row (es : List (List Int)) (i : Nat) (hi : i < es.length) : es.take (i + 1) = es.take i ++ [es.getD i []] := by
  rw [List.take_succ_eq_append_getElem hi, List.getD_eq_getElem?_getD, List.getElem?_eq_getElem hi]
  rfl
theorem rows_copy (es : List (List Int)) (a : List Int) (hn : es.length ≤ 4) (hr : ∀ i < es.length, (es.getD i []).length ≤ 4) : ∀ (m i : Nat), es.length - i = m → i ≤ es.length → Ev (fun k => impl_Retuned.l0 k es (es.length : Int) (i : Int) a (es.take i)) (a, es, 0) := by
  intro m
  induction m with
  | zero =>
    intro i h1 h2
    refine ev_end (fun k => ?_)
    simp only [impl_Retuned.l0]
    rw [if_neg (by omega), List.take_of_length_le (by omega)]
  | succ m ih =>
    intro i h1 h2
    refine ev_step (fun k => ?_) (ih (i + 1) (by omega) (by omega))
    have hi : i < es.length := by omega
    have e : rd_L1 es (i : Int) = es.getD i [] := by simp only [rd_L1, Int.toNat_natCast]
    have := hr i hi
    simp only [impl_Retuned.l0]
    rw [if_pos (by omega), if_pos (by omega), if_pos (by omega)]
    simp only [Option.bind_some]
    rw [e, if_pos (by rw [List.length_nil]; omega), if_pos (by rw [List.length_take]; omega), succ_cast i (by omega), take_row es i hi]
    rfl
theorem rows_own (es : List (List Int)) (hn : es.length ≤ 4) (hr : ∀ i < es.length, (es.getD i []).length ≤ 4) : Ev (fun k => spec_l12Own.f k es) es := by
  have key : ∀ (m i : Nat), es.length - i = m → i ≤ es.length → Ev (fun k => spec_l12Own.l0 k es (es.take i) (i : Int)) es := by
    intro m
    induction m with
    | zero =>
      intro i h1 h2
      refine ev_end (fun k => ?_)
      simp only [spec_l12Own.l0]
      rw [if_neg (by omega), List.take_of_length_le (by omega)]
    | succ m ih =>
      intro i h1 h2
      refine ev_step (fun k => ?_) (ih (i + 1) (by omega) (by omega))
      have hi : i < es.length := by omega
      have e : rd_L1 es (i : Int) = es.getD i [] := by simp only [rd_L1, Int.toNat_natCast]
      have := hr i hi
      simp only [spec_l12Own.l0, spec_l00Own.f]
      rw [if_pos (by omega), if_pos (by omega)]
      simp only [Option.bind_some]
      rw [e, if_pos (by rw [List.length_nil]; omega)]
      simp only [Option.bind_some]
      rw [if_pos (by rw [List.length_take]; omega), succ_cast i (by omega), take_row es i hi]
      rfl
  unfold spec_l12Own.f
  exact key es.length 0 (by omega) (by omega)
theorem spec_in (a ts : List Int) (es : List (List Int)) (h6 : a.length ≤ 1048576) (hn : es.length ≤ 4) (hr : ∀ i < es.length, (es.getD i []).length ≤ 4) :
    ((∃ j < a.length, a.getD j 0 < 0) → Ev (fun k => spec_Retuned.l0 k a 0 ts es) ([], [], 10)) ∧ ((∀ j < a.length, 0 ≤ a.getD j 0) → (∃ j < a.length, a.getD j 0 > 1000000) → Ev (fun k => spec_Retuned.l0 k a 0 ts es) ([], [], 5)) ∧ ((∀ j < a.length, 0 ≤ a.getD j 0) → (∀ j < a.length, a.getD j 0 ≤ 1000000) → Ev (fun k => spec_Retuned.l0 k a 0 ts es) (a, es, 0)) := by
  have k0 : ∀ (r : List Int × List (List Int) × Int), (∀ j < a.length, 0 ≤ a.getD j 0) → Ev (fun k => spec_Retuned.l1 k a 0 ts es) r → ∀ (m i : Nat), a.length - i = m → i ≤ a.length → Ev (fun k => spec_Retuned.l0 k a (i : Int) ts es) r := by
    intro r h hr m
    induction m with
    | zero =>
      intro i h1 h2
      refine ev_step (fun k => ?_) hr
      simp only [spec_Retuned.l0]
      rw [if_neg (by omega)]
    | succ m ih =>
      intro i h1 h2
      refine ev_step (fun k => ?_) (ih (i + 1) (by omega) (by omega))
      have := h i (by omega)
      have er : rd a (i : Int) = a.getD i 0 := by simp only [rd, Int.toNat_natCast]
      simp only [spec_Retuned.l0]
      rw [er, if_pos (by omega), if_pos (by omega), if_neg (by omega), succ_cast i (by omega)]
  have k1 : ∀ (m i : Nat), (∃ j, i ≤ j ∧ j < a.length ∧ a.getD j 0 < 0) → a.length - i = m → i ≤ a.length → Ev (fun k => spec_Retuned.l0 k a (i : Int) ts es) ([], [], 10) := by
    intro m
    induction m with
    | zero => intro i ⟨j, g1, g2, g3⟩ h1 h2; omega
    | succ m ih =>
      intro i ⟨j, g1, g2, g3⟩ h1 h2
      refine ev_succ ?_
      have er : rd a (i : Int) = a.getD i 0 := by simp only [rd, Int.toNat_natCast]
      simp only [spec_Retuned.l0, er]
      refine ev_if_pos (by omega) (ev_if_pos (by omega) ?_)
      by_cases c : a.getD i 0 < 0
      · exact ev_if_pos c (ev_now fun _ => rfl)
      · refine ev_if_neg c ?_
        rw [succ_cast i (by omega)]
        exact ih (i + 1) ⟨j, by
          rcases Nat.lt_or_ge i j with q | q
          · exact q
          · have : j = i := by omega
            subst this; exact absurd g3 c, g2, g3⟩ (by omega) (by omega)
  have k2 : ∀ (m i : Nat), (∃ j, i ≤ j ∧ j < a.length ∧ a.getD j 0 > 1000000) → a.length - i = m → i ≤ a.length → Ev (fun k => spec_Retuned.l1 k a (i : Int) ts es) ([], [], 5) := by
    intro m
    induction m with
    | zero => intro i ⟨j, g1, g2, g3⟩ h1 h2; omega
    | succ m ih =>
      intro i ⟨j, g1, g2, g3⟩ h1 h2
      refine ev_succ ?_
      have er : rd a (i : Int) = a.getD i 0 := by simp only [rd, Int.toNat_natCast]
      simp only [spec_Retuned.l1, er]
      refine ev_if_pos (by omega) (ev_if_pos (by omega) ?_)
      by_cases c : a.getD i 0 > 1000000
      · exact ev_if_pos c (ev_now fun _ => rfl)
      · refine ev_if_neg c ?_
        rw [succ_cast i (by omega)]
        exact ih (i + 1) ⟨j, by
          rcases Nat.lt_or_ge i j with q | q
          · exact q
          · have : j = i := by omega
            subst this; exact absurd g3 c, g2, g3⟩ (by omega) (by omega)
  have k3 : (∀ j < a.length, a.getD j 0 ≤ 1000000) → ∀ (m i : Nat), a.length - i = m → i ≤ a.length → Ev (fun k => spec_Retuned.l1 k a (i : Int) ts es) (a, es, 0) := by
    intro h m
    induction m with
    | zero =>
      intro i h1 h2
      refine ev_succ ?_
      simp only [spec_Retuned.l1]
      exact ev_if_neg (by omega) (ev_bind (rows_own es hn hr) (ev_now fun _ => rfl))
    | succ m ih =>
      intro i h1 h2
      refine ev_step (fun k => ?_) (ih (i + 1) (by omega) (by omega))
      have := h i (by omega)
      have er : rd a (i : Int) = a.getD i 0 := by simp only [rd, Int.toNat_natCast]
      simp only [spec_Retuned.l1]
      rw [er, if_pos (by omega), if_pos (by omega), if_neg (by omega), succ_cast i (by omega)]
  refine ⟨fun ⟨j, h1, h2⟩ => k1 a.length 0 ⟨j, by omega, h1, h2⟩ (by omega) (by omega), fun h ⟨j, h1, h2⟩ => ?_, fun h h2 => ?_⟩
  · exact k0 _ h (k2 a.length 0 ⟨j, by omega, h1, h2⟩ (by omega) (by omega)) a.length 0 (by omega) (by omega)
  · exact k0 _ h (k3 h2 a.length 0 (by omega) (by omega)) a.length 0 (by omega) (by omega)
theorem both (ts : List Int) (es : List (List Int)) (tn : List Int) (hs : Small ts es) (hn : tn.length ≤ 1048576) : ∃ w X c, Ev (fun k => spec_Retuned.f k ts es tn) (w, X, c) ∧ Ev (fun k => impl_Retuned.f k ts es tn) (w, X, c) ∧ w.length ≤ 1048576 ∧ X.length ≤ 4 ∧ ∀ row ∈ X, row.length ≤ 4 := by
  unfold spec_Retuned.f impl_Retuned.f
  rcases code_cases ts es tn with hc | hc
  · obtain ⟨hv, _, htn⟩ := code_zero hc
    obtain ⟨hel, h1, h4, _, hrows⟩ := okT_row hv
    obtain ⟨a1, a2⟩ := afters ts es tn hs hc
    have hal : (afterT ts es tn).length = ts.length := by unfold afterT; rw [stO_len]
    have hr4 : ∀ i < es.length, (es.getD i []).length ≤ 4 := fun i hi => by rw [(hrows i (by omega)).1]; omega
    obtain ⟨x, m1, m2, m3, m4, m5⟩ := minI (afterT ts es tn) (by omega) (by omega)
    obtain ⟨y, n1, n2, n3, n4, n5⟩ := maxI (afterT ts es tn) (by omega) (by omega)
    obtain ⟨s1, s2, s3⟩ := spec_in (afterT ts es tn) ts es (by omega) (by omega) hr4
    have hX : ∀ row ∈ es, row.length ≤ 4 := fun row hrow => by
      obtain ⟨i, hi, rfl⟩ := List.getElem_of_mem hrow
      have := hr4 i hi
      rwa [List.getD_eq_getElem?_getD, List.getElem?_eq_getElem hi] at this
    have go : ∀ {r}, Ev (fun k => spec_Retuned.l0 k (afterT ts es tn) 0 ts es) r → Ev (fun k => (spec_l12Code.f k ts es tn).bind fun t => if t = 0 then ((spec_l12After.f k ts es tn).bind fun t => spec_Retuned.l0 k t 0 ts es) else some ([], [], t)) r := fun h => ev_bind (specC ts es tn hs hn) (by rw [hc]; exact ev_if_pos rfl (ev_bind a2 h))
    by_cases hx : x < 0
    · refine ⟨[], [], 10, go (s1 ⟨m3, m4, by omega⟩), ev_bind (implC ts es tn hs hn) ?_, by simp, by simp, by simp⟩
      rw [hc]
      exact ev_if_pos rfl (ev_bind a1 (ev_bind m1 (ev_if_pos hx (ev_now fun _ => rfl))))
    · have hx2 : ∀ j < (afterT ts es tn).length, 0 ≤ (afterT ts es tn).getD j 0 := fun j hj => by have := m2 j hj; omega
      by_cases hy : y > 1000000
      · refine ⟨[], [], 5, go (s2 hx2 ⟨n3, n4, by omega⟩), ev_bind (implC ts es tn hs hn) ?_, by simp, by simp, by simp⟩
        rw [hc]
        exact ev_if_pos rfl (ev_bind a1 (ev_bind m1 (ev_if_neg hx (ev_bind n1 (ev_if_pos hy (ev_now fun _ => rfl))))))
      · refine ⟨afterT ts es tn, es, 0, go (s3 hx2 (fun j hj => by have := n2 j hj; omega)), ev_bind (implC ts es tn hs hn) ?_, by rw [hal]; exact hs.1, by omega, hX⟩
        rw [hc]
        refine ev_if_pos rfl (ev_bind a1 (ev_bind m1 (ev_if_neg hx (ev_bind n1 (ev_if_neg hy ?_)))))
        exact rows_copy es (afterT ts es tn) (by omega) hr4 es.length 0 (by omega) (by omega)
  · exact ⟨[], [], codeT ts es tn, ev_bind (specC ts es tn hs hn) (ev_if_neg hc (ev_now fun _ => rfl)), ev_bind (implC ts es tn hs hn) (ev_if_neg hc (ev_now fun _ => rfl)), by simp, by simp, by simp⟩
theorem FnExactRetuned : Say.FnExactRetuned := by
  intro ts es tn ht he hn
  apply Ev.rounds
  unfold laws_FnExactRetuned.f
  by_cases hlen : (tn.length : Int) > 1048576
  · exact ev_if_pos hlen (ev_now fun _ => rfl)
  refine ev_if_neg hlen ?_
  obtain ⟨r, h1, h2, h3⟩ := szT ts es 1048576 (by omega) (by omega) ht.1 he.1 (fun row hr => (he.2 row hr).1)
  refine ev_bind h1 ?_
  by_cases hr : r < 0
  · exact ev_if_pos hr (ev_now fun _ => rfl)
  have hs := h3 (by omega)
  have hn' : tn.length ≤ 1048576 := by omega
  obtain ⟨w, X, c, k1, k2, w6, X4, Xr⟩ := both ts es tn hs hn'
  have hwX : Small w X := ⟨w6, by omega, fun row h => by have := Xr row h; omega⟩
  refine ev_if_neg hr (ev_bind (toT ts es hs) (ev_bind (toI tn hn') (ev_bind k1 (ev_bind (toT ts es hs) (ev_bind (toI tn hn') (ev_bind k2 (ev_bind (eqT w X hwX) (ev_if_pos rfl ?_))))))))
  show Ev (fun k => laws_FnExactRetuned.j0 k tn c tn c (c != c) ts es w X ts es w X) true
  rw [bne_self_eq_false]
  obtain ⟨b, ts', es', g1, g2, g3⟩ := marksT ts es hs
  have hX := totR_le X 4 Xr
  obtain ⟨q1, q2⟩ := markedT w X w6 (by omega) (by omega)
  have q0 := totR_nn X
  refine ev_succ ?_
  simp only [laws_FnExactRetuned.j0, Bool.false_eq_true, if_false]
  refine (ev_bind (toT ts es hs) (ev_bind (eqT ts es hs) (ev_if_pos rfl (ev_bind (toI tn hn') (ev_bind (eqI tn (by omega)) (ev_if_pos rfl (ev_bind g1 (ev_bind (marksI tn b g2 (by omega)) (ev_if_neg (by show ¬ b + (tn.length : Int) < 0; omega) (ev_bind (eqT w X hwX) (ev_if_pos rfl ?_)))))))))))
  rw [bne_self_eq_false]
  refine ev_succ ?_
  simp only [laws_FnExactRetuned.j1, Bool.false_eq_true, if_false]
  refine (ev_bind q1 (ev_bind q2 (ev_if_neg (by omega) (ev_if_pos rfl (ev_bind (toT ts es hs) (ev_bind (toI tn hn') (ev_bind k2 (ev_bind (eqT w X hwX) (ev_if_pos rfl ?_)))))))))
  show Ev (fun k => laws_FnExactRetuned.j2 k _ (c != c) _ _) true
  rw [bne_self_eq_false]
  refine ev_succ ?_
  simp only [laws_FnExactRetuned.j2, Bool.false_eq_true, if_false]
  exact (ev_bind q2 (ev_if_neg (by omega) (ev_if_pos rfl (ev_now fun _ => rfl))))
end Go.Proofs.Ythfpaldhdohnkaa.Pure
