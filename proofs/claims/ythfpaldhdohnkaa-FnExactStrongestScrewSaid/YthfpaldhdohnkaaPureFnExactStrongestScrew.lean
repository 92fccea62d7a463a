import Derived.Test.YthfpaldhdohnkaaSayFnExactStrongestScrew
import Derived.Test.YthfpaldhdohnkaaPlain
namespace Go.Proofs.Ythfpaldhdohnkaa.Pure
open Go.RowKit Go.Proofs.Ythfpaldhdohnkaa.PFnExactStrongestScrew Go.Proofs.Ythfpaldhdohnkaa.Plain Go.Proofs.YthfpaldhdohnkaaW.PrintWords
set_option linter.unusedVariables false
set_option linter.unusedSimpArgs false
open Go.Proofs.YthfpaldhdohnkaaW.PrintMore
theorem specIn (n a b : Int) : spec_l00In.f n a b = some (decide (a ≤ n ∧ n ≤ b)) := by
  unfold spec_l00In.f
  by_cases h1 : n ≥ a <;> by_cases h2 : n ≤ b <;> simp [h1, h2] <;> omega
theorem implIn (n a b : Int) : impl_within.f n a b = some (decide (a ≤ n ∧ n ≤ b)) := by
  unfold impl_within.f
  by_cases h1 : n ≥ a <;> by_cases h2 : n ≤ b <;> simp [h1, h2] <;> omega
/-! ### loops over lists -/
theorem mem_getD {α : Type} (l : List α) (z : α) (i : Nat) (h : i < l.length) : l.getD i z ∈ l := by
  rw [List.getD_eq_getElem?_getD, List.getElem?_eq_getElem h]; exact List.getElem_mem h
theorem all_loop {α : Type} (z : α) (p : α → Bool) (T : Nat → α → Option Bool) (F : Nat → Int → Option Bool) (l : List α) (hl : l.length < 9223372036854775807) (hT : ∀ x ∈ l, Ev (fun k => T k x) (p x))
    (hF : ∀ k x5, F (k + 1) x5 = if x5 < (l.length : Int) then (if 0 ≤ x5 then (if x5 < (l.length : Int) then ((T k (l.getD x5.toNat z)).bind fun t => (if t = true then (F k (wrap64 (x5 + 1))) else (some false))) else (none)) else (none)) else (some true)) :
    Ev (fun k => F k 0) (l.all p) := by
  refine loop_up' (fun k i => F k (i : Int)) l.length (l.all p) (fun i => (l.take i).all p = true) (fun i hi hI => ?_) (fun hI => ?_) l.length 0 (by omega) (by omega) (by simp)
  · have hm := hT _ (mem_getD l z i hi)
    cases hp : p (l.getD i z) with
    | true =>
      refine .inl ⟨?_, fun h => ?_⟩
      · rw [List.take_succ_eq_append_getElem hi, List.all_append, hI]
        rw [List.getD_eq_getElem?_getD, List.getElem?_eq_getElem hi] at hp
        simpa using hp
      · refine ev_step (fun k => hF k i) (ev_if_pos (by omega) (ev_if_pos (by omega) (ev_if_pos (by omega) ?_)))
        rw [Int.toNat_natCast]
        refine ev_bind hm (ev_if_pos hp ?_)
        rw [succ_cast i (by omega)]
        exact h
    | false =>
      refine .inr ?_
      refine ev_step (fun k => hF k i) (ev_if_pos (by omega) (ev_if_pos (by omega) (ev_if_pos (by omega) ?_)))
      rw [Int.toNat_natCast]
      refine ev_bind hm (ev_if_neg (by rw [hp]; decide) (ev_now fun _ => ?_))
      have : l.all p = false := by
        cases hq : l.all p with
        | false => rfl
        | true => rw [List.all_eq_true.mp hq _ (mem_getD l z i hi)] at hp; cases hp
      rw [this]
  · refine ev_end (fun k => ?_)
    show F (k + 1) _ = _
    rw [hF, if_neg (by omega)]
    simpa using hI.symm
theorem copyT_loop {α β : Type} (z : α) (zb : β) (f : α → β) (T : Nat → α → Option β) (F : Nat → List β → Int → Option (List β)) (l : List α) (hl : l.length < 9223372036854775807) (hT : ∀ x ∈ l, Ev (fun k => T k x) (f x))
    (hF : ∀ k x3 x4, F (k + 1) x3 x4 = if x4 < (l.length : Int) then (if 0 ≤ x4 then ((T k (l.getD x4.toNat z)).bind fun t => (if x4 < (x3.length : Int) then (F k (x3.set x4.toNat t) (wrap64 (x4 + 1))) else (none))) else (none)) else (some x3)) :
    Ev (fun k => F k (List.replicate l.length zb) 0) (l.map f) := by
  have h := loop_up' (fun k i => F k ((l.take i).map f ++ List.replicate (l.length - i) zb) (i : Int)) l.length (l.map f) (fun _ => True) (fun i hi _ => .inl ⟨trivial, fun h => by
    refine ev_step (fun k => hF k _ i) (ev_if_pos (by omega) (ev_if_pos (by omega) ?_))
    rw [Int.toNat_natCast]
    refine ev_bind (hT _ (mem_getD l z i hi)) (ev_if_pos (by simp; omega) ?_)
    have e : List.replicate (l.length - i) zb = zb :: List.replicate (l.length - (i + 1)) zb := by
      rw [← List.replicate_succ]; congr 1; omega
    rw [e, set_next _ _ _ _ (by simp; omega), succ_cast i (by omega)]
    have e2 : (l.take (i + 1)).map f = (l.take i).map f ++ [f (l.getD i z)] := by
      rw [List.take_succ_eq_append_getElem hi, List.map_append]
      simp [List.getD_eq_getElem?_getD, List.getElem?_eq_getElem hi]
    rw [← e2]
    exact h⟩) (fun _ => by
    refine ev_end (fun k => ?_)
    show F (k + 1) _ _ = _
    rw [hF, if_neg (by omega)]
    simp) l.length 0 (by omega) (by omega) trivial
  simpa using h
/-! ### what the laws do with a tuning -/
theorem szI (l : List Int) (n : Int) (h0 : 0 ≤ n) (hn : n ≤ 1048576) (hl : l.length ≤ 9223372036854775807) : laws_szInt64S.f l n = some (if (l.length : Int) ≤ n then n - l.length else -1) := by
  unfold laws_szInt64S.f
  rw [wrap_in (by omega) (by omega)]
  by_cases h : (l.length : Int) ≤ n
  · rw [if_neg (by omega), if_pos h]
  · rw [if_pos (by omega), if_neg h]
theorem szSSl (es : List (List Int)) (he : es.length < 9223372036854775807) (hr : ∀ row ∈ es, row.length ≤ 9223372036854775807) : ∀ (m i : Nat) (n : Int), es.length - i = m → i ≤ es.length → 0 ≤ n → n ≤ 1048576 →
    ∃ r, Ev (fun k => laws_szInt64SS.l0 k es n (i : Int)) r ∧ r ≤ n ∧ (0 ≤ r → ∀ j, i ≤ j → j < es.length → ((es.getD j []).length : Int) ≤ n) := by
  intro m
  induction m with
  | zero =>
    intro i n h1 h2 h3 h4
    refine ⟨n, ev_end (fun k => ?_), by omega, fun _ j h5 h6 => by omega⟩
    simp only [laws_szInt64SS.l0]
    rw [if_neg (by omega)]
  | succ m ih =>
    intro i n h1 h2 h3 h4
    have hi : i < es.length := by omega
    have hm := hr _ (mem_getD es [] i hi)
    have hz := szI (es.getD i []) n h3 h4 hm
    have hs : ∀ k, laws_szInt64SS.l0 (k + 1) es n (i : Int) = ((laws_szInt64S.f (es.getD i []) n).bind fun t102 => (if t102 < 0 then (some (-1)) else (laws_szInt64SS.l0 k es t102 ((i + 1 : Nat) : Int)))) := by
      intro k
      simp only [laws_szInt64SS.l0]
      rw [if_pos (by omega), if_pos (by omega), succ_cast i (by omega)]
      simp only [rd_L1, Int.toNat_natCast]
    by_cases hc : ((es.getD i []).length : Int) ≤ n
    · rw [if_pos hc] at hz
      obtain ⟨r, h5, h6, h7⟩ := ih (i + 1) (n - (es.getD i []).length) (by omega) (by omega) (by omega) (by omega)
      refine ⟨r, ev_step hs ?_, by omega, fun h0 j h8 h9 => ?_⟩
      · rw [hz]
        exact ev_some (ev_if_neg (by omega) h5)
      · rcases Nat.lt_or_ge i j with h | h
        · have := h7 h0 j (by omega) h9
          omega
        · obtain rfl : i = j := by omega
          exact hc
    · rw [if_neg hc] at hz
      refine ⟨-1, ev_step hs ?_, by omega, fun h0 => by omega⟩
      rw [hz]
      exact ev_some (ev_if_pos (by omega) (ev_now fun _ => rfl))
def Small (ts : List Int) (es : List (List Int)) : Prop := ts.length ≤ 1048576 ∧ es.length ≤ 1048576 ∧ ∀ row ∈ es, row.length ≤ 1048576
theorem szSS (es : List (List Int)) (n : Int) (h0 : 0 ≤ n) (hn : n ≤ 1048576) (he : es.length ≤ 9223372036854775807) (hr : ∀ row ∈ es, row.length ≤ 9223372036854775807) :
    ∃ r, Ev (fun k => laws_szInt64SS.f k es n) r ∧ r ≤ n ∧ (0 ≤ r → es.length ≤ 1048576 ∧ ∀ row ∈ es, row.length ≤ 1048576) := by
  unfold laws_szInt64SS.f
  rw [wrap_in (by omega) (by omega)]
  by_cases hc : (es.length : Int) ≤ n
  · obtain ⟨r, h1, h2, h3⟩ := szSSl es (by omega) hr es.length 0 (n - es.length) (by omega) (by omega) (by omega) (by omega)
    refine ⟨r, ev_if_neg (by omega) h1, by omega, fun h4 => ⟨by omega, fun row hrow => ?_⟩⟩
    obtain ⟨j, hj, rfl⟩ := List.getElem_of_mem hrow
    have := h3 h4 j (by omega) hj
    rw [List.getD_eq_getElem?_getD, List.getElem?_eq_getElem hj] at this
    simp only [Option.getD_some] at this
    omega
  · exact ⟨-1, ev_if_pos (by omega) (ev_now fun _ => rfl), by omega, fun h => by omega⟩
theorem szT (ts : List Int) (es : List (List Int)) (n : Int) (h0 : 0 ≤ n) (hn : n ≤ 1048576) (ht : ts.length ≤ maxLen) (he : es.length ≤ maxLen) (hr : ∀ row ∈ es, row.length ≤ maxLen) :
    ∃ r, Ev (fun k => laws_szTuning.f k ts es n) r ∧ r ≤ n ∧ (0 ≤ r → Small ts es) := by
  have hM : maxLen ≤ 9223372036854775807 := by decide
  unfold laws_szTuning.f
  rw [szI ts n h0 hn (by omega)]
  by_cases hc : (ts.length : Int) ≤ n
  · rw [if_pos hc]
    obtain ⟨r, h1, h2, h3⟩ := szSS es (n - ts.length) (by omega) (by omega) (by omega) (fun row h => by have := hr row h; omega)
    by_cases hr0 : r < 0
    · exact ⟨-1, ev_some (ev_if_neg (by omega) (ev_bind h1 (ev_if_pos hr0 (ev_now fun _ => rfl)))), by omega, fun h => by omega⟩
    · exact ⟨r, ev_some (ev_if_neg (by omega) (ev_bind h1 (ev_if_neg hr0 (ev_now fun _ => rfl)))), by omega, fun h => ⟨by omega, (h3 h).1, (h3 h).2⟩⟩
  · rw [if_neg hc]
    exact ⟨-1, ev_some (ev_if_pos (by omega) (ev_now fun _ => rfl)), by omega, fun h => by omega⟩
theorem toI (l : List Int) (h : l.length ≤ 1048576) : Ev (fun k => laws_toInt64S.f k l) l := by
  unfold laws_toInt64S.f
  refine ev_if_pos (by omega) (ev_if_pos (by omega) ?_)
  have := copy_loop (0 : Int) (0 : Int) (fun x => x) (fun k x3 x4 => laws_toInt64S.l0 k l x3 x4) l (by omega) (fun _ _ _ => rfl)
  simpa using this
theorem toSS (es : List (List Int)) (h : es.length ≤ 1048576) (hr : ∀ row ∈ es, row.length ≤ 1048576) : Ev (fun k => laws_toInt64SS.f k es) es := by
  unfold laws_toInt64SS.f
  refine ev_if_pos (by omega) (ev_if_pos (by omega) ?_)
  have := copyT_loop ([] : List Int) ([] : List Int) (fun x => x) laws_toInt64S.f (fun k x3 x4 => laws_toInt64SS.l0 k es x3 x4) es (by omega) (fun x hx => toI x (hr x hx)) (fun _ _ _ => rfl)
  simpa using this
theorem toT (ts : List Int) (es : List (List Int)) (h : Small ts es) : Ev (fun k => laws_toTuning.f k ts es) (ts, es) := by
  unfold laws_toTuning.f
  exact ev_bind (toI ts h.1) (ev_bind (toSS es h.2.1 h.2.2) (ev_now fun _ => rfl))
theorem eqI (l : List Int) (h : l.length < 9223372036854775807) : Ev (fun k => laws_eqInt64S.f k l l) true := by
  unfold laws_eqInt64S.f
  refine ev_if_pos rfl ?_
  exact eq_loop' (fun k x5 => laws_eqInt64S.l0 k l l x5) l h (fun i => rd l i = rd l i) (fun _ => rfl) (fun _ _ => rfl)
theorem eqSS (es : List (List Int)) (h : es.length ≤ 1048576) (hr : ∀ row ∈ es, row.length ≤ 1048576) : Ev (fun k => laws_eqInt64SS.f k es es) true := by
  unfold laws_eqInt64SS.f
  refine ev_if_pos rfl ?_
  have := all_loop ([] : List Int) (fun _ => true) (fun k x => laws_eqInt64S.f k x x) (fun k x5 => laws_eqInt64SS.l0 k es es x5) es (by omega) (fun x hx => eqI x (by have := hr x hx; omega)) (fun _ _ => rfl)
  exact ev_eq this (by simp)
theorem eqT (ts : List Int) (es : List (List Int)) (h : Small ts es) : Ev (fun k => laws_eqTuning.f k ts es ts es) true := by
  unfold laws_eqTuning.f
  exact ev_bind (eqI ts (by have := h.1; omega)) (ev_if_pos rfl (ev_bind (eqSS es h.2.1 h.2.2) (ev_if_pos rfl (ev_now fun _ => rfl))))
theorem cast_eq (x y : List Int) : decide ((x.length : Int) = (y.length : Int)) = decide (x.length = y.length) := by
  by_cases h : x.length = y.length
  · simp [h]
  · rw [decide_eq_false h, decide_eq_false (by omega)]
theorem areIn (l : List Int) (hl : l.length < 9223372036854775807) (n a b : Int) : Ev (fun k => impl_areIn.f k l n a b) (decide ((l.length : Int) = n) && l.all (fun x => decide (a ≤ x) && decide (x ≤ b))) := by
  unfold impl_areIn.f
  by_cases h : (l.length : Int) = n
  · refine ev_if_pos h ?_
    have := all_loop (0 : Int) (fun x => decide (a ≤ x) && decide (x ≤ b)) (fun _ x => impl_within.f x a b) (fun k x5 => impl_areIn.l0 k a b l (l.length : Int) x5) l hl (fun x _ => ev_const (by rw [implIn]; simp)) (fun _ _ => rfl)
    simpa [h] using this
  · exact ev_if_neg h (ev_now fun _ => by simp [h])
theorem implT (ts : List Int) (es : List (List Int)) (h : Small ts es) : Ev (fun k => impl_ValidTuning.f k ts es) (okTB ts es) := by
  obtain ⟨h1, h2, h3⟩ := h
  unfold impl_ValidTuning.f
  by_cases c1 : (ts.length : Int) < 1
  · refine ev_if_pos c1 (ev_end fun k => ?_)
    simp only [impl_ValidTuning.j0, if_true]
    have : ts.length = 0 := by omega
    simp [okTB, this]
  refine ev_if_neg c1 ?_
  by_cases c2 : (ts.length : Int) > 4
  · refine ev_if_pos c2 (ev_end fun k => ?_)
    simp only [impl_ValidTuning.j0, if_true]
    have : ¬ ts.length ≤ 4 := by omega
    simp [okTB, this]
  refine ev_if_neg c2 ?_
  by_cases c3 : (es.length : Int) = (ts.length : Int)
  · refine ev_if_pos c3 (ev_bind (areIn ts (by omega) _ _ _) ?_)
    cases c4 : ts.all (fun x => decide (0 ≤ x) && decide (x ≤ 1000000)) with
    | false =>
      refine ev_end fun k => ?_
      simp [impl_ValidTuning.j0, okTB, c4]
    | true =>
      refine ev_step (f := fun k => impl_ValidTuning.l0 k (ts.length : Int) es (es.length : Int) 0) (fun k => by simp [impl_ValidTuning.j0]) ?_
      have := all_loop ([] : List Int) (okRowB ts.length) (fun k x => impl_areIn.f k x (ts.length : Int) (-1000) 1000) (fun k x5 => impl_ValidTuning.l0 k (ts.length : Int) es (es.length : Int) x5) es (by omega)
        (fun x hx => ev_eq (areIn x (by have := h3 x hx; omega) _ _ _) (by unfold okRowB; rw [cast_eq x ts])) (fun _ _ => rfl)
      refine ev_eq this ?_
      have e1 : es.length = ts.length := by omega
      have e2 : 1 ≤ ts.length := by omega
      have e3 : ts.length ≤ 4 := by omega
      simp [okTB, c4, e1, e2, e3]
  · refine ev_if_neg c3 (ev_end fun k => ?_)
    simp only [impl_ValidTuning.j0, if_true]
    have : ¬ es.length = ts.length := by omega
    simp [okTB, this]
theorem isize (x : Int) (h : -1000 ≤ x ∧ x ≤ 1000) : impl_size.f x = some (sizeA x) := by
  unfold impl_size.f sizeA
  have hw : ∀ y : Int, 0 ≤ y → y ≤ 1000 → IntKind.u64.wrap y = y := by
    intro y h0 h1
    have e : IntKind.u64.wrap y = y % 18446744073709551616 := by simp [IntKind.wrap, IntKind.bits, IntKind.signed]
    rw [e]
    omega
  split
  · rw [wrap_in (by omega) (by omega), hw _ (by omega) (by omega)]
  · rw [hw _ (by omega) (by omega)]
theorem strong (row : List Int) (hr : row.length ≤ 4) (hb : ∀ i < row.length, -1000 ≤ row.getD i 0 ∧ row.getD i 0 ≤ 1000) : ∀ (m k b : Nat), row.length - k = m → k ≤ row.length → b < row.length →
    Ev (fun n => impl_StrongestScrew.l0 n row (b : Int) (row.length : Int) (k : Int)) ((strongL row m k b : Nat), 0) := by
  intro m
  induction m with
  | zero =>
    intro k b h1 h2 h3
    refine ev_end (fun n => ?_)
    simp only [impl_StrongestScrew.l0]
    rw [if_neg (by omega)]
    rfl
  | succ m ih =>
    intro k b h1 h2 h3
    have e : ∀ n, impl_StrongestScrew.l0 (n + 1) row (b : Int) (row.length : Int) (k : Int) = if sizeA (row.getD k 0) > sizeA (row.getD b 0) then impl_StrongestScrew.l0 n row (k : Int) (row.length : Int) ((k + 1 : Nat) : Int) else impl_StrongestScrew.l0 n row (b : Int) (row.length : Int) ((k + 1 : Nat) : Int) := by
      intro n
      simp only [impl_StrongestScrew.l0]
      rw [if_pos (by omega), if_pos (by omega), if_pos (by omega), succ_cast k (by omega)]
      simp only [rd, Int.toNat_natCast]
      rw [isize _ (hb k (by omega)), isize _ (hb b h3)]
      simp only [Option.bind_some]
      rw [if_pos (show 0 ≤ (b : Int) by omega), if_pos (show (b : Int) < (row.length : Int) by omega)]
    refine ev_step e ?_
    show Ev _ (((strongL row m (k + 1) (if sizeA (row.getD k 0) > sizeA (row.getD b 0) then k else b) : Nat) : Int), (0 : Int))
    by_cases hc : sizeA (row.getD k 0) > sizeA (row.getD b 0)
    · simp only [if_pos hc]
      exact ih (k + 1) k (by omega) (by omega) (by omega)
    · simp only [if_neg hc]
      exact ih (k + 1) b (by omega) (by omega) h3
theorem implS (ts : List Int) (es : List (List Int)) (a : Int) (h : Small ts es) : Ev (fun k => impl_StrongestScrew.f k ts es a) (strongT ts es a) := by
  unfold impl_StrongestScrew.f strongT
  refine ev_bind (implT ts es h) ?_
  cases hv : okTB ts es with
  | false => exact ev_now fun _ => rfl
  | true =>
    obtain ⟨hel, hn1, hn4, _, hrows⟩ := okT_row hv
    rw [if_pos rfl]
    refine ev_if_pos rfl ?_
    rw [wrap_in (by omega) (by omega), implIn]
    by_cases hin : 0 ≤ a ∧ a < (ts.length : Int)
    · rw [if_pos hin]
      refine ev_some (ev_if_pos (by simp; omega) (ev_if_pos hin.1 (ev_if_pos (by omega) ?_)))
      obtain ⟨i, rfl⟩ : ∃ i : Nat, a = (i : Int) := ⟨a.toNat, by omega⟩
      obtain ⟨hl, hb⟩ := hrows i (by omega)
      simp only [rd_L1, Int.toNat_natCast]
      have := strong (es.getD i []) (by omega) (fun j hj => hb j (by omega)) (es.getD i []).length 0 0 (by omega) (by omega) (by omega)
      refine ev_eq this ?_
      rw [show (es.getD i []).length = (ts.length - 1) + 1 by omega]
      show (((strongL (es.getD i []) (ts.length - 1) 1 (if sizeA ((es.getD i []).getD 0 0) > sizeA ((es.getD i []).getD 0 0) then 0 else 0) : Nat) : Int), (0 : Int)) = _
      rw [if_neg (by omega)]
    · rw [if_neg hin]
      exact ev_some (ev_if_neg (by simp; omega) (ev_now fun _ => rfl))
theorem tailj (ts : List Int) (es : List (List Int)) (hs : Small ts es) : Ev (fun k => laws_FnExactStrongestScrew.j0 k false ts es ts es) true := by
  refine ev_step (f := fun k => ((laws_toTuning.f k ts es).bind fun bt177 => ((laws_eqTuning.f k ts es bt177.1 bt177.2).bind fun t183 => (if t183 = true then (some true) else (some false))))) (fun k => by simp only [laws_FnExactStrongestScrew.j0, Bool.false_eq_true, if_false]) ?_
  exact ev_bind (toT ts es hs) (ev_bind (eqT ts es hs) (ev_now fun _ => rfl))
theorem FnExactStrongestScrew : Say.FnExactStrongestScrew := by
  intro ts es a ht he ha
  apply Ev.rounds
  unfold laws_FnExactStrongestScrew.f
  obtain ⟨r, h1, h2, h3⟩ := szT ts es 1048576 (by omega) (by omega) ht.1 he.1 (fun row hr => (he.2 row hr).1)
  refine ev_bind h1 ?_
  by_cases hr : r < 0
  · exact ev_if_pos hr (ev_now fun _ => rfl)
  have hs := h3 (by omega)
  refine ev_if_neg hr (ev_bind (toT ts es hs) (ev_some (ev_bind (toT ts es hs) (ev_bind (implS ts es a hs) (ev_if_pos rfl ?_)))))
  rw [bne_self_eq_false]
  exact tailj ts es hs
end Go.Proofs.Ythfpaldhdohnkaa.Pure
