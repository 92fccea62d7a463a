import Derived.Test.YthbfpkagjobgiaaSayFnWindSets
import Derived.Test.YthbfpkagjobgiaaPlain
namespace Go.Proofs.Ythbfpkagjobgiaa.Pure
open Go.RowKit Go.Proofs.Ythbfpkagjobgiaa.PFnWindSets Go.Proofs.Ythbfpkagjobgiaa.Plain Go.Proofs.YthbfpkagjobgiaaW.PrintWords
set_option linter.unusedVariables false
set_option linter.unusedSimpArgs false
open Go.Proofs.YthbfpkagjobgiaaW.PrintMore
theorem specIn (n a b : Int) : spec_l00In.f n a b = some (decide (a ≤ n ∧ n ≤ b)) := by
  unfold spec_l00In.f
  by_cases h1 : n ≥ a <;> by_cases h2 : n ≤ b <;> simp [h1, h2] <;> omega
theorem implIn (n a b : Int) : impl_within.f n a b = some (decide (a ≤ n ∧ n ≤ b)) := by
  unfold impl_within.f
  by_cases h1 : n ≥ a <;> by_cases h2 : n ≤ b <;> simp [h1, h2] <;> omega
/-! ### loops over lists -/
theorem mem_getD {α : Type} (l : List α) (z : α) (i : Nat) (h : i < l.length) : l.getD i z ∈ l := by
  rw [List.getD_eq_getElem?_getD, List.getElem?_eq_getElem h]; exact List.getElem_mem h
theorem all_loop {α : Type} (z : α) (p : α → Bool) (T : Nat → α → Option Bool) (F : Nat → Int → Option Bool) (l : List α) (hl : l.length < 9223372036854775807) (hT : ∀ x ∈ l, Ev (fun k => T k x) (p x))
    (hF : ∀ k x5, F (k + 1) x5 = if x5 < (l.length : Int) then (if 0 ≤ x5 then (if x5 < (l.length : Int) then ((T k (l.getD x5.toNat z)).bind fun t => (if t = true then (F k (wrap64 (x5 + 1))) else (some false))) else (none)) else (none)) else (some true)) :
    Ev (fun k => F k 0) (l.all p) := by
  refine loop_up' (fun k i => F k (i : Int)) l.length (l.all p) (fun i => (l.take i).all p = true) (fun i hi hI => ?_) (fun hI => ?_) l.length 0 (by omega) (by omega) (by simp)
  · have hm := hT _ (mem_getD l z i hi)
    cases hp : p (l.getD i z) with
    | true =>
      refine .inl ⟨?_, fun h => ?_⟩
      · rw [List.take_succ_eq_append_getElem hi, List.all_append, hI]
        rw [List.getD_eq_getElem?_getD, List.getElem?_eq_getElem hi] at hp
        simpa using hp
      · refine ev_step (fun k => hF k i) (ev_if_pos (by omega) (ev_if_pos (by omega) (ev_if_pos (by omega) ?_)))
        rw [Int.toNat_natCast]
        refine ev_bind hm (ev_if_pos hp ?_)
        rw [succ_cast i (by omega)]
        exact h
    | false =>
      refine .inr ?_
      refine ev_step (fun k => hF k i) (ev_if_pos (by omega) (ev_if_pos (by omega) (ev_if_pos (by omega) ?_)))
      rw [Int.toNat_natCast]
      refine ev_bind hm (ev_if_neg (by rw [hp]; decide) (ev_now fun _ => ?_))
      have : l.all p = false := by
        cases hq : l.all p with
        | false => rfl
        | true => rw [List.all_eq_true.mp hq _ (mem_getD l z i hi)] at hp; cases hp
      rw [this]
  · refine ev_end (fun k => ?_)
    show F (k + 1) _ = _
    rw [hF, if_neg (by omega)]
    simpa using hI.symm
theorem copyT_loop {α β : Type} (z : α) (zb : β) (f : α → β) (T : Nat → α → Option β) (F : Nat → List β → Int → Option (List β)) (l : List α) (hl : l.length < 9223372036854775807) (hT : ∀ x ∈ l, Ev (fun k => T k x) (f x))
    (hF : ∀ k x3 x4, F (k + 1) x3 x4 = if x4 < (l.length : Int) then (if 0 ≤ x4 then ((T k (l.getD x4.toNat z)).bind fun t => (if x4 < (x3.length : Int) then (F k (x3.set x4.toNat t) (wrap64 (x4 + 1))) else (none))) else (none)) else (some x3)) :
    Ev (fun k => F k (List.replicate l.length zb) 0) (l.map f) := by
  have h := loop_up' (fun k i => F k ((l.take i).map f ++ List.replicate (l.length - i) zb) (i : Int)) l.length (l.map f) (fun _ => True) (fun i hi _ => .inl ⟨trivial, fun h => by
    refine ev_step (fun k => hF k _ i) (ev_if_pos (by omega) (ev_if_pos (by omega) ?_))
    rw [Int.toNat_natCast]
    refine ev_bind (hT _ (mem_getD l z i hi)) (ev_if_pos (by simp; omega) ?_)
    have e : List.replicate (l.length - i) zb = zb :: List.replicate (l.length - (i + 1)) zb := by
      rw [← List.replicate_succ]; congr 1; omega
    rw [e, set_next _ _ _ _ (by simp; omega), succ_cast i (by omega)]
    have e2 : (l.take (i + 1)).map f = (l.take i).map f ++ [f (l.getD i z)] := by
      rw [List.take_succ_eq_append_getElem hi, List.map_append]
      simp [List.getD_eq_getElem?_getD, List.getElem?_eq_getElem hi]
    rw [← e2]
    exact h⟩) (fun _ => by
    refine ev_end (fun k => ?_)
    show F (k + 1) _ _ = _
    rw [hF, if_neg (by omega)]
    simp) l.length 0 (by omega) (by omega) trivial
  simpa using h
theorem smallB (c : Int) : spec_l01Small.f c = some (decide (97 ≤ c ∧ c ≤ 122)) := by
  unfold spec_l01Small.f
  by_cases h1 : c ≥ 97 <;> by_cases h2 : c ≤ 122 <;> simp [h1, h2] <;> omega
theorem digitB (c : Int) : spec_l01Digit.f c = some (decide (48 ≤ c ∧ c ≤ 57)) := by
  unfold spec_l01Digit.f
  by_cases h1 : c ≥ 48 <;> by_cases h2 : c ≤ 57 <;> simp [h1, h2] <;> omega
theorem nameLoop (s : ByteArray) (hl : s.size ≤ 12) : ∀ (m i : Nat), s.size - i = m → i ≤ s.size → ∃ b, Ev (fun k => spec_IsName.l0 k s (i : Int)) b ∧ Ev (fun k => impl_IsName.l0 k s (i : Int)) b := by
  intro m
  induction m with
  | zero =>
    intro i h1 h2
    refine ⟨true, ev_end fun k => ?_, ev_end fun k => ?_⟩
    · simp only [spec_IsName.l0]; rw [if_neg (by omega)]
    · simp only [impl_IsName.l0]; rw [if_neg (by omega)]
  | succ m ih =>
    intro i h1 h2
    have es : ∀ k, spec_IsName.l0 (k + 1) s (i : Int) = if (97 ≤ bt s i ∧ bt s i ≤ 122) ∨ (48 ≤ bt s i ∧ bt s i ≤ 57) ∨ bt s i = 45 then spec_IsName.l0 k s ((i + 1 : Nat) : Int) else some false := by
      intro k
      simp only [spec_IsName.l0]
      rw [if_pos (by omega), if_pos (by omega), smallB, digitB, succ_cast i (by omega)]
      generalize bt s (i : Int) = c
      by_cases a1 : 97 ≤ c ∧ c ≤ 122
      · simp [a1]
      · by_cases a2 : 48 ≤ c ∧ c ≤ 57
        · simp [a1, a2]
        · simp [a1, a2]
    have ei : ∀ k, impl_IsName.l0 (k + 1) s (i : Int) = if (97 ≤ bt s i ∧ bt s i ≤ 122) ∨ (48 ≤ bt s i ∧ bt s i ≤ 57) ∨ bt s i = 45 then impl_IsName.l0 k s ((i + 1 : Nat) : Int) else some false := by
      intro k
      simp only [impl_IsName.l0]
      rw [if_pos (by omega), if_pos (by omega), succ_cast i (by omega)]
      generalize bt s (i : Int) = c
      by_cases h : (97 ≤ c ∧ c ≤ 122) ∨ (48 ≤ c ∧ c ≤ 57) ∨ c = 45
      · rw [if_pos h]
        repeat' split
        all_goals first | rfl | omega
      · rw [if_neg h]
        repeat' split
        all_goals first | rfl | omega
    by_cases h : (97 ≤ bt s i ∧ bt s i ≤ 122) ∨ (48 ≤ bt s i ∧ bt s i ≤ 57) ∨ bt s i = 45
    · obtain ⟨b, h3, h4⟩ := ih (i + 1) (by omega) (by omega)
      exact ⟨b, ev_step es (ev_if_pos h h3), ev_step ei (ev_if_pos h h4)⟩
    · exact ⟨false, ev_step es (ev_if_neg h (ev_now fun _ => rfl)), ev_step ei (ev_if_neg h (ev_now fun _ => rfl))⟩
theorem name_empty (s : ByteArray) : s.toList = ([] : List UInt8) ↔ s.size = 0 := by
  have key : ∀ (m i : Nat) (r : List UInt8), s.size - i = m → (ByteArray.toList.loop s i r).length = r.length + (s.size - i) := by
    intro m
    induction m with
    | zero => intro i r h; unfold ByteArray.toList.loop; rw [if_neg (by omega)]; simp; omega
    | succ m ih => intro i r h; unfold ByteArray.toList.loop; rw [if_pos (by omega), ih (i + 1) _ (by omega)]; simp; omega
  have : s.toList.length = s.size := by unfold ByteArray.toList; rw [key s.size 0 [] (by omega)]; simp
  constructor
  · intro h; rw [h] at this; simpa using this.symm
  · intro h; rw [h] at this; exact List.length_eq_zero_iff.mp this
theorem names (s : ByteArray) : ∃ b, Ev (fun k => spec_IsName.f k s) b ∧ Ev (fun k => impl_IsName.f k s) b := by
  unfold spec_IsName.f impl_IsName.f
  have jf : Ev (fun k => spec_IsName.j0 k s true) false ∧ Ev (fun k => impl_IsName.j0 k s true) false := ⟨ev_end fun k => by simp [spec_IsName.j0], ev_end fun k => by simp [impl_IsName.j0]⟩
  by_cases h0 : s.size = 0
  · exact ⟨false, ev_if_pos ((name_empty s).mpr h0) jf.1, ev_if_pos (by omega) jf.2⟩
  have h0' : ¬ s.toList = ([] : List UInt8) := fun h => h0 ((name_empty s).mp h)
  by_cases h1 : (s.size : Int) > 12
  · exact ⟨false, ev_if_neg h0' (ev_if_pos h1 jf.1), ev_if_neg (by omega) (ev_if_pos h1 jf.2)⟩
  by_cases hc : 97 ≤ bt s 0 ∧ bt s 0 ≤ 122
  · obtain ⟨b, h3, h4⟩ := nameLoop s (by omega) s.size 0 (by omega) (by omega)
    refine ⟨b, ev_if_neg h0' (ev_if_neg h1 (ev_if_pos (by omega) ?_)), ev_if_neg (by omega) (ev_if_neg h1 (ev_if_pos (by omega) (ev_if_neg (by omega) ?_)))⟩
    · rw [smallB, decide_eq_true hc]
      exact ev_some (ev_step (f := fun k => spec_IsName.l0 k s 0) (fun k => by simp [spec_IsName.j0]) h3)
    · rw [decide_eq_false (by omega)]
      exact ev_step (f := fun k => impl_IsName.l0 k s 0) (fun k => by simp [impl_IsName.j0]) h4
  · refine ⟨false, ev_if_neg h0' (ev_if_neg h1 (ev_if_pos (by omega) ?_)), ev_if_neg (by omega) (ev_if_neg h1 (ev_if_pos (by omega) ?_))⟩
    · rw [smallB, decide_eq_false hc]
      exact ev_some jf.1
    · by_cases h2 : bt s 0 < 97
      · exact ev_if_pos h2 jf.2
      · refine ev_if_neg h2 ?_
        rw [decide_eq_true (by omega)]
        exact jf.2
/-! ### drawn numbers -/
def bytes (l : List Int) : Prop := ∀ x ∈ l, 0 ≤ x ∧ x ≤ 255
theorem bytes_of {l : List Int} (h : ∀ x ∈ l, (Lit.int .u8 x).wf = true) : bytes l := fun x hx => wf_u8 (h x hx)
theorem rd_byte {l : List Int} (h : bytes l) (i : Int) (h0 : 0 ≤ i) (h1 : i < l.length) : 0 ≤ rd l i ∧ rd l i ≤ 255 := by
  obtain ⟨n, rfl⟩ := Int.eq_ofNat_of_zero_le h0
  have hn : n < l.length := by omega
  unfold rd
  rw [getD_nat, List.getD_eq_getElem?_getD, List.getElem?_eq_getElem hn]
  exact h _ (List.getElem_mem hn)
theorem and255 (x : Int) : 0 ≤ wrap64 (Go.bits .and .u64 (IntKind.u64.wrap x / 1099511627776) 255) ∧ wrap64 (Go.bits .and .u64 (IntKind.u64.wrap x / 1099511627776) 255) ≤ 255 := by
  have e : IntKind.u64.wrap x = x % 18446744073709551616 := by simp [IntKind.wrap, IntKind.bits, IntKind.signed]
  have hb : ∀ y : Int, 0 ≤ y → y < 16777216 → Go.bits .and .u64 y 255 = y % 256 := by
    intro y h0 h1
    exact Go.bits_mask .u64 24 (by decide) (fun n h0 h1 => by
      have : n < 16777216 := h1
      simp [IntKind.wrap, IntKind.bits, IntKind.signed]; omega) 8 (by decide) y h0 h1
  rw [e, hb _ (by omega) (by omega)]
  unfold wrap64
  omega
theorem next_ok {l : List Int} (h : bytes l) (a s : Int) (h0 : 0 ≤ a) (h1 : a ≤ 1000000000000000) : ∃ v s', spec_l00Src_next.f l a s = some (v, a + 1, s') ∧ 0 ≤ v ∧ v ≤ 255 := by
  unfold spec_l00Src_next.f
  rw [wrap_in (x := a + 1) (by omega) (by omega)]
  by_cases c1 : a < (l.length : Int)
  · rw [if_pos c1, if_pos h0]
    have hr := rd_byte h a h0 c1
    rw [if_pos (show a + 1 ≤ (l.length : Int) by omega)]
    exact ⟨_, _, rfl, by rw [wrap_in (by omega) (by omega)]; exact hr.1, by rw [wrap_in (by omega) (by omega)]; exact hr.2⟩
  · rw [if_neg c1]
    by_cases c2 : a + 1 ≤ (l.length : Int)
    · rw [if_pos c2]
      exact ⟨_, _, rfl, by omega, by omega⟩
    · rw [if_neg c2]
      exact ⟨_, _, rfl, (and255 _).1, (and255 _).2⟩
theorem pick_ok {l : List Int} (h : bytes l) (a s n : Int) (h0 : 0 ≤ a) (h1 : a ≤ 1000000000) : ∃ v a' s', spec_l00Src_pick.f l a s n = some (v, a', s') ∧ 0 ≤ v ∧ (v < n ∨ v = 0) ∧ a ≤ a' ∧ a' ≤ a + 2 := by
  unfold spec_l00Src_pick.f
  by_cases c : n ≤ 1
  · rw [if_pos c]
    exact ⟨0, a, s, rfl, by omega, .inr rfl, by omega, by omega⟩
  · rw [if_neg c]
    obtain ⟨v, s1, e1, b1, b2⟩ := next_ok h a s h0 (by omega)
    rw [e1]
    simp only [Option.bind_some]
    by_cases c2 : n > 200
    · rw [if_pos c2]
      obtain ⟨v2, s2, e2, d1, d2⟩ := next_ok h (a + 1) s1 (by omega) (by omega)
      rw [e2]
      simp only [Option.bind_some]
      rw [if_neg (by omega), wrap_in (x := v * 256) (by omega) (by omega), wrap_in (x := v * 256 + v2) (by omega) (by omega)]
      have m1 := Int.tmod_nonneg n (show 0 ≤ v * 256 + v2 by omega)
      have m2 := Int.tmod_lt_of_pos (v * 256 + v2) (show 0 < n by omega)
      exact ⟨_, _, _, rfl, m1, .inl m2, by omega, by omega⟩
    · rw [if_neg c2, if_neg (by omega)]
      have m1 := Int.tmod_nonneg n b1
      have m2 := Int.tmod_lt_of_pos v (show 0 < n by omega)
      exact ⟨_, _, _, rfl, m1, .inl m2, by omega, by omega⟩
theorem canvases (s : ByteArray) (a b c d : Int) : ∃ v, (v = true → 1 ≤ a ∧ a ≤ 100000 ∧ 0 ≤ b ∧ b ≤ 1000 ∧ 1 ≤ c ∧ c ≤ 200 ∧ 1 ≤ d ∧ d ≤ 1000000000) ∧ Ev (fun k => spec_l10One.f k s a b c d) v ∧ Ev (fun k => impl_validCanvas.f k s a b c d) v := by
  obtain ⟨n, h1, h2⟩ := names s
  unfold spec_l10One.f impl_validCanvas.f
  cases n with
  | false => exact ⟨false, by simp, ev_bind h1 (ev_now fun _ => rfl), ev_bind h2 (ev_now fun _ => rfl)⟩
  | true =>
    refine ⟨decide (1 ≤ a ∧ a ≤ 100000 ∧ 0 ≤ b ∧ b ≤ 1000 ∧ 1 ≤ c ∧ c ≤ 200 ∧ 1 ≤ d ∧ d ≤ 1000000000), by simp only [decide_eq_true_eq]; exact id, ev_bind h1 (ev_if_pos rfl (ev_now fun _ => ?_)), ev_bind h2 (ev_if_pos rfl (ev_now fun _ => ?_))⟩
    · simp only [specIn]
      by_cases p1 : 1 ≤ a ∧ a ≤ 100000 <;> by_cases p2 : 0 ≤ b ∧ b ≤ 1000 <;> by_cases p3 : 1 ≤ c ∧ c ≤ 200 <;> by_cases p4 : 1 ≤ d ∧ d ≤ 1000000000 <;> simp [p1, p2, p3, p4] <;> omega
    · simp only [implIn]
      by_cases p1 : 1 ≤ a ∧ a ≤ 100000 <;> by_cases p2 : 0 ≤ b ∧ b ≤ 1000 <;> by_cases p3 : 1 ≤ c ∧ c ≤ 200 <;> by_cases p4 : 1 ≤ d ∧ d ≤ 1000000000 <;> simp [p1, p2, p3, p4] <;> omega
/-- A sail's numbers. -/
def InC (x : S27) : Prop := 1 ≤ x.f1 ∧ x.f1 ≤ 100000 ∧ 0 ≤ x.f2 ∧ x.f2 ≤ 1000 ∧ 1 ≤ x.f3 ∧ x.f3 ≤ 200 ∧ 1 ≤ x.f4 ∧ x.f4 ≤ 1000000000
/-- Is the name of i that of one before it? -/
def dup (l : List S27) (i : Nat) : Bool := (l.take i).any (fun y => decide (y.f0.toList = (l.getD i z27).f0.toList))
theorem dup_at {l : List S27} {i j : Nat} (hj : j < i) (hi : i < l.length) (h : (l.getD j z27).f0.toList = (l.getD i z27).f0.toList) : dup l i = true := by
  unfold dup
  rw [List.any_eq_true]
  refine ⟨l.getD j z27, ?_, decide_eq_true h⟩
  rw [List.getD_eq_getElem?_getD, List.getElem?_eq_getElem (by omega)]
  exact List.mem_take_iff_getElem.mpr ⟨j, by omega, rfl⟩
theorem dup_none {l : List S27} {i : Nat} (hi : i < l.length) (h : ∀ j, j < i → ¬ (l.getD j z27).f0.toList = (l.getD i z27).f0.toList) : dup l i = false := by
  cases hd : dup l i with
  | false => rfl
  | true =>
    unfold dup at hd
    rw [List.any_eq_true] at hd
    obtain ⟨y, hy, he⟩ := hd
    obtain ⟨j, hj, rfl⟩ := List.mem_take_iff_getElem.mp hy
    have := h j (by omega)
    rw [List.getD_eq_getElem?_getD (i := j), List.getElem?_eq_getElem (by omega)] at this
    exact absurd (of_decide_eq_true he) this
theorem indexF (l : List S27) (i : Nat) (hi : i < l.length) (hl : l.length ≤ 1048576) (a b c d : Int) : Ev (fun k => impl_Canvas_61.f k (l.take i) (l.getD i z27).f0 a b c d) (dup l i) := by
  unfold impl_Canvas_61.f impl_Canvas_86.f
  have hlen : (l.take i).length = i := by rw [List.length_take]; omega
  have key : ∀ (m j : Nat), i - j = m → j ≤ i → (∀ q, q < j → ¬ (l.getD q z27).f0.toList = (l.getD i z27).f0.toList) → ∃ r, Ev (fun k => impl_Canvas_86.l0 k (l.take i) (i : Int) (j : Int) (l.getD i z27).f0 a b c d) r ∧ decide (r ≥ 0) = dup l i := by
    intro m
    induction m with
    | zero =>
      intro j h1 h2 h3
      refine ⟨-1, ev_end fun k => ?_, ?_⟩
      · simp only [impl_Canvas_86.l0]; rw [if_neg (by omega)]
      · rw [dup_none hi (fun q hq => h3 q (by omega))]; rfl
    | succ m ih =>
      intro j h1 h2 h3
      have e : (l.take i).getD j z27 = l.getD j z27 := by
        rw [List.getD_eq_getElem?_getD, List.getElem?_take, if_pos (by omega), ← List.getD_eq_getElem?_getD]
      have hs : ∀ k, impl_Canvas_86.l0 (k + 1) (l.take i) (i : Int) (j : Int) (l.getD i z27).f0 a b c d = if ((l.getD j z27).f0.toList == (l.getD i z27).f0.toList) = true then some (j : Int) else impl_Canvas_86.l0 k (l.take i) (i : Int) ((j + 1 : Nat) : Int) (l.getD i z27).f0 a b c d := by
        intro k
        simp only [impl_Canvas_86.l0, impl_ValidCanvas_1.f, Option.bind_some]
        rw [if_pos (by omega), if_pos (by omega), if_pos (by omega), succ_cast j (by omega)]
        simp only [rd_T27, Int.toNat_natCast, e]
      by_cases hc : (l.getD j z27).f0.toList = (l.getD i z27).f0.toList
      · refine ⟨(j : Int), ev_step (f := fun _ => some (j : Int)) (fun k => ?_) (ev_now fun _ => rfl), ?_⟩
        · rw [hs k, if_pos (by rw [hc]; exact beq_self_eq_true _)]
        · rw [dup_at (by omega) hi hc, decide_eq_true (by omega)]
      · obtain ⟨r, h4, h5⟩ := ih (j + 1) (by omega) (by omega) (fun q hq => by
          rcases Nat.lt_succ_iff_lt_or_eq.mp hq with h | h
          · exact h3 q h
          · rw [h]; exact hc)
        exact ⟨r, ev_step (fun k => by rw [hs k, if_neg (by rw [beq_iff_eq]; exact hc)]) h4, h5⟩
  obtain ⟨r, h1, h2⟩ := key i 0 (by omega) (by omega) (by omega)
  rw [hlen]
  exact ev_bind h1 (ev_now fun _ => by rw [h2])

theorem innerC (l : List S27) (i : Nat) (hi : i < l.length) (hl : l.length ≤ 1048576) (v : Bool) (hd : dup l i = true → v = false) (hn : dup l i = false → Ev (fun k => spec_l10Ok.l0 k l ((i + 1 : Nat) : Int)) v) : Ev (fun k => spec_l10Ok.l1 k l (i : Int) 0) v := by
  refine loop_up' (fun k j => spec_l10Ok.l1 k l (i : Int) (j : Int)) i v (fun j => ∀ q, q < j → ¬ (l.getD q z27).f0.toList = (l.getD i z27).f0.toList) (fun j hj hI => ?_) (fun hI => ?_) i 0 (by omega) (by omega) (by omega)
  · have hs : ∀ k, spec_l10Ok.l1 (k + 1) l (i : Int) (j : Int) = if (l.getD j z27).f0.toList = (l.getD i z27).f0.toList then some false else spec_l10Ok.l1 k l (i : Int) ((j + 1 : Nat) : Int) := by
      intro k
      simp only [spec_l10Ok.l1]
      rw [if_pos (by omega), if_pos (by omega), if_pos (by omega), if_pos (by omega), if_pos (by omega), succ_cast j (by omega)]
      simp only [rd_T27, Int.toNat_natCast]
      rfl
    by_cases hc : (l.getD j z27).f0.toList = (l.getD i z27).f0.toList
    · refine .inr (ev_step (f := fun _ => some false) (fun k => ?_) (ev_now fun _ => by rw [hd (dup_at hj hi hc)]))
      rw [hs k, if_pos hc]
    · refine .inl ⟨fun q hq => ?_, fun h => ev_step (fun k => by rw [hs k, if_neg hc]) h⟩
      rcases Nat.lt_succ_iff_lt_or_eq.mp hq with h | h
      · exact hI q h
      · rw [h]; exact hc
  · refine ev_step (f := fun k => spec_l10Ok.l0 k l ((i + 1 : Nat) : Int)) (fun k => ?_) (hn (dup_none hi hI))
    simp only [spec_l10Ok.l1]
    rw [if_neg (by omega), succ_cast i (by omega)]
/-- Both find the same lists valid. -/
theorem okCs (l : List S27) (hl : l.length ≤ 1048576) : ∃ v, (v = true → l.length ≤ 10 ∧ ∀ i, i < l.length → InC (l.getD i z27)) ∧ Ev (fun k => spec_l10Ok.f k l) v ∧ Ev (fun k => impl_ValidCanvas.f k l) v := by
  have hone : ∀ x : S27, ∃ v : Bool, (v = true → InC x) ∧ Ev (fun k => spec_l10One.f k x.f0 x.f1 x.f2 x.f3 x.f4) v ∧ Ev (fun k => impl_validCanvas.f k x.f0 x.f1 x.f2 x.f3 x.f4) v := fun x => canvases ..
  obtain ⟨one, hone⟩ := Classical.axiomOfChoice hone
  let good : Nat → Bool := fun i => one (l.getD i z27) && !dup l i
  let v := decide (l.length ≤ 10) && (List.range l.length).all good
  have hbad : ∀ i, i < l.length → good i = false → v = false := by
    intro i hi hg
    show (decide (l.length ≤ 10) && (List.range l.length).all good) = false
    rw [show (List.range l.length).all good = false from ?_, Bool.and_false]
    cases hq : (List.range l.length).all good with
    | false => rfl
    | true => rw [List.all_eq_true.mp hq i (List.mem_range.mpr hi)] at hg; cases hg
  have hend : (∀ i, i < l.length → good i = true) → v = decide (l.length ≤ 10) := by
    intro h
    show (decide (l.length ≤ 10) && (List.range l.length).all good) = _
    rw [show (List.range l.length).all good = true from List.all_eq_true.mpr (fun i hi => h i (List.mem_range.mp hi)), Bool.and_true]
  refine ⟨v, fun hv => ?_, ?_, ?_⟩
  · have hv' : (decide (l.length ≤ 10) && (List.range l.length).all good) = true := hv
    rw [Bool.and_eq_true] at hv'
    refine ⟨of_decide_eq_true hv'.1, fun i hi => (hone _).1 ?_⟩
    have := List.all_eq_true.mp hv'.2 i (List.mem_range.mpr hi)
    simp only [good, Bool.and_eq_true] at this
    exact this.1
  · unfold spec_l10Ok.f
    refine loop_up' (fun k i => spec_l10Ok.l0 k l (i : Int)) l.length v (fun i => ∀ q, q < i → good q = true) (fun i hi hI => ?_) (fun hI => ?_) l.length 0 (by omega) (by omega) (by omega)
    · have hs : ∀ k, spec_l10Ok.l0 (k + 1) l (i : Int) = (spec_l10One.f k (l.getD i z27).f0 (l.getD i z27).f1 (l.getD i z27).f2 (l.getD i z27).f3 (l.getD i z27).f4).bind fun t113 => (if t113 = true then (spec_l10Ok.l1 k l (i : Int) 0) else (some false)) := by
        intro k
        simp only [spec_l10Ok.l0]
        rw [if_pos (by omega), if_pos (by omega)]
        simp only [rd_T27, Int.toNat_natCast]
      cases ho : one (l.getD i z27) with
      | false =>
        refine .inr (ev_step hs (ev_bind (hone _).2.1 ?_))
        rw [ho, hbad i hi (by simp only [good, ho, Bool.false_and])]
        exact ev_now fun _ => rfl
      | true =>
        cases hd : dup l i with
        | true =>
          refine .inr (ev_step hs (ev_bind (hone _).2.1 ?_))
          rw [ho]
          refine ev_if_pos rfl (innerC l i hi hl v (fun _ => hbad i hi (by simp only [good, hd, Bool.not_true, Bool.and_false])) (fun h => by rw [hd] at h; cases h))
        | false =>
          refine .inl ⟨fun q hq => ?_, fun h => ev_step hs (ev_bind (hone _).2.1 ?_)⟩
          · rcases Nat.lt_succ_iff_lt_or_eq.mp hq with h | h
            · exact hI q h
            · rw [h]; simp only [good, ho, hd, Bool.not_false, Bool.and_self]
          · rw [ho]
            exact ev_if_pos rfl (innerC l i hi hl v (fun h => by rw [hd] at h; cases h) (fun _ => h))
    · refine ev_end fun k => ?_
      show spec_l10Ok.l0 (k + 1) l _ = _
      simp only [spec_l10Ok.l0]
      rw [if_neg (by omega), hend hI]
      congr 1
      by_cases h : l.length ≤ 10
      · rw [decide_eq_true h, decide_eq_true (by omega)]
      · rw [decide_eq_false h, decide_eq_false (by omega)]
  · unfold impl_ValidCanvas.f
    by_cases h10 : (l.length : Int) > 10
    · refine ev_if_pos h10 ?_
      have : v = false := by
        show (decide (l.length ≤ 10) && (List.range l.length).all good) = false
        rw [decide_eq_false (by omega), Bool.false_and]
      rw [this]
      exact ev_now fun _ => rfl
    · refine ev_if_neg h10 ?_
      refine loop_up' (fun k i => impl_ValidCanvas.l0 k l l (l.length : Int) (i : Int)) l.length v (fun i => ∀ q, q < i → good q = true) (fun i hi hI => ?_) (fun hI => ?_) l.length 0 (by omega) (by omega) (by omega)
      · have hs : ∀ k, impl_ValidCanvas.l0 (k + 1) l l (l.length : Int) (i : Int) = (impl_validCanvas.f k (l.getD i z27).f0 (l.getD i z27).f1 (l.getD i z27).f2 (l.getD i z27).f3 (l.getD i z27).f4).bind fun t142 => (if t142 = true then ((impl_Canvas_61.f k (l.take i) (l.getD i z27).f0 (l.getD i z27).f1 (l.getD i z27).f2 (l.getD i z27).f3 (l.getD i z27).f4).bind fun t147 => (if t147 = true then (some false) else (impl_ValidCanvas.l0 k l l (l.length : Int) ((i + 1 : Nat) : Int)))) else (some false)) := by
          intro k
          simp only [impl_ValidCanvas.l0]
          rw [if_pos (by omega), if_pos (by omega), if_pos (by omega), if_pos (by omega), succ_cast i (by omega)]
          simp only [rd_T27, Int.toNat_natCast]
        cases ho : one (l.getD i z27) with
        | false =>
          refine .inr (ev_step hs (ev_bind (hone _).2.2 ?_))
          rw [ho, hbad i hi (by simp only [good, ho, Bool.false_and])]
          exact ev_now fun _ => rfl
        | true =>
          cases hd : dup l i with
          | true =>
            refine .inr (ev_step hs (ev_bind (hone _).2.2 ?_))
            rw [ho]
            refine ev_if_pos rfl (ev_bind (indexF l i hi hl _ _ _ _) ?_)
            rw [hd, hbad i hi (by simp only [good, hd, Bool.not_true, Bool.and_false])]
            exact ev_now fun _ => rfl
          | false =>
            refine .inl ⟨fun q hq => ?_, fun h => ev_step hs (ev_bind (hone _).2.2 ?_)⟩
            · rcases Nat.lt_succ_iff_lt_or_eq.mp hq with h | h
              · exact hI q h
              · rw [h]; simp only [good, ho, hd, Bool.not_false, Bool.and_self]
            · rw [ho]
              refine ev_if_pos rfl (ev_bind (indexF l i hi hl _ _ _ _) ?_)
              rw [hd]
              exact ev_if_neg (by decide) h
      · refine ev_end fun k => ?_
        show impl_ValidCanvas.l0 (k + 1) l l _ _ = _
        simp only [impl_ValidCanvas.l0]
        rw [if_neg (by omega), hend hI, decide_eq_true (by omega)]
/-! ### forces, sums, codes -/
def fo (x : S27) (w : Int) : Int := (x.f1 * x.f3 * w * w + 80000) / 160000
theorem fo_prod {x : S27} (h : InC x) {w : Int} (hw : 0 ≤ w ∧ w ≤ 600) : 0 ≤ x.f1 * x.f3 * w * w ∧ x.f1 * x.f3 * w * w ≤ 7200000000000 ∧ 0 ≤ x.f1 * x.f3 ∧ x.f1 * x.f3 ≤ 20000000 ∧ 0 ≤ x.f1 * x.f3 * w ∧ x.f1 * x.f3 * w ≤ 12000000000 := by
  unfold InC at h
  have m1 := mul_bound (a := x.f1) (b := x.f3) (A := 100000) (B := 200) (by omega) (by omega) (by omega) (by omega)
  have m2 := mul_bound (a := x.f1 * x.f3) (b := w) (A := 20000000) (B := 600) (by omega) (by omega) (by omega) (by omega)
  have m3 := mul_bound (a := x.f1 * x.f3 * w) (b := w) (A := 12000000000) (B := 600) (by omega) (by omega) (by omega) (by omega)
  have n0 : 0 ≤ x.f1 * x.f3 := Int.mul_nonneg (by omega) (by omega)
  have n1 : 0 ≤ x.f1 * x.f3 * w := Int.mul_nonneg n0 (by omega)
  have n2 : 0 ≤ x.f1 * x.f3 * w * w := Int.mul_nonneg n1 (by omega)
  omega
theorem fo_bound {x : S27} (h : InC x) {w : Int} (hw : 0 ≤ w ∧ w ≤ 600) : 0 ≤ fo x w ∧ fo x w ≤ 45000000 := by
  have := fo_prod h hw
  unfold fo
  omega
theorem forceOf {x : S27} (h : InC x) {w : Int} (hw : 0 ≤ w ∧ w ≤ 600) : spec_l10Force.f x.f0 x.f1 x.f2 x.f3 x.f4 w = some (fo x w) ∧ impl_windForce.f x.f0 x.f1 x.f2 x.f3 x.f4 w = some (fo x w) := by
  obtain ⟨p0, p1, p2, p3, p4, p5⟩ := fo_prod h hw
  unfold spec_l10Force.f impl_windForce.f spec_l00Round.f spec_l00Floor.f fo
  rw [wrap_in (x := x.f1 * x.f3) (by omega) (by omega), wrap_in (x := x.f1 * x.f3 * w) (by omega) (by omega), wrap_in (x := x.f1 * x.f3 * w * w) (by omega) (by omega)]
  generalize x.f1 * x.f3 * w * w = n at *
  refine ⟨?_, ?_⟩
  · rw [wrap_in (x := 2 * n) (by omega) (by omega), wrap_in (x := 2 * n + 160000) (by omega) (by omega), show wrap64 (2 * 160000) = 320000 from wrap_in (by omega) (by omega)]
    rw [if_neg (by omega), Int.tmod_eq_emod_of_nonneg (by omega), if_neg (by omega), Int.tdiv_eq_ediv_of_nonneg (by omega), wrap_in (by omega) (by omega)]
    simp only [Option.bind_some]
    congr 1
    omega
  · rw [wrap_in (x := n + 80000) (by omega) (by omega), Int.tdiv_eq_ediv_of_nonneg (by omega), wrap_in (by omega) (by omega)]
theorem fo_mono {x : S27} (h : InC x) {v w : Int} (hv : 0 ≤ v) (hvw : v ≤ w) : fo x v ≤ fo x w := by
  unfold InC at h
  have n0 : 0 ≤ x.f1 * x.f3 := Int.mul_nonneg (by omega) (by omega)
  have h1 : x.f1 * x.f3 * v ≤ x.f1 * x.f3 * w := Int.mul_le_mul_of_nonneg_left hvw n0
  have n1 : 0 ≤ x.f1 * x.f3 * v := Int.mul_nonneg n0 hv
  have h2 : x.f1 * x.f3 * v * v ≤ x.f1 * x.f3 * w * w := Int.mul_le_mul h1 hvw hv (by omega)
  unfold fo
  omega
/-- A set of sails: the numbers rise, within the list. -/
def okAt (st : List Int) (n : Int) (i : Nat) : Bool := decide (0 ≤ st.getD i 0 ∧ st.getD i 0 ≤ n - 1) && (decide (i = 0) || decide (st.getD (i - 1) 0 < st.getD i 0))
def riseB (st : List Int) (n : Int) : Bool := (List.range st.length).all (okAt st n)
theorem riseB_bad {st : List Int} {n : Int} {i : Nat} (hi : i < st.length) (h : okAt st n i = false) : riseB st n = false := by
  unfold riseB
  cases hq : (List.range st.length).all (okAt st n) with
  | false => rfl
  | true => rw [List.all_eq_true.mp hq i (List.mem_range.mpr hi)] at h; cases h
theorem riseB_good {st : List Int} {n : Int} (h : ∀ i, i < st.length → okAt st n i = true) : riseB st n = true := List.all_eq_true.mpr (fun i hi => h i (List.mem_range.mp hi))
theorem riseB_at {st : List Int} {n : Int} (h : riseB st n = true) (i : Nat) (hi : i < st.length) : 0 ≤ st.getD i 0 ∧ st.getD i 0 ≤ n - 1 := by
  have := List.all_eq_true.mp h i (List.mem_range.mpr hi)
  unfold okAt at this
  rw [Bool.and_eq_true] at this
  exact of_decide_eq_true this.1
theorem pred_cast (i : Nat) (h0 : 0 < i) (h : i < 9223372036854775807) : wrap64 ((i : Int) - 1) = ((i - 1 : Nat) : Int) := by rw [wrap_in (by omega) (by omega)]; omega
theorem rdN (l : List Int) (i : Nat) : rd l (i : Int) = l.getD i 0 := by simp only [rd, Int.toNat_natCast]
theorem specRises (st : List Int) (n : Int) (hs : st.length ≤ 1048576) : Ev (fun k => spec_l00Rises.f k st 0 (n - 1)) (riseB st n) := by
  unfold spec_l00Rises.f
  refine loop_up' (fun k i => spec_l00Rises.l0 k st 0 (n - 1) (i : Int)) st.length (riseB st n) (fun i => ∀ q, q < i → okAt st n q = true) (fun i hi hI => ?_) (fun hI => ?_) st.length 0 (by omega) (by omega) (by omega)
  · have hs : ∀ k, spec_l00Rises.l0 (k + 1) st 0 (n - 1) (i : Int) = if okAt st n i = true then spec_l00Rises.l0 k st 0 (n - 1) ((i + 1 : Nat) : Int) else some false := by
      intro k
      simp only [spec_l00Rises.l0, specIn, Option.bind_some]
      rw [if_pos (by omega), if_pos (by omega), succ_cast i (by omega), rdN st i]
      by_cases hr : 0 ≤ st.getD i 0 ∧ st.getD i 0 ≤ n - 1
      · rw [decide_eq_true hr, if_pos rfl]
        by_cases h0 : i = 0
        · rw [if_neg (by omega), if_pos]
          unfold okAt; rw [decide_eq_true hr, decide_eq_true h0]; rfl
        · rw [if_pos (by omega), pred_cast i (by omega) (by omega), if_pos (by omega), if_pos (by omega), rdN st (i - 1)]
          by_cases hc : st.getD (i - 1) 0 < st.getD i 0
          · rw [if_neg (by omega), if_pos]
            unfold okAt; rw [decide_eq_true hr, decide_eq_true hc, Bool.or_true]; rfl
          · rw [if_pos (by omega), if_neg]
            unfold okAt; rw [decide_eq_false hc, decide_eq_false h0]; simp
      · rw [decide_eq_false hr, if_neg (by decide), if_neg]
        unfold okAt; rw [decide_eq_false hr]; simp
    cases hc : okAt st n i with
    | true =>
      refine .inl ⟨fun q hq => ?_, fun h => ev_step (fun k => by rw [hs k, if_pos hc]) h⟩
      rcases Nat.lt_succ_iff_lt_or_eq.mp hq with h | h
      · exact hI q h
      · rw [h]; exact hc
    | false => exact .inr (ev_step (f := fun _ => some false) (fun k => by rw [hs k, if_neg (by rw [hc]; decide)]) (ev_now fun _ => by rw [riseB_bad hi hc]))
  · refine ev_end fun k => ?_
    show spec_l00Rises.l0 (k + 1) st 0 (n - 1) _ = _
    simp only [spec_l00Rises.l0]
    rw [if_neg (by omega), riseB_good hI]
def winB (w : Int) : Bool := decide (0 ≤ w ∧ w ≤ 600)
def momB (m : Int) : Bool := decide (0 ≤ m ∧ m ≤ 10000000000)
theorem implSet (l : List S27) (hl : l.length ≤ 10) (st : List Int) (hs : st.length ≤ 1048576) (w m : Int) : Ev (fun k => impl_setCode.l0 k l st w m st (st.length : Int) 0) (if (riseB st l.length && winB w && momB m) = true then 0 else 2) := by
  refine loop_up' (fun k i => impl_setCode.l0 k l st w m st (st.length : Int) (i : Int)) st.length _ (fun i => ∀ q, q < i → okAt st l.length q = true) (fun i hi hI => ?_) (fun hI => ?_) st.length 0 (by omega) (by omega) (by omega)
  · have hs : ∀ k, impl_setCode.l0 (k + 1) l st w m st (st.length : Int) (i : Int) = if okAt st l.length i = true then impl_setCode.l0 k l st w m st (st.length : Int) ((i + 1 : Nat) : Int) else some 2 := by
      intro k
      simp only [impl_setCode.l0, implIn, Option.bind_some]
      rw [if_pos (by omega), if_pos (by omega), if_pos (by omega), succ_cast i (by omega), wrap_in (x := (l.length : Int) - 1) (by omega) (by omega), rdN st i]
      by_cases hr : 0 ≤ st.getD i 0 ∧ st.getD i 0 ≤ (l.length : Int) - 1
      · rw [decide_eq_true hr, if_pos rfl]
        by_cases h0 : i = 0
        · rw [if_neg (by omega), if_pos]
          unfold okAt; rw [decide_eq_true hr, decide_eq_true h0]; rfl
        · rw [if_pos (by omega), pred_cast i (by omega) (by omega), if_pos (by omega), if_pos (by omega), rdN st (i - 1)]
          by_cases hc : st.getD (i - 1) 0 < st.getD i 0
          · rw [if_neg (by omega), if_pos]
            unfold okAt; rw [decide_eq_true hr, decide_eq_true hc, Bool.or_true]; rfl
          · rw [if_pos (by omega), if_neg]
            unfold okAt; rw [decide_eq_false hc, decide_eq_false h0]; simp
      · rw [decide_eq_false hr, if_neg (by decide), if_neg]
        unfold okAt; rw [decide_eq_false hr]; simp
    cases hc : okAt st l.length i with
    | true =>
      refine .inl ⟨fun q hq => ?_, fun h => ev_step (fun k => by rw [hs k, if_pos hc]) h⟩
      rcases Nat.lt_succ_iff_lt_or_eq.mp hq with h | h
      · exact hI q h
      · rw [h]; exact hc
    | false => exact .inr (ev_step (f := fun _ => some 2) (fun k => by rw [hs k, if_neg (by rw [hc]; decide)]) (ev_now fun _ => by rw [riseB_bad hi hc]; rfl))
  · refine ev_end fun k => ?_
    show impl_setCode.l0 (k + 1) l st w m st _ _ = _
    simp only [impl_setCode.l0, implIn, Option.bind_some]
    rw [if_neg (by omega), riseB_good hI]
    unfold winB momB
    by_cases h1 : 0 ≤ w ∧ w ≤ 600 <;> by_cases h2 : 0 ≤ m ∧ m ≤ 10000000000 <;> simp [h1, h2]
/-- Both codes, and what a valid list is. -/
theorem codesW (l : List S27) (hl : l.length ≤ 1048576) (st : List Int) (hs : st.length ≤ 1048576) : ∃ ok : Bool, (ok = true → l.length ≤ 10 ∧ ∀ i, i < l.length → InC (l.getD i z27)) ∧
    (∀ w, Ev (fun k => spec_l10Code.f k l st w) (if ok = true then (if (riseB st l.length && winB w) = true then 0 else 2) else 1)) ∧
    (∀ w m, Ev (fun k => impl_setCode.f k l st w m) (if ok = true then (if (riseB st l.length && winB w && momB m) = true then 0 else 2) else 1)) := by
  obtain ⟨ok, h1, h2, h3⟩ := okCs l hl
  refine ⟨ok, h1, fun w => ?_, fun w m => ?_⟩
  · unfold spec_l10Code.f
    refine ev_bind h2 ?_
    cases ok with
    | false => exact ev_now fun _ => rfl
    | true =>
      have h10 := (h1 rfl).1
      refine ev_if_pos rfl ?_
      rw [if_pos rfl]
      unfold spec_l10Wind.f spec_l10Set.f
      simp only [specIn, Option.bind_some]
      cases hw : winB w with
      | false =>
        unfold winB at hw
        rw [hw, Bool.and_false]
        exact ev_now fun _ => rfl
      | true =>
        unfold winB at hw
        rw [hw, Bool.and_true, wrap_in (x := (l.length : Int) - 1) (by omega) (by omega)]
        refine ev_if_pos rfl (ev_bind (ev_bind (specRises st l.length hs) (ev_now fun _ => rfl)) ?_)
        cases riseB st l.length <;> exact ev_now fun _ => rfl
  · unfold impl_setCode.f
    refine ev_bind h3 ?_
    cases ok with
    | false => exact ev_now fun _ => rfl
    | true =>
      refine ev_if_pos rfl ?_
      rw [if_pos rfl]
      exact implSet l (h1 rfl).1 st hs w m
/-- The i-th sail that is set. -/
def sa (l : List S27) (st : List Int) (i : Nat) : S27 := l.getD (st.getD i 0).toNat z27
def sF (l : List S27) (st : List Int) (w : Int) : Nat → Int
  | 0 => 0
  | i + 1 => sF l st w i + fo (sa l st i) w
def sM (l : List S27) (st : List Int) (w : Int) : Nat → Int
  | 0 => 0
  | i + 1 => sM l st w i + fo (sa l st i) w * (sa l st i).f2
def sB (l : List S27) (st : List Int) (w : Int) : Nat → Bool
  | 0 => true
  | i + 1 => sB l st w i && decide (fo (sa l st i) w ≤ (sa l st i).f4)
/-- What a call with a valid list and set knows. -/
structure Fine (l : List S27) (st : List Int) : Prop where
  len : l.length ≤ 10
  inc : ∀ i, i < l.length → InC (l.getD i z27)
  rise : ∀ i, i < st.length → 0 ≤ st.getD i 0 ∧ st.getD i 0 ≤ (l.length : Int) - 1
  many : st.length ≤ 1048576
theorem Fine.at_ {l : List S27} {st : List Int} (h : Fine l st) (i : Nat) (hi : i < st.length) : InC (sa l st i) := by
  have := h.rise i hi
  exact h.inc _ (by omega)
theorem sum_bound {l : List S27} {st : List Int} (h : Fine l st) {w : Int} (hw : 0 ≤ w ∧ w ≤ 600) : ∀ i, i ≤ st.length → 0 ≤ sF l st w i ∧ sF l st w i ≤ 45000000 * i ∧ 0 ≤ sM l st w i ∧ sM l st w i ≤ 45000000000 * i
  | 0, _ => by simp [sF, sM]
  | i + 1, hi => by
    have ih := sum_bound h hw i (by omega)
    have hx := h.at_ i (by omega)
    have hb := fo_bound hx hw
    have hf2 : 0 ≤ (sa l st i).f2 ∧ (sa l st i).f2 ≤ 1000 := by unfold InC at hx; exact ⟨hx.2.2.1, hx.2.2.2.1⟩
    have n0 : 0 ≤ fo (sa l st i) w * (sa l st i).f2 := Int.mul_nonneg hb.1 hf2.1
    have n1 := mul_bound (a := fo (sa l st i) w) (b := (sa l st i).f2) (A := 45000000) (B := 1000) (by omega) (by omega) (by omega) (by omega)
    simp only [sF, sM]
    omega
theorem implSums {l : List S27} {st : List Int} (h : Fine l st) {w : Int} (hw : 0 ≤ w ∧ w ≤ 600) : Ev (fun k => impl_setSums.f k l st w) (sF l st w st.length, sM l st w st.length, sB l st w st.length) := by
  unfold impl_setSums.f
  refine loop_all (fun k i => impl_setSums.l0 k l w (sF l st w i) (sM l st w i) (sB l st w i) st (st.length : Int) (i : Int)) st.length _ (fun i hi k => ?_) (ev_end fun k => ?_)
  · show impl_setSums.l0 (k + 1) _ _ _ _ _ _ _ _ = impl_setSums.l0 k _ _ _ _ _ _ _ _
    have hm := h.many
    have h10 := h.len
    have hr := h.rise i hi
    have hx := h.at_ i hi
    have hb := fo_bound hx hw
    have hf2 : 0 ≤ (sa l st i).f2 ∧ (sa l st i).f2 ≤ 1000 := by unfold InC at hx; exact ⟨hx.2.2.1, hx.2.2.2.1⟩
    have n0 : 0 ≤ fo (sa l st i) w * (sa l st i).f2 := Int.mul_nonneg hb.1 hf2.1
    have n1 := mul_bound (a := fo (sa l st i) w) (b := (sa l st i).f2) (A := 45000000) (B := 1000) (by omega) (by omega) (by omega) (by omega)
    have ih := sum_bound h hw i (by omega)
    have e : rd_T27 l (rd st (i : Int)) = sa l st i := by simp only [rd_T27, rd, Int.toNat_natCast]; rfl
    have e2 : rd st (i : Int) = st.getD i 0 := by simp only [rd, Int.toNat_natCast]
    simp only [impl_setSums.l0]
    rw [if_pos (by omega), if_pos (by omega), if_pos (by omega), if_pos (by rw [e2]; omega), if_pos (by rw [e2]; omega), e, (forceOf hx hw).2, Option.bind_some, succ_cast i (by omega), wrap_in (x := fo (sa l st i) w * (sa l st i).f2) (by omega) (by omega), wrap_in (x := sF l st w i + fo (sa l st i) w) (by omega) (by omega), wrap_in (x := sM l st w i + fo (sa l st i) w * (sa l st i).f2) (by omega) (by omega)]
    cases hc : sB l st w i with
    | true => rw [if_pos rfl, show sB l st w (i + 1) = decide (fo (sa l st i) w ≤ (sa l st i).f4) by simp only [sB, hc, Bool.true_and]]; rfl
    | false => rw [if_neg (by decide), show sB l st w (i + 1) = false by simp only [sB, hc, Bool.false_and]]; rfl
  · show impl_setSums.l0 (k + 1) _ _ _ _ _ _ _ _ = _
    simp only [impl_setSums.l0]
    rw [if_neg (by omega)]
theorem specTotal {l : List S27} {st : List Int} (h : Fine l st) {w : Int} (hw : 0 ≤ w ∧ w ≤ 600) : Ev (fun k => spec_l10Total.f k l st w) (sF l st w st.length, sM l st w st.length) := by
  unfold spec_l10Total.f
  refine loop_all (fun k i => spec_l10Total.l0 k l st w (sF l st w i) (sM l st w i) (i : Int)) st.length _ (fun i hi k => ?_) (ev_end fun k => ?_)
  · show spec_l10Total.l0 (k + 1) _ _ _ _ _ _ = spec_l10Total.l0 k _ _ _ _ _ _
    have hm := h.many
    have h10 := h.len
    have hr := h.rise i hi
    have hx := h.at_ i hi
    have hb := fo_bound hx hw
    have hf2 : 0 ≤ (sa l st i).f2 ∧ (sa l st i).f2 ≤ 1000 := by unfold InC at hx; exact ⟨hx.2.2.1, hx.2.2.2.1⟩
    have n0 : 0 ≤ fo (sa l st i) w * (sa l st i).f2 := Int.mul_nonneg hb.1 hf2.1
    have n1 := mul_bound (a := fo (sa l st i) w) (b := (sa l st i).f2) (A := 45000000) (B := 1000) (by omega) (by omega) (by omega) (by omega)
    have ih := sum_bound h hw i (by omega)
    have e : rd_T27 l (rd st (i : Int)) = sa l st i := by simp only [rd_T27, rd, Int.toNat_natCast]; rfl
    have e2 : rd st (i : Int) = st.getD i 0 := by simp only [rd, Int.toNat_natCast]
    simp only [spec_l10Total.l0]
    rw [if_pos (by omega), if_pos (by omega), if_pos (by rw [e2]; omega), if_pos (by rw [e2]; omega), e, (forceOf hx hw).1, Option.bind_some, succ_cast i (by omega), wrap_in (x := fo (sa l st i) w * (sa l st i).f2) (by omega) (by omega), wrap_in (x := sF l st w i + fo (sa l st i) w) (by omega) (by omega), wrap_in (x := sM l st w i + fo (sa l st i) w * (sa l st i).f2) (by omega) (by omega)]
    rfl
  · show spec_l10Total.l0 (k + 1) _ _ _ _ _ _ = _
    simp only [spec_l10Total.l0]
    rw [if_neg (by omega)]
/-! ### what stands a wind -/
def stB (l : List S27) (st : List Int) (w m : Int) : Bool := sB l st w st.length && decide (sM l st w st.length ≤ m)
theorem implStands {l : List S27} {st : List Int} (h : Fine l st) {w : Int} (hw : 0 ≤ w ∧ w ≤ 600) (m : Int) : Ev (fun k => impl_standsWind.f k l st w m) (stB l st w m) := by
  unfold impl_standsWind.f stB
  refine ev_bind (implSums h hw) ?_
  cases hb : sB l st w st.length with
  | true => exact ev_if_pos rfl (ev_now fun _ => by rw [Bool.true_and])
  | false => exact ev_if_neg (by simp) (ev_now fun _ => rfl)
theorem sB_bad {l : List S27} {st : List Int} {w : Int} (i : Nat) (h : ¬ fo (sa l st i) w ≤ (sa l st i).f4) : ∀ n, i < n → sB l st w n = false
  | 0, hi => by omega
  | n + 1, hi => by
    simp only [sB]
    rcases Nat.lt_succ_iff_lt_or_eq.mp hi with h2 | h2
    · rw [sB_bad i h n h2, Bool.false_and]
    · rw [← h2, decide_eq_false h, Bool.and_false]
theorem sB_all {l : List S27} {st : List Int} {w : Int} : ∀ n, (∀ i, i < n → fo (sa l st i) w ≤ (sa l st i).f4) → sB l st w n = true
  | 0, _ => rfl
  | n + 1, h => by
    simp only [sB]
    rw [sB_all n (fun i hi => h i (by omega)), decide_eq_true (h n (by omega))]
    rfl
theorem sB_at {l : List S27} {st : List Int} {w : Int} {n : Nat} (h : sB l st w n = true) (i : Nat) (hi : i < n) : fo (sa l st i) w ≤ (sa l st i).f4 := by
  by_cases hc : fo (sa l st i) w ≤ (sa l st i).f4
  · exact hc
  · rw [sB_bad i hc n hi] at h; cases h
theorem sM_mono {l : List S27} {st : List Int} (h : Fine l st) {v w : Int} (hv : 0 ≤ v) (hvw : v ≤ w) : ∀ i, i ≤ st.length → sM l st v i ≤ sM l st w i
  | 0, _ => Int.le_refl _
  | i + 1, hi => by
    have ih := sM_mono h hv hvw i (by omega)
    have hx := h.at_ i (by omega)
    have hf := fo_mono hx hv hvw
    have hf2 : 0 ≤ (sa l st i).f2 := by unfold InC at hx; exact hx.2.2.1
    have := Int.mul_le_mul_of_nonneg_right hf hf2
    simp only [sM]
    omega
/-- Less wind is stood, too. -/
theorem stB_mono {l : List S27} {st : List Int} (h : Fine l st) {v w m : Int} (hv : 0 ≤ v) (hvw : v ≤ w) (hs : stB l st w m = true) : stB l st v m = true := by
  unfold stB at *
  rw [Bool.and_eq_true] at *
  refine ⟨sB_all _ (fun i hi => ?_), decide_eq_true ?_⟩
  · have := sB_at hs.1 i hi
    have := fo_mono (h.at_ i hi) hv hvw
    omega
  · have := of_decide_eq_true hs.2
    have := sM_mono h hv hvw st.length (by omega)
    omega
theorem fo_zero (x : S27) : fo x 0 = 0 := by unfold fo; simp
theorem stB_zero {l : List S27} {st : List Int} (h : Fine l st) {m : Int} (hm : 0 ≤ m) : stB l st 0 m = true := by
  unfold stB
  rw [Bool.and_eq_true]
  refine ⟨sB_all _ (fun i hi => ?_), decide_eq_true ?_⟩
  · rw [fo_zero]
    have := h.at_ i hi
    unfold InC at this
    omega
  · have : ∀ i, sM l st 0 i = 0 := by
      intro i
      induction i with
      | zero => rfl
      | succ i ih => simp only [sM, ih, fo_zero]; simp
    rw [this]
    exact hm
/-- The greatest wind that is stood. -/
theorem top_ex {l : List S27} {st : List Int} (h : Fine l st) {m : Int} (hm : 0 ≤ m) : ∃ t : Nat, t ≤ 600 ∧ (∀ w : Int, 0 ≤ w → w ≤ t → stB l st w m = true) ∧ (∀ w : Int, (t : Int) < w → w ≤ 600 → stB l st w m = false) := by
  have key : ∀ (d : Nat), d ≤ 600 → (∀ w : Int, ((600 - d : Nat) : Int) < w → w ≤ 600 → stB l st w m = false) → ∃ t : Nat, t ≤ 600 ∧ (∀ w : Int, 0 ≤ w → w ≤ t → stB l st w m = true) ∧ (∀ w : Int, (t : Int) < w → w ≤ 600 → stB l st w m = false) := by
    intro d
    suffices ∀ (q d : Nat), 600 - d = q → d ≤ 600 → (∀ w : Int, ((600 - d : Nat) : Int) < w → w ≤ 600 → stB l st w m = false) → ∃ t : Nat, t ≤ 600 ∧ (∀ w : Int, 0 ≤ w → w ≤ t → stB l st w m = true) ∧ (∀ w : Int, (t : Int) < w → w ≤ 600 → stB l st w m = false) from this _ d rfl
    intro q
    induction q with
    | zero =>
      intro d h1 h2 h3
      refine ⟨0, by omega, fun w h4 h5 => ?_, fun w h4 h5 => h3 w (by omega) h5⟩
      obtain rfl : w = 0 := by omega
      exact stB_zero h hm
    | succ q ih =>
      intro d h1 h2 h3
      cases hc : stB l st ((600 - d : Nat) : Int) m with
      | true => exact ⟨600 - d, by omega, fun w h4 h5 => stB_mono h h4 h5 hc, h3⟩
      | false =>
        refine ih (d + 1) (by omega) (by omega) (fun w h4 h5 => ?_)
        by_cases he : w = ((600 - d : Nat) : Int)
        · rw [he]; exact hc
        · exact h3 w (by omega) h5
  exact key 0 (by omega) (fun w h1 h2 => by omega)
/-! ### drawn sails and sets -/
def NM : List ByteArray := ([(⟨#[106, 105, 98]⟩ : ByteArray), (⟨#[99, 111, 117, 114, 115, 101]⟩ : ByteArray), (⟨#[116, 111, 112, 115, 97, 105, 108]⟩ : ByteArray), (⟨#[114, 111, 121, 97, 108]⟩ : ByteArray), (⟨#[115, 112, 97, 110, 107, 101, 114]⟩ : ByteArray), (⟨#[115, 116, 97, 121, 45, 50]⟩ : ByteArray)] : List ByteArray)
def nm (i : Nat) : ByteArray := NM.getD i ByteArray.empty
theorem ev_unique {α : Type} {g : Nat → Option α} {a b : α} (h1 : Ev g a) (h2 : Ev g b) : a = b := by
  obtain ⟨K, h1⟩ := h1
  obtain ⟨L, h2⟩ := h2
  have e1 := h1 (max K L) (by omega)
  have e2 := h2 (max K L) (by omega)
  rw [e1] at e2
  exact Option.some.inj e2
theorem nm_impl : ∀ i, i < 6 → Ev (fun k => impl_IsName.f k (nm i)) true := by
  intro i hi
  have h : ∀ j, j < 6 → impl_IsName.f 20 (nm j) = some true := by decide +kernel
  exact Ev.of (fun k => impl_IsName.mono _ k) (h i hi)
theorem nm_spec (i : Nat) (hi : i < 6) : Ev (fun k => spec_IsName.f k (nm i)) true := by
  obtain ⟨b, h1, h2⟩ := names (nm i)
  rw [ev_unique (nm_impl i hi) h2]
  exact h1
theorem tl_step (s : ByteArray) (i : Nat) (r : List UInt8) (h : i < s.size) : ByteArray.toList.loop s i r = ByteArray.toList.loop s (i + 1) (s.get! i :: r) := by rw [ByteArray.toList.loop, if_pos h]
theorem tl_end (s : ByteArray) (i : Nat) (r : List UInt8) (h : ¬ i < s.size) : ByteArray.toList.loop s i r = r.reverse := by rw [ByteArray.toList.loop, if_neg h]
def nmL (i : Nat) : List UInt8 := [[106, 105, 98], [99, 111, 117, 114, 115, 101], [116, 111, 112, 115, 97, 105, 108], [114, 111, 121, 97, 108], [115, 112, 97, 110, 107, 101, 114], [115, 116, 97, 121, 45, 50]].getD i []
theorem tl_loop (s : ByteArray) : ∀ (m i : Nat) (r : List UInt8), s.size - i = m → i ≤ s.size → ByteArray.toList.loop s i r = r.reverse ++ (s.data.toList.drop i) := by
  intro m
  induction m with
  | zero =>
    intro i r h1 h2
    rw [tl_end s i r (by omega), List.drop_eq_nil_of_le (by rw [data_length]; omega)]
    simp
  | succ m ih =>
    intro i r h1 h2
    have hi : i < s.data.toList.length := by rw [data_length]; omega
    rw [tl_step s i r (by omega), ih (i + 1) _ (by omega) (by omega), List.drop_eq_getElem_cons hi]
    have e : s.get! i = s.data.toList[i] := by
      have h3 : i < s.data.size := by rw [Array.length_toList] at hi; exact hi
      show s.data[i]! = _
      rw [getElem!_pos s.data i h3]
      simp
    rw [e]
    simp
theorem tl_data (s : ByteArray) : s.toList = s.data.toList := by
  unfold ByteArray.toList
  rw [tl_loop s s.size 0 [] (by omega) (by omega)]
  simp
theorem nm_tl : ∀ i, i < 6 → (nm i).toList = nmL i := by
  intro i hi
  rw [tl_data]
  have h : ∀ j, j < 6 → (nm j).data.toList = nmL j := by decide
  exact h i hi
theorem nm_ne (i j : Nat) (hi : i < 6) (hj : j < i) : ¬ (nm j).toList = (nm i).toList := by
  rw [nm_tl i hi, nm_tl j (by omega)]
  have h : ∀ a, a < 6 → ∀ b, b < a → ¬ nmL b = nmL a := by decide
  exact h i hi j hj
/-- Drawn sails: the names in their order, and numbers within bounds. -/
def Sm (x : S27) : Prop := x.f1 ≤ 6000 ∧ x.f2 ≤ 290 ∧ x.f3 ≤ 150
def Drawn (l : List S27) : Prop := l.length ≤ 6 ∧ ∀ i, i < l.length → (l.getD i z27).f0 = nm i ∧ InC (l.getD i z27) ∧ Sm (l.getD i z27)
theorem drawn_dup {l : List S27} (h : Drawn l) (i : Nat) (hi : i < l.length) : dup l i = false := by
  refine dup_none hi (fun j hj => ?_)
  have hl := h.1
  rw [(h.2 i hi).1, (h.2 j (by omega)).1]
  exact nm_ne i j (by omega) hj
theorem oneImpl {x : S27} {i : Nat} (hi : i < 6) (hn : x.f0 = nm i) (h : InC x) : Ev (fun k => impl_validCanvas.f k x.f0 x.f1 x.f2 x.f3 x.f4) true := by
  unfold impl_validCanvas.f
  unfold InC at h
  rw [hn]
  refine ev_bind (nm_impl i hi) (ev_if_pos rfl (ev_now fun _ => ?_))
  simp only [implIn, Option.bind_some]
  rw [decide_eq_true (p := 1 ≤ x.f1 ∧ x.f1 ≤ 100000) (by omega), decide_eq_true (p := 0 ≤ x.f2 ∧ x.f2 ≤ 1000) (by omega), decide_eq_true (p := 1 ≤ x.f3 ∧ x.f3 ≤ 200) (by omega), decide_eq_true (p := 1 ≤ x.f4 ∧ x.f4 ≤ 1000000000) (by omega)]
  rfl
theorem validI {l : List S27} (h : Drawn l) : Ev (fun k => impl_ValidCanvas.f k l) true := by
  have hl := h.1
  unfold impl_ValidCanvas.f
  refine ev_if_neg (by omega) ?_
  refine loop_up' (fun k i => impl_ValidCanvas.l0 k l l (l.length : Int) (i : Int)) l.length true (fun _ => True) (fun i hi _ => .inl ⟨trivial, fun g => ?_⟩) (fun _ => ?_) l.length 0 (by omega) (by omega) trivial
  · have hs : ∀ k, impl_ValidCanvas.l0 (k + 1) l l (l.length : Int) (i : Int) = (impl_validCanvas.f k (l.getD i z27).f0 (l.getD i z27).f1 (l.getD i z27).f2 (l.getD i z27).f3 (l.getD i z27).f4).bind fun t142 => (if t142 = true then ((impl_Canvas_61.f k (l.take i) (l.getD i z27).f0 (l.getD i z27).f1 (l.getD i z27).f2 (l.getD i z27).f3 (l.getD i z27).f4).bind fun t147 => (if t147 = true then (some false) else (impl_ValidCanvas.l0 k l l (l.length : Int) ((i + 1 : Nat) : Int)))) else (some false)) := by
      intro k
      simp only [impl_ValidCanvas.l0]
      rw [if_pos (by omega), if_pos (by omega), if_pos (by omega), if_pos (by omega), succ_cast i (by omega)]
      simp only [rd_T27, Int.toNat_natCast]
    have hx := h.2 i hi
    refine ev_step hs (ev_bind (oneImpl (by omega) hx.1 hx.2.1) (ev_if_pos rfl (ev_bind (indexF l i hi (by omega) _ _ _ _) ?_)))
    rw [drawn_dup h i hi]
    exact ev_if_neg (by decide) g
  · refine ev_end fun k => ?_
    show impl_ValidCanvas.l0 (k + 1) l l _ _ = _
    simp only [impl_ValidCanvas.l0]
    rw [if_neg (by omega)]
theorem newC {c : List Int} (h : bytes c) (n : ByteArray) (a s : Int) (h0 : 0 ≤ a) (h1 : a ≤ 100000000) : ∃ x : S27, ∃ a' s', spec_l10New.f c a s n = some (n, x.f1, x.f2, x.f3, x.f4, a', s') ∧ x.f0 = n ∧ (InC x ∧ Sm x) ∧ a ≤ a' ∧ a' ≤ a + 8 := by
  obtain ⟨v1, a1, s1, e1, b1, b1', c1, c1'⟩ := pick_ok h a s 60 h0 (by omega)
  obtain ⟨v2, a2, s2, e2, b2, b2', c2, c2'⟩ := pick_ok h a1 s1 30 (by omega) (by omega)
  obtain ⟨v3, a3, s3, e3, b3, b3', c3, c3'⟩ := pick_ok h a2 s2 10 (by omega) (by omega)
  obtain ⟨v4, a4, s4, e4, b4, b4', c4, c4'⟩ := pick_ok h a3 s3 90 (by omega) (by omega)
  refine ⟨⟨n, 100 * (1 + v1), 10 * v2, 60 + 10 * v3, 1000 * (1 + v4)⟩, a4, s4, ?_, rfl, ?_, by omega, by omega⟩
  · unfold spec_l10New.f
    rw [e1]
    simp only [Option.bind_some]
    rw [e2]
    simp only [Option.bind_some]
    rw [e3]
    simp only [Option.bind_some]
    rw [e4]
    simp only [Option.bind_some]
    rw [wrap_in (x := 1 + v1) (by omega) (by omega), wrap_in (x := 100 * (1 + v1)) (by omega) (by omega), wrap_in (x := 10 * v2) (by omega) (by omega), wrap_in (x := 10 * v3) (by omega) (by omega), wrap_in (x := 60 + 10 * v3) (by omega) (by omega), wrap_in (x := 1 + v4) (by omega) (by omega), wrap_in (x := 1000 * (1 + v4)) (by omega) (by omega)]
  · unfold InC Sm
    simp only
    omega
theorem getD_app {α : Type} (l : List α) (x z : α) (i : Nat) : (l ++ [x]).getD i z = if i < l.length then l.getD i z else if i = l.length then x else z := by
  simp only [List.getD_eq_getElem?_getD]
  by_cases h : i < l.length
  · rw [if_pos h, List.getElem?_append_left h]
  · rw [if_neg h]
    by_cases h2 : i = l.length
    · rw [if_pos h2, h2]; simp
    · rw [if_neg h2, List.getElem?_eq_none (by simp; omega)]; rfl
theorem drawLoop {c : List Int} (h : bytes c) : ∀ (m : Nat) (x4 : List S27) (a s : Int), x4.length + m ≤ 6 → Drawn x4 → 0 ≤ a → a + 8 * m ≤ 1000 →
    ∃ r a' s', Ev (fun k => spec_l10Draw.l0 k NM x4 (m : Int) c a s) (r, a', s') ∧ Drawn r := by
  intro m
  induction m with
  | zero =>
    intro x4 a s h1 h2 h3 h4
    refine ⟨x4, a, s, ev_end fun k => ?_, h2⟩
    simp only [spec_l10Draw.l0]
    rw [if_neg (by omega)]
  | succ m ih =>
    intro x4 a s h1 h2 h3 h4
    obtain ⟨x, a', s', e, hn, hx, b1, b2⟩ := newC h (nm x4.length) a s h3 (by omega)
    have hd : Drawn (x4 ++ [x]) := by
      refine ⟨by rw [List.length_append]; simp; omega, fun i hi => ?_⟩
      rw [List.length_append, List.length_singleton] at hi
      rw [getD_app]
      by_cases hc : i < x4.length
      · rw [if_pos hc]; exact h2.2 i hc
      · rw [if_neg hc, if_pos (by omega)]
        have : i = x4.length := by omega
        rw [this]
        exact ⟨hn, hx⟩
    obtain ⟨r, a2, s2, h5, h6⟩ := ih (x4 ++ [x]) a' s' (by rw [List.length_append]; simp; omega) hd (by omega) (by omega)
    refine ⟨r, a2, s2, ev_step (fun k => ?_) h5, h6⟩
    simp only [spec_l10Draw.l0]
    have hl6 : NM.length = 6 := rfl
    rw [if_pos (by omega), if_pos (by omega), if_pos (by rw [hl6]; omega), show rdOf ByteArray.empty NM (x4.length : Int) = nm x4.length by simp only [rdOf, Int.toNat_natCast]; rfl, e]
    simp only [Option.bind_some]
    rw [if_pos (by omega), wrap_in (x := ((m + 1 : Nat) : Int) - 1) (by omega) (by omega), show ((m + 1 : Nat) : Int) - 1 = (m : Int) by omega, ← hn]
theorem canvasDraw {c : List Int} (h : bytes c) : ∃ l, Ev (fun k => spec_A2Canvas.f k c) l ∧ Drawn l := by
  obtain ⟨v, a, s, e, b1, b2, c1, c2⟩ := pick_ok h 0 0 7 (by omega) (by omega)
  obtain ⟨n, rfl⟩ := Int.eq_ofNat_of_zero_le b1
  obtain ⟨r, a', s', h1, h2⟩ := drawLoop h n [] a s (by simp; omega) ⟨by simp, fun i hi => by simp at hi⟩ (by omega) (by omega)
  refine ⟨r, ?_, h2⟩
  unfold spec_A2Canvas.f spec_l00From.f spec_l10Draw.f
  refine ev_some (ev_bind (a := (r, a', s')) ?_ (ev_now fun _ => rfl))
  refine ev_congr (fun k => ?_) h1
  show (spec_l00Src_pick.f c 0 0 7).bind _ = _
  rw [e]
  rfl
/-- A drawn set: the numbers rise, within the list. -/
def Rs (st : List Int) (n : Int) : Prop := (∀ q, q < st.length → 0 ≤ st.getD q 0 ∧ st.getD q 0 ≤ n - 1) ∧ ∀ q, 0 < q → q < st.length → st.getD (q - 1) 0 < st.getD q 0
theorem rs_rise {st : List Int} {n : Int} (h : Rs st n) : riseB st n = true := by
  refine riseB_good (fun i hi => ?_)
  unfold okAt
  rw [decide_eq_true (h.1 i hi), Bool.true_and]
  by_cases h0 : i = 0
  · rw [decide_eq_true h0]; rfl
  · rw [decide_eq_true (h.2 i (by omega) hi), Bool.or_true]
theorem setLoop {c : List Int} (h : bytes c) (n : Nat) (hn : n ≤ 6) : ∀ (m i : Nat) (st : List Int) (a s : Int), n - i = m → i ≤ n → Rs st i → st.length ≤ i → 0 ≤ a → a + 2 * m ≤ 1000 →
    ∃ r, Ev (fun k => spec_A2Some.l0 k (n : Int) st (i : Int) c a s) r ∧ Rs r n ∧ r.length ≤ 6 := by
  intro m
  induction m with
  | zero =>
    intro i st a s h1 h2 h3 h4 h5 h6
    obtain rfl : i = n := by omega
    refine ⟨st, ev_end fun k => ?_, h3, by omega⟩
    simp only [spec_A2Some.l0]
    rw [if_neg (by omega)]
  | succ m ih =>
    intro i st a s h1 h2 h3 h4 h5 h6
    obtain ⟨v, a', s', e, b1, b2, c1, c2⟩ := pick_ok h a s 2 h5 (by omega)
    have hw : Rs st ((i + 1 : Nat) : Int) := ⟨fun q hq => by have := h3.1 q hq; omega, h3.2⟩
    have ho : spec_l00Src_one.f c a s 2 = some (v == 0, a', s') := by
      unfold spec_l00Src_one.f
      rw [e]
      rfl
    by_cases hv : (v == 0) = true
    · have hr : Rs (st ++ [(i : Int)]) ((i + 1 : Nat) : Int) := by
        refine ⟨fun q hq => ?_, fun q hq0 hq => ?_⟩
        · rw [List.length_append, List.length_singleton] at hq
          rw [getD_app]
          by_cases hc : q < st.length
          · rw [if_pos hc]; exact hw.1 q hc
          · rw [if_neg hc, if_pos (by omega)]; omega
        · rw [List.length_append, List.length_singleton] at hq
          rw [getD_app, getD_app]
          by_cases hc : q < st.length
          · rw [if_pos hc, if_pos (by omega)]; exact hw.2 q hq0 hc
          · rw [if_neg hc, if_pos (by omega), if_pos (show q = st.length by omega)]
            have := h3.1 (q - 1) (by omega)
            omega
      obtain ⟨r, h7, h8, h9⟩ := ih (i + 1) (st ++ [(i : Int)]) a' s' (by omega) (by omega) hr (by rw [List.length_append]; simp; omega) (by omega) (by omega)
      refine ⟨r, ev_step (fun k => ?_) h7, h8, h9⟩
      simp only [spec_A2Some.l0]
      rw [if_pos (by omega), ho]
      simp only [Option.bind_some]
      rw [if_pos hv, if_pos (by omega), succ_cast i (by omega)]
    · obtain ⟨r, h7, h8, h9⟩ := ih (i + 1) st a' s' (by omega) (by omega) hw (by omega) (by omega) (by omega)
      refine ⟨r, ev_step (fun k => ?_) h7, h8, h9⟩
      simp only [spec_A2Some.l0]
      rw [if_pos (by omega), ho]
      simp only [Option.bind_some]
      rw [if_neg hv, succ_cast i (by omega)]
theorem setDraw {c : List Int} (h : bytes c) (n : Nat) (hn : n ≤ 6) : ∃ r, Ev (fun k => spec_A2Some.f k c (n : Int)) r ∧ Rs r n ∧ r.length ≤ 6 := by
  obtain ⟨r, h1, h2⟩ := setLoop h n hn n 0 [] 0 0 (by omega) (by omega) ⟨fun q hq => by simp at hq, fun q _ hq => by simp at hq⟩ (by simp) (by omega) (by omega)
  exact ⟨r, by unfold spec_A2Some.f spec_l00From.f; exact ev_some h1, h2⟩
theorem atDraw {c : List Int} (h : bytes c) (i n : Nat) (hn : 1 ≤ n) (hn2 : n ≤ 250) : ∃ w : Int, laws_a2At.f c (i : Int) (n : Int) = some w ∧ 0 ≤ w ∧ w < n := by
  unfold laws_a2At.f
  by_cases h1 : (i : Int) ≥ (c.length : Int)
  · exact ⟨0, if_pos h1, by omega, by omega⟩
  · rw [if_neg h1, if_neg (by omega), if_pos (by omega), if_pos (by omega), if_neg (by omega)]
    have hb := rd_byte h (i : Int) (by omega) (by omega)
    rw [wrap_in (x := rd c (i : Int)) (by omega) (by omega)]
    have m1 := Int.tmod_nonneg (n : Int) hb.1
    have m2 := Int.tmod_lt_of_pos (rd c (i : Int)) (show (0 : Int) < n by omega)
    exact ⟨_, rfl, m1, m2⟩
theorem ev_succ {α : Type} {g : Nat → Option α} {r : α} (h : Ev (fun k => g (k + 1)) r) : Ev g r := Ev.step (fun _ => rfl) h
theorem fineOf {l : List S27} {st : List Int} (hd : Drawn l) (hr : Rs st l.length) (hs : st.length ≤ 6) : Fine l st := ⟨by have := hd.1; omega, fun i hi => (hd.2 i hi).2.1, hr.1, by omega⟩
theorem codeI {l : List S27} {st : List Int} (hd : Drawn l) (hr : Rs st l.length) (hs : st.length ≤ 6) {w m : Int} (hw : 0 ≤ w ∧ w ≤ 600) (hm : 0 ≤ m ∧ m ≤ 10000000000) : Ev (fun k => impl_setCode.f k l st w m) 0 := by
  unfold impl_setCode.f
  refine ev_bind (validI hd) (ev_if_pos rfl (ev_eq (implSet l (by have := hd.1; omega) st (by omega) w m) ?_))
  rw [rs_rise hr, show winB w = true from decide_eq_true hw, show momB m = true from decide_eq_true hm]
  rfl
theorem oneSpec {x : S27} {i : Nat} (hi : i < 6) (hn : x.f0 = nm i) (h : InC x) : Ev (fun k => spec_l10One.f k x.f0 x.f1 x.f2 x.f3 x.f4) true := by
  unfold spec_l10One.f
  unfold InC at h
  rw [hn]
  refine ev_bind (nm_spec i hi) (ev_if_pos rfl (ev_now fun _ => ?_))
  simp only [specIn, Option.bind_some]
  rw [decide_eq_true (p := 1 ≤ x.f1 ∧ x.f1 ≤ 100000) (by omega), decide_eq_true (p := 0 ≤ x.f2 ∧ x.f2 ≤ 1000) (by omega), decide_eq_true (p := 1 ≤ x.f3 ∧ x.f3 ≤ 200) (by omega), decide_eq_true (p := 1 ≤ x.f4 ∧ x.f4 ≤ 1000000000) (by omega)]
  rfl
theorem windS {x : S27} {i : Nat} (hi : i < 6) (hn : x.f0 = nm i) (h : InC x) {w : Int} (hw : 0 ≤ w ∧ w ≤ 600) : Ev (fun k => spec_WindForce.f k x.f0 x.f1 x.f2 x.f3 x.f4 w) (fo x w, 0) := by
  unfold spec_WindForce.f spec_l10Wind.f
  refine ev_bind (oneSpec hi hn h) (ev_if_pos rfl (ev_now fun _ => ?_))
  rw [specIn, decide_eq_true hw, Option.bind_some, Option.bind_some, if_pos rfl, (forceOf h hw).1]
  rfl
theorem named {l : List S27} {st : List Int} (hd : Drawn l) (hr : Rs st l.length) (i : Nat) (hi : i < st.length) : (st.getD i 0).toNat < 6 ∧ (sa l st i).f0 = nm (st.getD i 0).toNat ∧ InC (sa l st i) ∧ Sm (sa l st i) := by
  have h1 := hr.1 i hi
  have h2 := hd.1
  exact ⟨by omega, hd.2 _ (by omega)⟩
theorem standsA {l : List S27} {st : List Int} (hd : Drawn l) (hr : Rs st l.length) (hs : st.length ≤ 6) {w : Int} (hw : 0 ≤ w ∧ w ≤ 600) (m : Int) : Ev (fun k => laws_a2Stands.f k l st w m) (stB l st w m) := by
  unfold laws_a2Stands.f
  have h := fineOf hd hr hs
  have h10 := h.len
  refine loop_up' (fun k i => laws_a2Stands.l0 k l st w m (sM l st w i) (i : Int)) st.length _ (fun i => ∀ q, q < i → fo (sa l st q) w ≤ (sa l st q).f4) (fun i hi hI => ?_) (fun hI => ?_) st.length 0 (by omega) (by omega) (by omega)
  · have hq := h.rise i hi
    obtain ⟨n1, n2, hx, hsm⟩ := named hd hr i hi
    have e : rd_T27 l (rd st (i : Int)) = sa l st i := by simp only [rd_T27, rd, Int.toNat_natCast]; rfl
    have hb := fo_bound hx hw
    have hf2 : 0 ≤ (sa l st i).f2 ∧ (sa l st i).f2 ≤ 1000 := by unfold InC at hx; exact ⟨hx.2.2.1, hx.2.2.2.1⟩
    have p0 : 0 ≤ fo (sa l st i) w * (sa l st i).f2 := Int.mul_nonneg hb.1 hf2.1
    have p1 := mul_bound (a := fo (sa l st i) w) (b := (sa l st i).f2) (A := 45000000) (B := 1000) (by omega) (by omega) (by omega) (by omega)
    have ih := sum_bound h hw i (by omega)
    have hst : ∀ k, laws_a2Stands.l0 (k + 1) l st w m (sM l st w i) (i : Int) = (spec_WindForce.f k (sa l st i).f0 (sa l st i).f1 (sa l st i).f2 (sa l st i).f3 (sa l st i).f4 w).bind fun bt238 => (if bt238.1 > (sa l st i).f4 then (some false) else (laws_a2Stands.l0 k l st w m (wrap64 (sM l st w i + (wrap64 (bt238.1 * (sa l st i).f2)))) ((i + 1 : Nat) : Int))) := by
      intro k
      simp only [laws_a2Stands.l0]
      rw [e, if_pos (by omega), if_pos (by omega), if_pos (by rw [rdN]; omega), if_pos (by rw [rdN]; omega), succ_cast i (by omega)]
    by_cases hc : fo (sa l st i) w ≤ (sa l st i).f4
    · refine .inl ⟨fun q hq => ?_, fun g => ev_step hst (ev_bind (windS n1 n2 hx hw) (ev_if_neg (by show ¬ fo (sa l st i) w > _; omega) ?_))⟩
      · rcases Nat.lt_succ_iff_lt_or_eq.mp hq with h | h
        · exact hI q h
        · rw [h]; exact hc
      · refine ev_congr (fun k => ?_) g
        show laws_a2Stands.l0 k l st w m (wrap64 (sM l st w i + (wrap64 (fo (sa l st i) w * (sa l st i).f2)))) _ = _
        rw [wrap_in (x := fo (sa l st i) w * (sa l st i).f2) (by omega) (by omega), wrap_in (x := sM l st w i + fo (sa l st i) w * (sa l st i).f2) (by omega) (by omega)]
        rfl
    · refine .inr (ev_step hst (ev_bind (windS n1 n2 hx hw) (ev_if_pos (by show fo (sa l st i) w > _; omega) (ev_now fun _ => ?_))))
      unfold stB
      rw [sB_bad i hc _ hi, Bool.false_and]
  · refine ev_end fun k => ?_
    show laws_a2Stands.l0 (k + 1) l st w m _ _ = _
    simp only [laws_a2Stands.l0]
    rw [if_neg (by omega)]
    unfold stB
    rw [sB_all _ hI, Bool.true_and]
theorem frac {n d : Int} (h0 : -9223372036854775807 ≤ n) (h1 : n ≤ 9223372036854775807) (h2 : 0 < d) (h3 : d ≤ 9223372036854775807) : Ev (fun k => impl_fraction.f k n d) (lowest n d) := by
  have := fraction_ev impl_gcd.l0 impl_gcd.j0 impl_gcd.f impl_fraction.f (fun _ _ _ => by simp only [impl_gcd.l0]) (fun _ _ _ => by simp only [impl_gcd.j0]) (fun _ _ _ => rfl) (fun _ _ _ => rfl) (n := n) (d := d) h0 h1 (by omega) (by omega) h3
  rwa [if_neg (by omega)] at this
/-! ### winds and gusts -/
def okW (l : List Int) : Bool := l.all (fun x => decide (0 ≤ x ∧ x ≤ 600)) && decide (1 ≤ (l.length : Int) ∧ (l.length : Int) ≤ 40)
theorem implWinds (l : List Int) (hl : l.length < 9223372036854775807) : Ev (fun k => impl_areWinds.f k l) (okW l) := by
  unfold impl_areWinds.f
  have hj : ∀ b, (b = true → okW l = false) → (b = false → 1 ≤ (l.length : Int) ∧ (l.length : Int) ≤ 40) → Ev (fun k => impl_areWinds.j0 k l b) (okW l) := by
    intro b hb1 hb2
    cases b with
    | true => rw [hb1 rfl]; exact ev_end fun k => rfl
    | false =>
      refine ev_step (f := fun k => impl_areWinds.l0 k l (l.length : Int) 0) (fun k => rfl) ?_
      have := all_loop 0 (fun x => decide (0 ≤ x ∧ x ≤ 600)) (fun _ x => impl_within.f x 0 600) (fun k x5 => impl_areWinds.l0 k l (l.length : Int) x5) l hl (fun x _ => ev_now fun _ => implIn x 0 600) (fun _ _ => rfl)
      refine ev_eq this ?_
      have h := hb2 rfl
      simp only [okW, h, and_self, decide_true, Bool.and_true]
  by_cases h1 : (l.length : Int) < 1
  · refine ev_if_pos h1 (hj true (fun _ => ?_) (fun h => by cases h))
    unfold okW; rw [decide_eq_false (p := 1 ≤ (l.length : Int) ∧ (l.length : Int) ≤ 40) (by omega), Bool.and_false]
  · refine ev_if_neg h1 (hj _ (fun h => ?_) (fun h => ?_))
    · have := of_decide_eq_true h
      unfold okW; rw [decide_eq_false (p := 1 ≤ (l.length : Int) ∧ (l.length : Int) ≤ 40) (by omega), Bool.and_false]
    · have := of_decide_eq_false h
      omega
theorem okW_of {l : List Int} (h : okW l = true) : (∀ i, i < l.length → 0 ≤ l.getD i 0 ∧ l.getD i 0 ≤ 600) ∧ 1 ≤ l.length ∧ l.length ≤ 40 := by
  unfold okW at h
  simp only [Bool.and_eq_true, List.all_eq_true, decide_eq_true_eq] at h
  exact ⟨fun i hi => h.1 _ (mem_getD l 0 i hi), by omega, by omega⟩
def sumW (l : List Int) : Nat → Int
  | 0 => 0
  | i + 1 => sumW l i + l.getD i 0
def maxW (l : List Int) : Nat → Int
  | 0 => 0
  | i + 1 => mx (maxW l i) (l.getD i 0)
theorem mx_ge (a b : Int) : a ≤ mx a b ∧ b ≤ mx a b ∧ (mx a b = a ∨ mx a b = b) := by unfold mx; split <;> omega
theorem specMax (a b : Int) : spec_l00Max.f a b = some (mx a b) := by
  unfold spec_l00Max.f mx
  by_cases hc : a > b
  · rw [if_pos hc, if_neg (by omega)]
  · rw [if_neg hc]
    by_cases h2 : a < b
    · rw [if_pos h2]
    · rw [if_neg h2]; congr 1; omega
theorem sumW_bound {l : List Int} (h : ∀ i, i < l.length → 0 ≤ l.getD i 0 ∧ l.getD i 0 ≤ 600) : ∀ i, i ≤ l.length → 0 ≤ sumW l i ∧ sumW l i ≤ 600 * i
  | 0, _ => by simp [sumW]
  | i + 1, hi => by
    have := sumW_bound h i (by omega)
    have h2 := h i (by omega)
    simp only [sumW]
    omega
theorem maxW_bound {l : List Int} (h : ∀ i, i < l.length → 0 ≤ l.getD i 0 ∧ l.getD i 0 ≤ 600) : ∀ i, i ≤ l.length → 0 ≤ maxW l i ∧ maxW l i ≤ 600 ∧ (maxW l i = 0 ↔ sumW l i = 0) ∧ sumW l i ≤ maxW l i * i ∧ maxW l i ≤ sumW l i
  | 0, _ => by simp [maxW, sumW]
  | i + 1, hi => by
    obtain ⟨h1, h2, h3, h4, h6⟩ := maxW_bound h i (by omega)
    have h0 := h i (by omega)
    have hs := sumW_bound h i (by omega)
    obtain ⟨g1, g2, g3⟩ := mx_ge (maxW l i) (l.getD i 0)
    have h5 : maxW l i * (i : Int) ≤ mx (maxW l i) (l.getD i 0) * (i : Int) := Int.mul_le_mul_of_nonneg_right g1 (by omega)
    simp only [maxW, sumW]
    refine ⟨by omega, by omega, ⟨fun h => by omega, fun h => by omega⟩, ?_, by omega⟩
    rw [Int.natCast_add, Int.natCast_one, Int.mul_add, Int.mul_one]
    omega
theorem sliceMax (l : List Int) (h1 : 1 ≤ l.length) (hl : l.length ≤ 40) (h : ∀ i, i < l.length → 0 ≤ l.getD i 0 ∧ l.getD i 0 ≤ 600) : Ev (fun k => slices_Max_int64_int64.f k l) (maxW l l.length) := by
  unfold slices_Max_int64_int64.f
  refine ev_if_neg (by omega) (ev_if_pos (by omega) ?_)
  have key := loop_all (fun k i => slices_Max_int64_int64.l0 k l (maxW l (i + 1)) ((i + 1 : Nat) : Int)) (l.length - 1) (maxW l l.length) (fun i hi k => ?_) (ev_end fun k => ?_)
  · have e : maxW l 1 = rd l 0 := by
      have := h 0 (by omega)
      show mx 0 (l.getD 0 0) = l.getD 0 0
      have := mx_ge 0 (l.getD 0 0)
      omega
    simpa [e] using key
  · show slices_Max_int64_int64.l0 (k + 1) _ _ _ = slices_Max_int64_int64.l0 k _ _ _
    simp only [slices_Max_int64_int64.l0]
    rw [if_pos (by omega), if_pos (by omega), succ_cast (i + 1) (by omega)]
    simp only [rd, Int.toNat_natCast]
    rfl
  · show slices_Max_int64_int64.l0 (k + 1) _ _ _ = _
    simp only [slices_Max_int64_int64.l0]
    rw [if_neg (by omega)]
    rw [show l.length - 1 + 1 = l.length by omega]
/-- The factor, or the code. -/
def gustOf (l : List Int) : Int × Int × Int := if okW l = true then (if sumW l l.length = 0 then (0, 0, 3) else ((lowest (maxW l l.length * l.length) (sumW l l.length)).1, (lowest (maxW l l.length * l.length) (sumW l l.length)).2, 0)) else (0, 0, 2)
theorem implGust (l : List Int) (hl : l.length ≤ 1048576) : Ev (fun k => impl_GustFactor.f k l) (gustOf l) := by
  unfold impl_GustFactor.f gustOf
  refine ev_bind (implWinds l (by omega)) ?_
  cases hok : okW l with
  | false => exact ev_now fun _ => rfl
  | true =>
    obtain ⟨hw, h1, h2⟩ := okW_of hok
    refine ev_if_pos rfl ?_
    rw [if_pos rfl]
    have hs := sumW_bound hw l.length (by omega)
    have hm := maxW_bound hw l.length (by omega)
    refine loop_all (fun k i => impl_GustFactor.l0 k l (sumW l i) l (l.length : Int) (i : Int)) l.length _ (fun i hi k => ?_) ?_
    · show impl_GustFactor.l0 (k + 1) _ _ _ _ _ = impl_GustFactor.l0 k _ _ _ _ _
      have b1 := sumW_bound hw i (by omega)
      have b2 := hw i hi
      simp only [impl_GustFactor.l0]
      rw [if_pos (by omega), if_pos (by omega), if_pos (by omega), succ_cast i (by omega)]
      simp only [rd, Int.toNat_natCast]
      rw [wrap_in (by omega) (by omega)]
      rfl
    · have mb := mul_bound (a := maxW l l.length) (b := l.length) (A := 600) (B := 40) (by omega) (by omega) (by omega) (by omega)
      have hs0 : ∀ k, impl_GustFactor.l0 (k + 1) l (sumW l l.length) l (l.length : Int) (l.length : Int) = (if sumW l l.length = 0 then (some (0, 0, 3)) else ((slices_Max_int64_int64.f k l).bind fun t131 => ((impl_fraction.f k (wrap64 (t131 * (l.length : Int))) (sumW l l.length)).bind fun bt132 => (some (bt132.1, bt132.2, 0))))) := by
        intro k
        simp only [impl_GustFactor.l0]
        rw [if_neg (by omega)]
      refine ev_step hs0 ?_
      by_cases hz : sumW l l.length = 0
      · rw [if_pos hz]; exact ev_if_pos hz (ev_now fun _ => rfl)
      · rw [if_neg hz]
        refine ev_if_neg hz (ev_bind (sliceMax l h1 h2 hw) ?_)
        rw [wrap_in (x := maxW l l.length * (l.length : Int)) (by omega) (by omega)]
        exact ev_bind (frac (by omega) (by omega) (by omega) (by omega)) (ev_now fun _ => rfl)
theorem ev_ex {α : Type} {g : Nat → Option α} {r : α} (h : Ev g r) : ∃ k, g k = some r := by obtain ⟨n, h⟩ := h; exact ⟨n, h n (Nat.le_refl n)⟩
theorem foldl_ext' {S α : Type} {f g : S → α → S} : ∀ (l : List α) (s : S), (∀ s, ∀ x ∈ l, f s x = g s x) → l.foldl f s = l.foldl g s
  | [], _, _ => rfl
  | x :: l, s, h => by
    simp only [List.foldl_cons]
    rw [h s x (List.mem_cons_self ..)]
    exact foldl_ext' l _ (fun s y hy => h s y (List.mem_cons_of_mem _ hy))
theorem foldl_inv {S α : Type} {f : S → α → S} (P : S → Prop) : ∀ (l : List α) (s : S), P s → (∀ s, ∀ x ∈ l, P s → P (f s x)) → P (l.foldl f s)
  | [], _, h, _ => h
  | x :: l, s, h, hf => foldl_inv P l (f s x) (hf s x (List.mem_cons_self ..) h) (fun s y hy => hf s y (List.mem_cons_of_mem _ hy))
theorem wk_congr {st st' : List Int → Bool} {fo fo' : List Int → Int} {N : Nat} (h : ∀ set i, SetIn set i → i ≤ N → st set = st' set ∧ fo set = fo' set) : ∀ (m : Nat) (s : List Int × Int) (set : List Int) (i : Nat), SetIn set i → i ≤ N → wk st fo N m s set i = wk st' fo' N m s set i := by
  intro m
  induction m with
  | zero => intro s set i h1 h2; rfl
  | succ m ih =>
    intro s set i h1 h2
    simp only [wk]
    rw [(h set i h1 h2).1, (h set i h1 h2).2]
    split
    · refine foldl_ext' _ _ (fun s j hj => ?_)
      rw [List.mem_range'_1] at hj
      exact ih s _ (j + 1) (SetIn.snoc h1 hj.1) (by omega)
    · rfl
theorem fine_of {L : List S27} (h10 : L.length ≤ 10) (hinc : ∀ i, i < L.length → InC (L.getD i z27)) {set : List Int} {i : Nat} (h1 : SetIn set i) (h2 : i ≤ L.length) : Fine L set := by
  refine ⟨h10, hinc, fun q hq => ?_, by have := h1.1; omega⟩
  have := h1.2 (set.getD q 0) (by rw [List.getD_eq_getElem?_getD, List.getElem?_eq_getElem hq]; exact List.getElem_mem hq)
  omega
noncomputable def bestC (L : List S27) (wd mt : Int) : List Int × Int := wk (fun set => stB L set wd mt) (fun set => sF L set wd set.length) L.length (L.length + 1) ([], 0) [] 0
theorem setIn_nil : SetIn [] 0 := ⟨by simp, by simp⟩
theorem bestC_I {L : List S27} (h10 : L.length ≤ 10) (hinc : ∀ i, i < L.length → InC (L.getD i z27)) {wd mt : Int} (hw : 0 ≤ wd ∧ wd ≤ 600) : BsOk L wd mt ∧ bestI L wd mt = bestC L wd mt := by
  refine ⟨⟨by omega, fun set i h1 h2 => ⟨⟨_, ev_ex (implStands (fine_of h10 hinc h1 h2) hw mt)⟩, ⟨_, ev_ex (implSums (fine_of h10 hinc h1 h2) hw)⟩⟩⟩, ?_⟩
  unfold bestI bestC
  refine wk_congr (fun set i h1 h2 => ⟨?_, ?_⟩) _ _ _ _ setIn_nil (by omega)
  · unfold stI; exact theOf_eq (fun k => impl_standsWind.mono _ _ _ _ k) (ev_ex (implStands (fine_of h10 hinc h1 h2) hw mt))
  · unfold foI; rw [theOf_eq (fun k => impl_setSums.mono _ _ _ k) (ev_ex (implSums (fine_of h10 hinc h1 h2) hw))]
/-! ### the best set -/
theorem wk_mono (st : List Int → Bool) (fo : List Int → Int) (N : Nat) : ∀ (m : Nat) (s : List Int × Int) (set : List Int) (i : Nat), s.2 ≤ (wk st fo N m s set i).2 := by
  intro m
  induction m with
  | zero => intro s set i; exact Int.le_refl _
  | succ m ih =>
    intro s set i
    simp only [wk]
    split
    · refine foldl_inv (fun (s' : List Int × Int) => s.2 ≤ s'.2) _ _ ?_ (fun s' j _ hs => Int.le_trans hs (ih s' _ _))
      split
      · rename_i h; exact Int.le_of_lt h
      · exact Int.le_refl _
    · exact Int.le_refl _
theorem wk_fold (st : List Int → Bool) (fo : List Int → Int) (N m : Nat) (set : List Int) (l : List Nat) (s : List Int × Int) : s.2 ≤ (l.foldl (fun s (j : Nat) => wk st fo N m s (set ++ [(j : Int)]) (j + 1)) s).2 :=
  foldl_inv (fun (s' : List Int × Int) => s.2 ≤ s'.2) _ _ (Int.le_refl _) (fun s' j _ hs => Int.le_trans hs (wk_mono _ _ _ _ _ _ _))
def Rf (N : Nat) : Nat → List Int → Prop
  | _, [] => True
  | i, x :: t => (i : Int) ≤ x ∧ x < N ∧ Rf N (x.toNat + 1) t
theorem wk_reach (st : List Int → Bool) (fo : List Int → Int) (N : Nat) : ∀ (t : List Int) (m : Nat) (s : List Int × Int) (set : List Int) (i : Nat), N < i + m → i ≤ N → Rf N i t → (∀ q, q ≤ t.length → st (set ++ t.take q) = true) → fo (set ++ t) ≤ (wk st fo N m s set i).2 := by
  intro t
  induction t with
  | nil =>
    intro m s set i h1 h2 h3 h4
    cases m with
    | zero => omega
    | succ m =>
      have h := h4 0 (by simp)
      rw [List.take_zero, List.append_nil] at h
      simp only [wk]
      rw [if_pos h, List.append_nil]
      refine foldl_inv (fun (s' : List Int × Int) => fo set ≤ s'.2) _ _ ?_ (fun s' j _ hs => Int.le_trans hs (wk_mono _ _ _ _ _ _ _))
      split
      · exact Int.le_refl _
      · omega
  | cons x t ih =>
    intro m s set i h1 h2 h3 h4
    obtain ⟨g1, g2, g3⟩ := h3
    cases m with
    | zero => omega
    | succ m =>
      have h := h4 0 (by simp)
      rw [List.take_zero, List.append_nil] at h
      obtain ⟨j, rfl⟩ : ∃ j : Nat, x = j := ⟨x.toNat, by omega⟩
      have e : List.range' i (N - i) = List.range' i (j - i) ++ j :: List.range' (j + 1) (N - (j + 1)) := by
        rw [show N - i = (j - i) + ((N - (j + 1)) + 1) from by omega, ← List.range'_append_1, show i + (j - i) = j from by omega, List.range'_succ]
      simp only [wk]
      rw [if_pos h, e, List.foldl_append, List.foldl_cons]
      refine Int.le_trans ?_ (wk_fold st fo N m set _ _)
      have h5 := fun s' => ih m s' (set ++ [(j : Int)]) (j + 1) (by omega) (by omega) (by rwa [Int.toNat_natCast] at g3) (fun q hq => by
        have := h4 (q + 1) (by rw [List.length_cons]; omega)
        rw [List.take_succ_cons] at this
        rw [List.append_assoc]
        exact this)
      have h6 := h5 ((List.range' i (j - i)).foldl (fun s (j : Nat) => wk st fo N m s (set ++ [(j : Int)]) (j + 1)) (if s.2 < fo set then (set, fo set) else s))
      rw [List.append_assoc] at h6
      exact h6
theorem rf_of (N : Nat) : ∀ (t : List Int) (i : Nat), (∀ q, q < t.length → (i : Int) ≤ t.getD q 0 ∧ t.getD q 0 < N) → (∀ q, 0 < q → q < t.length → t.getD (q - 1) 0 < t.getD q 0) → Rf N i t
  | [], _, _, _ => trivial
  | x :: t, i, h1, h2 => by
    have h0 := h1 0 (by simp)
    have hx : (x :: t).getD 0 0 = x := rfl
    rw [hx] at h0
    refine ⟨h0.1, h0.2, rf_of N t (x.toNat + 1) (fun q hq => ?_) (fun q hq0 hq => ?_)⟩
    · have hN := h1 (q + 1) (by rw [List.length_cons]; omega)
      have key : ∀ q, q < t.length → x < t.getD q 0 := by
        intro q
        induction q with
        | zero => intro hq; exact h2 1 (by omega) (by rw [List.length_cons]; omega)
        | succ q ih =>
          intro hq
          have := ih (by omega)
          have h3 : t.getD q 0 < t.getD (q + 1) 0 := h2 (q + 2) (by omega) (by rw [List.length_cons]; omega)
          omega
      have := key q hq
      have hN2 : t.getD q 0 < N := hN.2
      omega
    · have := h2 (q + 1) (by omega) (by rw [List.length_cons]; omega)
      obtain ⟨p, rfl⟩ : ∃ p, q = p + 1 := ⟨q - 1, by omega⟩
      exact this
theorem rs_snoc {set : List Int} {i j N : Nat} (h : SetIn set i) (hr : Rs set N) (hij : i ≤ j) (hj : j < N) : Rs (set ++ [(j : Int)]) N := by
  refine ⟨fun q hq => ?_, fun q hq0 hq => ?_⟩
  · rw [List.length_append, List.length_singleton] at hq
    rw [getD_app]
    by_cases hc : q < set.length
    · rw [if_pos hc]; exact hr.1 q hc
    · rw [if_neg hc, if_pos (by omega)]; omega
  · rw [List.length_append, List.length_singleton] at hq
    rw [getD_app, getD_app]
    by_cases hc : q < set.length
    · rw [if_pos hc, if_pos (by omega)]; exact hr.2 q hq0 hc
    · rw [if_neg hc, if_pos (by omega), if_pos (show q = set.length by omega)]
      have := h.2 (set.getD (q - 1) 0) (mem_getD set 0 (q - 1) (by omega))
      omega
theorem wk_good (P : List Int × Int → Prop) (st : List Int → Bool) (fo : List Int → Int) (N : Nat) (hP : ∀ set, Rs set N → set.length ≤ N → st set = true → P (set, fo set)) : ∀ (m : Nat) (s : List Int × Int) (set : List Int) (i : Nat), SetIn set i → i ≤ N → Rs set N → P s → P (wk st fo N m s set i) := by
  intro m
  induction m with
  | zero => intro s set i h1 h2 h3 h4; exact h4
  | succ m ih =>
    intro s set i h1 h2 h3 h4
    simp only [wk]
    split
    · rename_i hst
      refine foldl_inv P _ _ ?_ (fun s j hj hs => ?_)
      · split
        · exact hP set h3 (Nat.le_trans h1.1 h2) hst
        · exact h4
      · rw [List.mem_range'_1] at hj
        exact ih s _ (j + 1) (SetIn.snoc h1 hj.1) (by omega) (rs_snoc h1 h3 hj.1 (by omega)) hs
    · exact h4
theorem sa_take {l : List S27} {st : List Int} {q i : Nat} (h : i < q) : sa l (st.take q) i = sa l st i := by
  unfold sa
  rw [List.getD_eq_getElem?_getD (l := st.take q), List.getElem?_take, if_pos h, ← List.getD_eq_getElem?_getD]
theorem sB_take {l : List S27} {st : List Int} {w : Int} {q : Nat} : ∀ i, i ≤ q → sB l (st.take q) w i = sB l st w i
  | 0, _ => rfl
  | i + 1, hi => by
    simp only [sB]
    rw [sB_take i (by omega), sa_take (by omega)]
theorem sM_take {l : List S27} {st : List Int} {w : Int} {q : Nat} : ∀ i, i ≤ q → sM l (st.take q) w i = sM l st w i
  | 0, _ => rfl
  | i + 1, hi => by
    simp only [sM]
    rw [sM_take i (by omega), sa_take (by omega)]
theorem sM_le {l : List S27} {st : List Int} (h : Fine l st) {w : Int} (hw : 0 ≤ w ∧ w ≤ 600) (p : Nat) : ∀ d, p + d ≤ st.length → sM l st w p ≤ sM l st w (p + d)
  | 0, _ => Int.le_refl _
  | d + 1, hd => by
    have ih := sM_le h hw p d (by omega)
    have hx := h.at_ (p + d) (by omega)
    have hb := fo_bound hx hw
    have hf2 : 0 ≤ (sa l st (p + d)).f2 := by unfold InC at hx; exact hx.2.2.1
    have := Int.mul_nonneg hb.1 hf2
    show sM l st w p ≤ sM l st w (p + d) + fo (sa l st (p + d)) w * (sa l st (p + d)).f2
    omega
theorem stB_take {l : List S27} {st : List Int} (h : Fine l st) {w m : Int} (hw : 0 ≤ w ∧ w ≤ 600) (hs : stB l st w m = true) (q : Nat) (hq : q ≤ st.length) : stB l (st.take q) w m = true := by
  unfold stB at *
  rw [Bool.and_eq_true] at *
  have e : (st.take q).length = q := by rw [List.length_take]; omega
  rw [e, sB_take q (Nat.le_refl _), sM_take q (Nat.le_refl _)]
  refine ⟨sB_all _ (fun i hi => sB_at hs.1 i (by omega)), decide_eq_true ?_⟩
  have h1 := of_decide_eq_true hs.2
  have h2 := sM_le h hw q (st.length - q) (by omega)
  rw [show q + (st.length - q) = st.length from by omega] at h2
  omega
theorem rs_nil (n : Int) : Rs [] n := ⟨fun q hq => by simp at hq, fun q _ hq => by simp at hq⟩
theorem best_facts {l : List S27} (hd : Drawn l) {w m : Int} (hw : 0 ≤ w ∧ w ≤ 600) (hm : 0 ≤ m) : Rs (bestC l w m).1 l.length ∧ (bestC l w m).1.length ≤ 6 ∧ stB l (bestC l w m).1 w m = true ∧ (bestC l w m).2 = sF l (bestC l w m).1 w (bestC l w m).1.length ∧ ∀ st, Rs st l.length → st.length ≤ 6 → stB l st w m = true → sF l st w st.length ≤ (bestC l w m).2 := by
  have h6 := hd.1
  have h0 : stB l [] w m = true := by
    unfold stB
    show (true && decide ((0 : Int) ≤ m)) = true
    rw [decide_eq_true hm]; rfl
  have hg := wk_good (fun s => Rs s.1 l.length ∧ s.1.length ≤ l.length ∧ stB l s.1 w m = true ∧ s.2 = sF l s.1 w s.1.length) (fun set => stB l set w m) (fun set => sF l set w set.length) l.length (fun set g1 g2 g3 => ⟨g1, g2, g3, rfl⟩) (l.length + 1) ([], 0) [] 0 setIn_nil (by omega) (rs_nil _) ⟨rs_nil _, by simp, h0, rfl⟩
  refine ⟨hg.1, Nat.le_trans hg.2.1 h6, hg.2.2.1, hg.2.2.2, fun st g1 g2 g3 => ?_⟩
  have := wk_reach (fun set => stB l set w m) (fun set => sF l set w set.length) l.length st (l.length + 1) ([], 0) [] 0 (by omega) (by omega) (rf_of _ _ _ (fun q hq => by have := g1.1 q hq; omega) g1.2) (fun q hq => by
    rw [List.nil_append]
    exact stB_take (fineOf hd g1 g2) hw g3 q hq)
  rw [List.nil_append] at this
  exact this
theorem risesA {st : List Int} {n : Nat} (hr : Rs st n) (hs : st.length ≤ 6) (hn : n ≤ 6) : Ev (fun k => laws_a2Rises.f k st (n : Int)) true := by
  unfold laws_a2Rises.f
  refine loop_up' (fun k i => laws_a2Rises.l0 k st (n : Int) (i : Int)) st.length true (fun _ => True) (fun i hi _ => .inl ⟨trivial, fun g => ev_step (fun k => ?_) g⟩) (fun _ => ev_end fun k => ?_) st.length 0 (by omega) (by omega) trivial
  · have h1 := hr.1 i hi
    simp only [laws_a2Rises.l0]
    rw [if_pos (by omega), if_pos (by omega), rdN st i, if_neg (by omega), if_neg (by omega), succ_cast i (by omega)]
    by_cases h0 : i = 0
    · rw [if_neg (by omega)]
    · have h2 := hr.2 i (by omega) hi
      rw [if_pos (by omega), pred_cast i (by omega) (by omega), if_pos (by omega), if_pos (by omega), rdN st (i - 1), if_neg (by omega)]
  · show laws_a2Rises.l0 (k + 1) st _ _ = _
    simp only [laws_a2Rises.l0]
    rw [if_neg (by omega)]
theorem totalS {l : List S27} {st : List Int} (hd : Drawn l) (hr : Rs st l.length) (hs : st.length ≤ 6) {w : Int} (hw : 0 ≤ w ∧ w ≤ 600) : Ev (fun k => spec_TotalForce.f k l st w) (sF l st w st.length, 0) := by
  have h6 := hd.1
  obtain ⟨ok, h1, c1, c2⟩ := codesW l (by omega) st (by omega)
  have e := ev_unique (c2 w 0) (codeI hd hr hs hw (m := 0) (by omega))
  have hok : ok = true := by
    cases ok with
    | false => rw [if_neg (by decide)] at e; exact absurd e (by decide)
    | true => rfl
  have c := c1 w
  rw [hok, if_pos rfl, rs_rise hr, show winB w = true from decide_eq_true hw] at c
  unfold spec_TotalForce.f
  exact ev_bind c (ev_if_pos rfl (ev_bind (specTotal (fineOf hd hr hs) hw) (ev_now fun _ => rfl)))
/-! ### blows, lulls, gusts -/
theorem specMin (a b : Int) : spec_l00Min.f a b = some (if a < b then a else b) := by unfold spec_l00Min.f; split <;> rfl
theorem blowLoop {c : List Int} (h : bytes c) : ∀ (n : Nat) (x4 : List Int) (v a s : Int), x4.length + n ≤ 14 → (∀ x ∈ x4, 0 ≤ x ∧ x ≤ 600) → 0 ≤ v → v ≤ 600 → 0 ≤ a → a + 2 * n ≤ 1000 →
    ∃ r, Ev (fun k => spec_A2Blows.l0 k x4 v (n : Int) c a s) r ∧ r.length ≤ 14 ∧ ∀ x ∈ r, 0 ≤ x ∧ x ≤ 600 := by
  intro n
  induction n with
  | zero =>
    intro x4 v a s h1 h2 h3 h4 h5 h6
    refine ⟨x4, ev_end fun k => ?_, by omega, h2⟩
    simp only [spec_A2Blows.l0]
    rw [if_neg (by omega)]
  | succ n ih =>
    intro x4 v a s h1 h2 h3 h4 h5 h6
    obtain ⟨p, a', s', e, b1, b2, c1, c2⟩ := pick_ok h a s 81 h5 (by omega)
    have hmx := mx_ge 0 (v + p - 40)
    obtain ⟨z, hz⟩ : ∃ z, (if (600 : Int) < mx 0 (v + p - 40) then 600 else mx 0 (v + p - 40)) = z := ⟨_, rfl⟩
    have hz2 : 0 ≤ z ∧ z ≤ 600 := by rw [← hz]; split <;> omega
    obtain ⟨r, g1, g2, g3⟩ := ih (x4 ++ [z]) z a' s' (by rw [List.length_append, List.length_singleton]; omega) (fun x hx => by
      rcases List.mem_append.1 hx with hx | hx
      · exact h2 x hx
      · rw [List.mem_singleton.1 hx]; exact hz2) hz2.1 hz2.2 (by omega) (by omega)
    refine ⟨r, ev_step (fun k => ?_) g1, g2, g3⟩
    simp only [spec_A2Blows.l0]
    rw [if_pos (by omega), e]
    simp only [Option.bind_some]
    rw [wrap_in (x := v + p) (by omega) (by omega), wrap_in (x := v + p - 40) (by omega) (by omega), specMax]
    simp only [Option.bind_some]
    rw [specMin, hz]
    simp only [Option.bind_some]
    rw [if_pos (by omega), wrap_in (x := ((n + 1 : Nat) : Int) - 1) (by omega) (by omega), show ((n + 1 : Nat) : Int) - 1 = (n : Int) by omega]
theorem blowDraw {c : List Int} (h : bytes c) : ∃ r, Ev (fun k => spec_A2Blows.f k c) r ∧ r.length ≤ 14 ∧ ∀ x ∈ r, 0 ≤ x ∧ x ≤ 600 := by
  obtain ⟨v, a, s, e, b1, b2, c1, c2⟩ := pick_ok h 0 0 150 (by omega) (by omega)
  obtain ⟨n, a', s', e', d1, d2, f1, f2⟩ := pick_ok h a s 14 (by omega) (by omega)
  obtain ⟨n, rfl⟩ := Int.eq_ofNat_of_zero_le d1
  obtain ⟨r, g1, g2, g3⟩ := blowLoop h n [] v a' s' (by simp; omega) (by simp) b1 (by omega) (by omega) (by omega)
  refine ⟨r, ?_, g2, g3⟩
  unfold spec_A2Blows.f spec_l00From.f
  refine ev_some ?_
  refine ev_congr (fun k => ?_) g1
  show (spec_l00Src_pick.f c 0 0 150).bind _ = _
  rw [e]
  simp only [Option.bind_some]
  rw [e']
  rfl
theorem lulls (L : List Int) (below : Int) (hl : L.length ≤ 40) (hj : Ev (fun k => laws_FnWindSets.j2 k L false) true) : ∀ (m i : Nat) (now longest best : Int), L.length - i = m → i ≤ L.length → 0 ≤ now → now ≤ i → now ≤ longest → longest ≤ i →
    ∃ f1 f2 f3, Ev (fun k => impl_LullsOf.l0 k below best longest now L (L.length : Int) (i : Int)) (f1, f2, f3) ∧ Ev (fun k => laws_FnWindSets.l0 k L below f1 f2 f3 now longest best (i : Int)) true := by
  intro m
  induction m with
  | zero =>
    intro i now longest best h1 h2 h3 h4 h5 h6
    by_cases c : longest = 0
    · refine ⟨0, 0, 3, ev_end fun k => ?_, ev_succ ?_⟩
      · simp only [impl_LullsOf.l0]
        rw [if_neg (by omega), if_pos c]
      · simp only [laws_FnWindSets.l0]
        exact ev_if_neg (by omega) (ev_if_pos c (ev_if_pos (by first | trivial | rfl) (ev_if_neg (by omega) hj)))
    · refine ⟨best, longest, 0, ev_end fun k => ?_, ev_succ ?_⟩
      · simp only [impl_LullsOf.l0]
        rw [if_neg (by omega), if_neg c]
      · simp only [laws_FnWindSets.l0]
        rw [bne_self_eq_false]
        exact ev_if_neg (by omega) (ev_if_neg c (ev_if_pos (by omega) (ev_if_pos (by first | trivial | rfl) (ev_if_pos (by first | trivial | rfl) hj))))
  | succ m ih =>
    intro i now longest best h1 h2 h3 h4 h5 h6
    have e1 : wrap64 (now + 1) = now + 1 := wrap_in (by omega) (by omega)
    have e2 := succ_cast i (by omega)
    have e3 : wrap64 ((((i + 1 : Nat)) : Int) - (now + 1)) = ((i + 1 : Nat) : Int) - (now + 1) := wrap_in (by omega) (by omega)
    by_cases c : rd L (i : Int) ≥ below
    · obtain ⟨f1, f2, f3, g1, g2⟩ := ih (i + 1) 0 longest best (by omega) (by omega) (by omega) (by omega) (by omega) (by omega)
      refine ⟨f1, f2, f3, ev_step (fun k => ?_) g1, ev_step (fun k => ?_) g2⟩
      · simp only [impl_LullsOf.l0]
        rw [if_pos (by omega), if_pos (by omega), if_pos (by omega), if_pos c, if_neg (by omega), e2]
      · simp only [laws_FnWindSets.l0]
        rw [if_pos (by omega), if_pos (by omega), if_pos c, if_neg (by omega), e2]
    · by_cases c2 : now + 1 > longest
      · obtain ⟨f1, f2, f3, g1, g2⟩ := ih (i + 1) (now + 1) (now + 1) (((i + 1 : Nat) : Int) - (now + 1)) (by omega) (by omega) (by omega) (by omega) (by omega) (by omega)
        refine ⟨f1, f2, f3, ev_step (fun k => ?_) g1, ev_step (fun k => ?_) g2⟩
        · simp only [impl_LullsOf.l0]
          rw [if_pos (by omega), if_pos (by omega), if_pos (by omega), if_neg c, e1, if_pos c2, e2, e3]
        · simp only [laws_FnWindSets.l0]
          rw [if_pos (by omega), if_pos (by omega), if_neg c, e1, if_pos c2, e2, e3]
      · obtain ⟨f1, f2, f3, g1, g2⟩ := ih (i + 1) (now + 1) longest best (by omega) (by omega) (by omega) (by omega) (by omega) (by omega)
        refine ⟨f1, f2, f3, ev_step (fun k => ?_) g1, ev_step (fun k => ?_) g2⟩
        · simp only [impl_LullsOf.l0]
          rw [if_pos (by omega), if_pos (by omega), if_pos (by omega), if_neg c, e1, if_neg c2, e2]
        · simp only [laws_FnWindSets.l0]
          rw [if_pos (by omega), if_pos (by omega), if_neg c, e1, if_neg c2, e2]
theorem sumA (l : List Int) (hl : l.length ≤ 40) (h : ∀ i, i < l.length → 0 ≤ l.getD i 0 ∧ l.getD i 0 ≤ 600) : Ev (fun k => laws_a2Sum.f k l) (sumW l l.length) := by
  unfold laws_a2Sum.f
  refine loop_all (fun k i => laws_a2Sum.l0 k l (sumW l i) (i : Int)) l.length _ (fun i hi k => ?_) (ev_end fun k => ?_)
  · show laws_a2Sum.l0 (k + 1) _ _ _ = laws_a2Sum.l0 k _ _ _
    have b1 := sumW_bound h i (by omega)
    have b2 := h i hi
    simp only [laws_a2Sum.l0]
    rw [if_pos (by omega), if_pos (by omega), succ_cast i (by omega)]
    simp only [rd, Int.toNat_natCast]
    rw [wrap_in (by omega) (by omega)]
    rfl
  · show laws_a2Sum.l0 (k + 1) _ _ _ = _
    simp only [laws_a2Sum.l0]
    rw [if_neg (by omega)]
theorem gustPart (L : List Int) (hok : okW L = true) : Ev (fun k => laws_FnWindSets.j2 k L false) true := by
  obtain ⟨hw, h1, h2⟩ := okW_of hok
  have hs := sumW_bound hw L.length (by omega)
  obtain ⟨x1, x2, x3, x4, x5⟩ := maxW_bound hw L.length (by omega)
  have hG := implGust L (by omega)
  unfold gustOf at hG
  rw [if_pos hok] at hG
  refine ev_succ ?_
  simp only [laws_FnWindSets.j2, Bool.false_eq_true, if_false]
  by_cases hz : sumW L L.length = 0
  · rw [if_pos hz] at hG
    have hS := sumA L h2 hw
    rw [hz] at hS
    exact ev_bind hG (ev_if_neg (by decide) (ev_if_pos (by first | trivial | rfl) (ev_bind hS (ev_now fun _ => rfl))))
  · rw [if_neg hz] at hG
    have hgp : 0 < (Int.gcd (maxW L L.length * L.length) (sumW L L.length) : Int) := gcd_pos (by omega)
    have en := lowest_num (maxW L L.length * L.length) (sumW L L.length)
    have ed := lowest_den (maxW L L.length * L.length) (sumW L L.length)
    have mb := mul_bound (a := maxW L L.length) (b := L.length) (A := 600) (B := 40) (by omega) (by omega) (by omega) (by omega)
    have lb := lowest_bound (n := maxW L L.length * L.length) (d := sumW L L.length) (by omega) (B := 24000) (by omega) (by omega) (by omega)
    obtain ⟨A, hA⟩ : ∃ A, (lowest (maxW L L.length * L.length) (sumW L L.length)).1 = A := ⟨_, rfl⟩
    obtain ⟨D, hD⟩ : ∃ D, (lowest (maxW L L.length * L.length) (sumW L L.length)).2 = D := ⟨_, rfl⟩
    obtain ⟨g, hg⟩ : ∃ g, (Int.gcd (maxW L L.length * L.length) (sumW L L.length) : Int) = g := ⟨_, rfl⟩
    rw [hA, hD] at hG
    rw [hA, hg] at en
    rw [hD, hg] at ed
    rw [hA, hD] at lb
    rw [hg] at hgp
    have q1 : D ≤ A := Int.le_of_mul_le_mul_right (by rw [en, ed]; exact x4) hgp
    have q2 : A ≤ D * L.length := Int.le_of_mul_le_mul_right (by rw [en, Int.mul_right_comm, ed]; exact Int.mul_le_mul_of_nonneg_right x5 (by omega)) hgp
    have mb2 := mul_bound (a := D) (b := L.length) (A := 24000) (B := 40) (by omega) (by omega) (by omega) (by omega)
    refine ev_bind hG (ev_if_pos rfl (ev_if_pos (by show D ≥ 1; omega) (ev_if_pos (by show A ≥ D; omega) (ev_now fun _ => ?_))))
    show some (decide (A ≤ wrap64 (D * (L.length : Int)))) = some true
    rw [wrap_in (x := D * (L.length : Int)) (by omega) (by omega), decide_eq_true q2]
theorem FnWindSets : Say.FnWindSets := by
  classical
  intro c m hc hm
  have bc1 := bytes_of hc.2
  have bm1 := bytes_of hm.2
  apply Ev.rounds
  unfold laws_FnWindSets.f laws_a2Long.f
  by_cases h1 : (c.length : Int) > 3000
  · rw [if_pos h1]; exact ev_now fun _ => rfl
  rw [if_neg h1]
  refine ev_some ?_
  by_cases h2 : (m.length : Int) > 3000
  · exact ev_if_pos (decide_eq_true h2) (ev_now fun _ => rfl)
  refine ev_if_neg (by rw [decide_eq_false h2]; decide) ?_
  obtain ⟨l, hl, hd⟩ := canvasDraw bc1
  obtain ⟨st, hst, hr, hs⟩ := setDraw bm1 l.length hd.1
  obtain ⟨w, ha, hw0, hw1⟩ := atDraw bm1 0 250 (by omega) (by omega)
  obtain ⟨q, hb, hq0, hq1⟩ := atDraw bm1 1 250 (by omega) (by omega)
  have hw : 0 ≤ w ∧ w ≤ 600 := ⟨hw0, by omega⟩
  have eq : wrap64 (20000 * q) = 20000 * q := wrap_in (by omega) (by omega)
  obtain ⟨r1, r2, r3, r4, r5⟩ := best_facts hd hw (m := 20000 * q) (by omega)
  obtain ⟨o1, b1⟩ := bestC_I (L := l) (by have := hd.1; omega) (fun i hi => (hd.2 i hi).2.1) (mt := 20000 * q) hw
  have last : Ev (fun k => laws_FnWindSets.j0 k c m false) true := by
    obtain ⟨bl, hbl, n1, n2⟩ := blowDraw bc1
    obtain ⟨x, hx, x0, x1⟩ := atDraw bm1 2 60 (by omega) (by omega)
    obtain ⟨y, hy, y0, y1⟩ := atDraw bm1 3 150 (by omega) (by omega)
    have hok : okW (bl ++ [x]) = true := by
      unfold okW
      rw [Bool.and_eq_true, List.all_eq_true, List.length_append, List.length_singleton]
      refine ⟨fun z hz => ?_, decide_eq_true (by omega)⟩
      rcases List.mem_append.1 hz with hz | hz
      · exact decide_eq_true (n2 z hz)
      · rw [List.mem_singleton.1 hz]; exact decide_eq_true (by omega)
    have hlen : (bl ++ [x]).length ≤ 40 := by rw [List.length_append, List.length_singleton]; omega
    obtain ⟨f1, f2, f3, g1, g2⟩ := lulls (bl ++ [x]) y hlen (gustPart _ hok) _ 0 0 0 0 rfl (by omega) (by omega) (by omega) (by omega) (by omega)
    have hL : Ev (fun k => impl_LullsOf.f k (bl ++ [x]) y) (f1, f2, f3) := by
      have hW := implWinds (bl ++ [x]) (by omega)
      rw [hok] at hW
      unfold impl_LullsOf.f
      refine ev_bind hW (ev_if_pos rfl ?_)
      rw [implIn, decide_eq_true (p := 0 ≤ y ∧ y ≤ 600) (by omega)]
      refine ev_some (ev_succ ?_)
      simp only [impl_LullsOf.j0, Bool.not_true, Bool.false_eq_true, if_false]
      exact g1
    refine ev_succ ?_
    simp only [laws_FnWindSets.j0, Bool.false_eq_true, if_false]
    exact ev_bind hbl (ev_bind (ev_const hx) (ev_if_pos (by omega) (ev_some (ev_bind (ev_const hy) (ev_bind hL g2)))))
  refine ev_bind hl (ev_bind (ev_const ha) (ev_bind (ev_const hb) (ev_bind (a := ((bestC l w (20000 * q)).1, (bestC l w (20000 * q)).2, 0)) ?_ (ev_bind (a := ((bestC l w (20000 * q)).2, 0)) ?_ (ev_bind hst (ev_bind (totalS hd hr hs hw) (ev_if_pos rfl (ev_if_pos rfl (ev_if_pos rfl (ev_bind (risesA r1 r2 hd.1) (ev_if_pos rfl (ev_bind (a := true) ?_ (ev_if_pos rfl (ev_if_pos rfl ?_))))))))))))))
  · rw [eq]
    unfold impl_BestSet.f
    exact ev_bind (codeI hd (rs_nil _) (by simp) hw (by omega)) (ev_if_pos rfl (ev_if_pos o1 (ev_now fun _ => by rw [b1])))
  · unfold impl_TotalForce.f
    refine ev_bind (codeI hd r1 r2 hw (by omega)) (ev_if_pos rfl (ev_bind (implSums (fineOf hd r1 r2) hw) (ev_now fun _ => ?_)))
    rw [r4]
  · rw [eq]
    exact ev_eq (standsA hd r1 r2 hw _) r3
  · rw [eq]
    refine ev_bind (standsA hd hr hs hw _) ?_
    cases hc2 : stB l st w (20000 * q) with
    | false => exact ev_if_neg (by decide) last
    | true =>
      refine ev_if_pos rfl ?_
      have := r5 st hr hs hc2
      show Ev (fun k => laws_FnWindSets.j0 k c m (decide (sF l st w st.length > (bestC l w (20000 * q)).2))) true
      rw [decide_eq_false (by omega)]
      exact last
end Go.Proofs.Ythbfpkagjobgiaa.Pure
