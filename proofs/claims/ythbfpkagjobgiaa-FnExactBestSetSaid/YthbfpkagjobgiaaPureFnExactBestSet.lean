import Derived.Test.YthbfpkagjobgiaaSayFnExactBestSet
import Derived.Test.YthbfpkagjobgiaaPlain
namespace Go.Proofs.Ythbfpkagjobgiaa.Pure
open Go.RowKit Go.Proofs.Ythbfpkagjobgiaa.PFnExactBestSet Go.Proofs.Ythbfpkagjobgiaa.Plain Go.Proofs.YthbfpkagjobgiaaW.PrintWords
set_option linter.unusedVariables false
set_option linter.unusedSimpArgs false
open Go.Proofs.YthbfpkagjobgiaaW.PrintMore
theorem specIn (n a b : Int) : spec_l00In.f n a b = some (decide (a ≤ n ∧ n ≤ b)) := by
  unfold spec_l00In.f
  by_cases h1 : n ≥ a <;> by_cases h2 : n ≤ b <;> simp [h1, h2] <;> omega
theorem implIn (n a b : Int) : impl_within.f n a b = some (decide (a ≤ n ∧ n ≤ b)) := by
  unfold impl_within.f
  by_cases h1 : n ≥ a <;> by_cases h2 : n ≤ b <;> simp [h1, h2] <;> omega
/-! ### loops over lists -/
theorem mem_getD {α : Type} (l : List α) (z : α) (i : Nat) (h : i < l.length) : l.getD i z ∈ l := by
  rw [List.getD_eq_getElem?_getD, List.getElem?_eq_getElem h]; exact List.getElem_mem h
theorem all_loop {α : Type} (z : α) (p : α → Bool) (T : Nat → α → Option Bool) (F : Nat → Int → Option Bool) (l : List α) (hl : l.length < 9223372036854775807) (hT : ∀ x ∈ l, Ev (fun k => T k x) (p x))
    (hF : ∀ k x5, F (k + 1) x5 = if x5 < (l.length : Int) then (if 0 ≤ x5 then (if x5 < (l.length : Int) then ((T k (l.getD x5.toNat z)).bind fun t => (if t = true then (F k (wrap64 (x5 + 1))) else (some false))) else (none)) else (none)) else (some true)) :
    Ev (fun k => F k 0) (l.all p) := by
  refine loop_up' (fun k i => F k (i : Int)) l.length (l.all p) (fun i => (l.take i).all p = true) (fun i hi hI => ?_) (fun hI => ?_) l.length 0 (by omega) (by omega) (by simp)
  · have hm := hT _ (mem_getD l z i hi)
    cases hp : p (l.getD i z) with
    | true =>
      refine .inl ⟨?_, fun h => ?_⟩
      · rw [List.take_succ_eq_append_getElem hi, List.all_append, hI]
        rw [List.getD_eq_getElem?_getD, List.getElem?_eq_getElem hi] at hp
        simpa using hp
      · refine ev_step (fun k => hF k i) (ev_if_pos (by omega) (ev_if_pos (by omega) (ev_if_pos (by omega) ?_)))
        rw [Int.toNat_natCast]
        refine ev_bind hm (ev_if_pos hp ?_)
        rw [succ_cast i (by omega)]
        exact h
    | false =>
      refine .inr ?_
      refine ev_step (fun k => hF k i) (ev_if_pos (by omega) (ev_if_pos (by omega) (ev_if_pos (by omega) ?_)))
      rw [Int.toNat_natCast]
      refine ev_bind hm (ev_if_neg (by rw [hp]; decide) (ev_now fun _ => ?_))
      have : l.all p = false := by
        cases hq : l.all p with
        | false => rfl
        | true => rw [List.all_eq_true.mp hq _ (mem_getD l z i hi)] at hp; cases hp
      rw [this]
  · refine ev_end (fun k => ?_)
    show F (k + 1) _ = _
    rw [hF, if_neg (by omega)]
    simpa using hI.symm
theorem copyT_loop {α β : Type} (z : α) (zb : β) (f : α → β) (T : Nat → α → Option β) (F : Nat → List β → Int → Option (List β)) (l : List α) (hl : l.length < 9223372036854775807) (hT : ∀ x ∈ l, Ev (fun k => T k x) (f x))
    (hF : ∀ k x3 x4, F (k + 1) x3 x4 = if x4 < (l.length : Int) then (if 0 ≤ x4 then ((T k (l.getD x4.toNat z)).bind fun t => (if x4 < (x3.length : Int) then (F k (x3.set x4.toNat t) (wrap64 (x4 + 1))) else (none))) else (none)) else (some x3)) :
    Ev (fun k => F k (List.replicate l.length zb) 0) (l.map f) := by
  have h := loop_up' (fun k i => F k ((l.take i).map f ++ List.replicate (l.length - i) zb) (i : Int)) l.length (l.map f) (fun _ => True) (fun i hi _ => .inl ⟨trivial, fun h => by
    refine ev_step (fun k => hF k _ i) (ev_if_pos (by omega) (ev_if_pos (by omega) ?_))
    rw [Int.toNat_natCast]
    refine ev_bind (hT _ (mem_getD l z i hi)) (ev_if_pos (by simp; omega) ?_)
    have e : List.replicate (l.length - i) zb = zb :: List.replicate (l.length - (i + 1)) zb := by
      rw [← List.replicate_succ]; congr 1; omega
    rw [e, set_next _ _ _ _ (by simp; omega), succ_cast i (by omega)]
    have e2 : (l.take (i + 1)).map f = (l.take i).map f ++ [f (l.getD i z)] := by
      rw [List.take_succ_eq_append_getElem hi, List.map_append]
      simp [List.getD_eq_getElem?_getD, List.getElem?_eq_getElem hi]
    rw [← e2]
    exact h⟩) (fun _ => by
    refine ev_end (fun k => ?_)
    show F (k + 1) _ _ = _
    rw [hF, if_neg (by omega)]
    simp) l.length 0 (by omega) (by omega) trivial
  simpa using h
theorem smallB (c : Int) : spec_l01Small.f c = some (decide (97 ≤ c ∧ c ≤ 122)) := by
  unfold spec_l01Small.f
  by_cases h1 : c ≥ 97 <;> by_cases h2 : c ≤ 122 <;> simp [h1, h2] <;> omega
theorem digitB (c : Int) : spec_l01Digit.f c = some (decide (48 ≤ c ∧ c ≤ 57)) := by
  unfold spec_l01Digit.f
  by_cases h1 : c ≥ 48 <;> by_cases h2 : c ≤ 57 <;> simp [h1, h2] <;> omega
theorem nameLoop (s : ByteArray) (hl : s.size ≤ 12) : ∀ (m i : Nat), s.size - i = m → i ≤ s.size → ∃ b, Ev (fun k => spec_IsName.l0 k s (i : Int)) b ∧ Ev (fun k => impl_IsName.l0 k s (i : Int)) b := by
  intro m
  induction m with
  | zero =>
    intro i h1 h2
    refine ⟨true, ev_end fun k => ?_, ev_end fun k => ?_⟩
    · simp only [spec_IsName.l0]; rw [if_neg (by omega)]
    · simp only [impl_IsName.l0]; rw [if_neg (by omega)]
  | succ m ih =>
    intro i h1 h2
    have es : ∀ k, spec_IsName.l0 (k + 1) s (i : Int) = if (97 ≤ bt s i ∧ bt s i ≤ 122) ∨ (48 ≤ bt s i ∧ bt s i ≤ 57) ∨ bt s i = 45 then spec_IsName.l0 k s ((i + 1 : Nat) : Int) else some false := by
      intro k
      simp only [spec_IsName.l0]
      rw [if_pos (by omega), if_pos (by omega), smallB, digitB, succ_cast i (by omega)]
      generalize bt s (i : Int) = c
      by_cases a1 : 97 ≤ c ∧ c ≤ 122
      · simp [a1]
      · by_cases a2 : 48 ≤ c ∧ c ≤ 57
        · simp [a1, a2]
        · simp [a1, a2]
    have ei : ∀ k, impl_IsName.l0 (k + 1) s (i : Int) = if (97 ≤ bt s i ∧ bt s i ≤ 122) ∨ (48 ≤ bt s i ∧ bt s i ≤ 57) ∨ bt s i = 45 then impl_IsName.l0 k s ((i + 1 : Nat) : Int) else some false := by
      intro k
      simp only [impl_IsName.l0]
      rw [if_pos (by omega), if_pos (by omega), succ_cast i (by omega)]
      generalize bt s (i : Int) = c
      by_cases h : (97 ≤ c ∧ c ≤ 122) ∨ (48 ≤ c ∧ c ≤ 57) ∨ c = 45
      · rw [if_pos h]
        repeat' split
        all_goals first | rfl | omega
      · rw [if_neg h]
        repeat' split
        all_goals first | rfl | omega
    by_cases h : (97 ≤ bt s i ∧ bt s i ≤ 122) ∨ (48 ≤ bt s i ∧ bt s i ≤ 57) ∨ bt s i = 45
    · obtain ⟨b, h3, h4⟩ := ih (i + 1) (by omega) (by omega)
      exact ⟨b, ev_step es (ev_if_pos h h3), ev_step ei (ev_if_pos h h4)⟩
    · exact ⟨false, ev_step es (ev_if_neg h (ev_now fun _ => rfl)), ev_step ei (ev_if_neg h (ev_now fun _ => rfl))⟩
theorem name_empty (s : ByteArray) : s.toList = ([] : List UInt8) ↔ s.size = 0 := by
  have key : ∀ (m i : Nat) (r : List UInt8), s.size - i = m → (ByteArray.toList.loop s i r).length = r.length + (s.size - i) := by
    intro m
    induction m with
    | zero => intro i r h; unfold ByteArray.toList.loop; rw [if_neg (by omega)]; simp; omega
    | succ m ih => intro i r h; unfold ByteArray.toList.loop; rw [if_pos (by omega), ih (i + 1) _ (by omega)]; simp; omega
  have : s.toList.length = s.size := by unfold ByteArray.toList; rw [key s.size 0 [] (by omega)]; simp
  constructor
  · intro h; rw [h] at this; simpa using this.symm
  · intro h; rw [h] at this; exact List.length_eq_zero_iff.mp this
theorem names (s : ByteArray) : ∃ b, Ev (fun k => spec_IsName.f k s) b ∧ Ev (fun k => impl_IsName.f k s) b := by
  unfold spec_IsName.f impl_IsName.f
  have jf : Ev (fun k => spec_IsName.j0 k s true) false ∧ Ev (fun k => impl_IsName.j0 k s true) false := ⟨ev_end fun k => by simp [spec_IsName.j0], ev_end fun k => by simp [impl_IsName.j0]⟩
  by_cases h0 : s.size = 0
  · exact ⟨false, ev_if_pos ((name_empty s).mpr h0) jf.1, ev_if_pos (by omega) jf.2⟩
  have h0' : ¬ s.toList = ([] : List UInt8) := fun h => h0 ((name_empty s).mp h)
  by_cases h1 : (s.size : Int) > 12
  · exact ⟨false, ev_if_neg h0' (ev_if_pos h1 jf.1), ev_if_neg (by omega) (ev_if_pos h1 jf.2)⟩
  by_cases hc : 97 ≤ bt s 0 ∧ bt s 0 ≤ 122
  · obtain ⟨b, h3, h4⟩ := nameLoop s (by omega) s.size 0 (by omega) (by omega)
    refine ⟨b, ev_if_neg h0' (ev_if_neg h1 (ev_if_pos (by omega) ?_)), ev_if_neg (by omega) (ev_if_neg h1 (ev_if_pos (by omega) (ev_if_neg (by omega) ?_)))⟩
    · rw [smallB, decide_eq_true hc]
      exact ev_some (ev_step (f := fun k => spec_IsName.l0 k s 0) (fun k => by simp [spec_IsName.j0]) h3)
    · rw [decide_eq_false (by omega)]
      exact ev_step (f := fun k => impl_IsName.l0 k s 0) (fun k => by simp [impl_IsName.j0]) h4
  · refine ⟨false, ev_if_neg h0' (ev_if_neg h1 (ev_if_pos (by omega) ?_)), ev_if_neg (by omega) (ev_if_neg h1 (ev_if_pos (by omega) ?_))⟩
    · rw [smallB, decide_eq_false hc]
      exact ev_some jf.1
    · by_cases h2 : bt s 0 < 97
      · exact ev_if_pos h2 jf.2
      · refine ev_if_neg h2 ?_
        rw [decide_eq_true (by omega)]
        exact jf.2
theorem eqI (l : List Int) (h : l.length < 9223372036854775807) : Ev (fun k => laws_eqInt64S.f k l l) true := by
  unfold laws_eqInt64S.f
  refine ev_if_pos rfl ?_
  exact eq_loop' (fun k x5 => laws_eqInt64S.l0 k l l x5) l h (fun i => rd l i = rd l i) (fun _ => rfl) (fun _ _ => rfl)
theorem canvases (s : ByteArray) (a b c d : Int) : ∃ v, (v = true → 1 ≤ a ∧ a ≤ 100000 ∧ 0 ≤ b ∧ b ≤ 1000 ∧ 1 ≤ c ∧ c ≤ 200 ∧ 1 ≤ d ∧ d ≤ 1000000000) ∧ Ev (fun k => spec_l10One.f k s a b c d) v ∧ Ev (fun k => impl_validCanvas.f k s a b c d) v := by
  obtain ⟨n, h1, h2⟩ := names s
  unfold spec_l10One.f impl_validCanvas.f
  cases n with
  | false => exact ⟨false, by simp, ev_bind h1 (ev_now fun _ => rfl), ev_bind h2 (ev_now fun _ => rfl)⟩
  | true =>
    refine ⟨decide (1 ≤ a ∧ a ≤ 100000 ∧ 0 ≤ b ∧ b ≤ 1000 ∧ 1 ≤ c ∧ c ≤ 200 ∧ 1 ≤ d ∧ d ≤ 1000000000), by simp only [decide_eq_true_eq]; exact id, ev_bind h1 (ev_if_pos rfl (ev_now fun _ => ?_)), ev_bind h2 (ev_if_pos rfl (ev_now fun _ => ?_))⟩
    · simp only [specIn]
      by_cases p1 : 1 ≤ a ∧ a ≤ 100000 <;> by_cases p2 : 0 ≤ b ∧ b ≤ 1000 <;> by_cases p3 : 1 ≤ c ∧ c ≤ 200 <;> by_cases p4 : 1 ≤ d ∧ d ≤ 1000000000 <;> simp [p1, p2, p3, p4] <;> omega
    · simp only [implIn]
      by_cases p1 : 1 ≤ a ∧ a ≤ 100000 <;> by_cases p2 : 0 ≤ b ∧ b ≤ 1000 <;> by_cases p3 : 1 ≤ c ∧ c ≤ 200 <;> by_cases p4 : 1 ≤ d ∧ d ≤ 1000000000 <;> simp [p1, p2, p3, p4] <;> omega
/-! ### lists of canvases -/
def cv (x : S23) : S27 := ⟨x.f0, x.f1, x.f2, x.f3, x.f4⟩
theorem szOne (x : S23) (n : Int) (h0 : 0 ≤ n) (hn : n ≤ 1048576) (hx : x.f0.size ≤ maxLen) : ∃ r, r ≤ n ∧ (0 ≤ r ∨ r = -1) ∧ laws_szCanvas.f x.f0 x.f1 x.f2 x.f3 x.f4 n = some r := by
  have hM : maxLen ≤ 9223372036854775807 := by decide
  unfold laws_szCanvas.f
  rw [wrap_in (by omega) (by omega)]
  by_cases h : n - (x.f0.size : Int) < 0
  · exact ⟨-1, by omega, by omega, if_pos h⟩
  · exact ⟨n - (x.f0.size : Int), by omega, by omega, if_neg h⟩
theorem szCl (l : List S23) (hl : l.length < 9223372036854775807) (hx : ∀ x ∈ l, x.f0.size ≤ maxLen) : ∀ (m i : Nat) (n : Int), l.length - i = m → i ≤ l.length → 0 ≤ n → n ≤ 1048576 →
    ∃ r, Ev (fun k => laws_szCanvasS.l0 k l n (i : Int)) r := by
  intro m
  induction m with
  | zero =>
    intro i n h1 h2 h3 h4
    refine ⟨n, ev_end (fun k => ?_)⟩
    simp only [laws_szCanvasS.l0]
    rw [if_neg (by omega)]
  | succ m ih =>
    intro i n h1 h2 h3 h4
    have hi : i < l.length := by omega
    obtain ⟨r, hr1, hr2, hr3⟩ := szOne (l.getD i z23) n h3 h4 (hx _ (mem_getD l z23 i hi))
    have hs : ∀ k, laws_szCanvasS.l0 (k + 1) l n (i : Int) = if r < 0 then some (-1) else laws_szCanvasS.l0 k l r ((i + 1 : Nat) : Int) := by
      intro k
      simp only [laws_szCanvasS.l0]
      rw [if_pos (by omega), if_pos (by omega), succ_cast i (by omega)]
      simp only [rd_T23, Int.toNat_natCast]
      rw [hr3]
      rfl
    by_cases hc : r < 0
    · exact ⟨-1, ev_step (f := fun _ => some (-1)) (fun k => by rw [hs k, if_pos hc]) (ev_now fun _ => rfl)⟩
    · obtain ⟨q, hq⟩ := ih (i + 1) r (by omega) (by omega) (by omega) (by omega)
      exact ⟨q, ev_step (fun k => by rw [hs k, if_neg hc]) hq⟩
theorem szCs (l : List S23) (n : Int) (h0 : 0 ≤ n) (hn : n ≤ 1048576) (hl : l.length ≤ maxLen) (hx : ∀ x ∈ l, x.f0.size ≤ maxLen) : ∃ r, Ev (fun k => laws_szCanvasS.f k l n) r ∧ (¬ r < 0 → l.length ≤ 1048576) := by
  have hM : maxLen ≤ 9223372036854775807 := by decide
  unfold laws_szCanvasS.f
  rw [wrap_in (by omega) (by omega)]
  by_cases h : n - (l.length : Int) < 0
  · exact ⟨-1, ev_if_pos h (ev_now fun _ => rfl), by omega⟩
  · obtain ⟨r, hr⟩ := szCl l (by omega) hx l.length 0 (n - (l.length : Int)) (by omega) (by omega) (by omega) (by omega)
    exact ⟨r, ev_if_neg h hr, fun _ => by omega⟩
theorem toCs (l : List S23) (h : l.length ≤ 1048576) : Ev (fun k => laws_toCanvasS.f k l) (l.map cv) := by
  unfold laws_toCanvasS.f
  refine ev_if_pos (by omega) (ev_if_pos (by omega) ?_)
  exact copyT_loop z23 z27 cv (fun _ x => some (cv x)) (fun k x3 x4 => laws_toCanvasS.l0 k l x3 x4) l (by omega) (fun x _ => ev_now fun _ => rfl) (fun k x3 x4 => by
    simp only [laws_toCanvasS.l0, laws_toCanvas.f, Option.bind_some]
    rfl)
theorem eqC (a : ByteArray) (b c d e : Int) : laws_eqCanvas.f a b c d e a b c d e = some true := by
  unfold laws_eqCanvas.f
  simp
theorem eqCs (l : List S27) (h : l.length ≤ 1048576) : Ev (fun k => laws_eqCanvasS.f k l l) true := by
  unfold laws_eqCanvasS.f
  refine ev_if_pos rfl ?_
  refine eq_loop z27 (fun x => laws_eqCanvas.f x.f0 x.f1 x.f2 x.f3 x.f4 x.f0 x.f1 x.f2 x.f3 x.f4) (fun k x5 => laws_eqCanvasS.l0 k l l x5) l (by omega) (fun x => eqC ..) (fun _ _ => rfl)
/-- A sail's numbers. -/
def InC (x : S27) : Prop := 1 ≤ x.f1 ∧ x.f1 ≤ 100000 ∧ 0 ≤ x.f2 ∧ x.f2 ≤ 1000 ∧ 1 ≤ x.f3 ∧ x.f3 ≤ 200 ∧ 1 ≤ x.f4 ∧ x.f4 ≤ 1000000000
/-- Is the name of i that of one before it? -/
def dup (l : List S27) (i : Nat) : Bool := (l.take i).any (fun y => decide (y.f0.toList = (l.getD i z27).f0.toList))
theorem dup_at {l : List S27} {i j : Nat} (hj : j < i) (hi : i < l.length) (h : (l.getD j z27).f0.toList = (l.getD i z27).f0.toList) : dup l i = true := by
  unfold dup
  rw [List.any_eq_true]
  refine ⟨l.getD j z27, ?_, decide_eq_true h⟩
  rw [List.getD_eq_getElem?_getD, List.getElem?_eq_getElem (by omega)]
  exact List.mem_take_iff_getElem.mpr ⟨j, by omega, rfl⟩
theorem dup_none {l : List S27} {i : Nat} (hi : i < l.length) (h : ∀ j, j < i → ¬ (l.getD j z27).f0.toList = (l.getD i z27).f0.toList) : dup l i = false := by
  cases hd : dup l i with
  | false => rfl
  | true =>
    unfold dup at hd
    rw [List.any_eq_true] at hd
    obtain ⟨y, hy, he⟩ := hd
    obtain ⟨j, hj, rfl⟩ := List.mem_take_iff_getElem.mp hy
    have := h j (by omega)
    rw [List.getD_eq_getElem?_getD (i := j), List.getElem?_eq_getElem (by omega)] at this
    exact absurd (of_decide_eq_true he) this
theorem indexF (l : List S27) (i : Nat) (hi : i < l.length) (hl : l.length ≤ 1048576) (a b c d : Int) : Ev (fun k => impl_Canvas_61.f k (l.take i) (l.getD i z27).f0 a b c d) (dup l i) := by
  unfold impl_Canvas_61.f impl_Canvas_86.f
  have hlen : (l.take i).length = i := by rw [List.length_take]; omega
  have key : ∀ (m j : Nat), i - j = m → j ≤ i → (∀ q, q < j → ¬ (l.getD q z27).f0.toList = (l.getD i z27).f0.toList) → ∃ r, Ev (fun k => impl_Canvas_86.l0 k (l.take i) (i : Int) (j : Int) (l.getD i z27).f0 a b c d) r ∧ decide (r ≥ 0) = dup l i := by
    intro m
    induction m with
    | zero =>
      intro j h1 h2 h3
      refine ⟨-1, ev_end fun k => ?_, ?_⟩
      · simp only [impl_Canvas_86.l0]; rw [if_neg (by omega)]
      · rw [dup_none hi (fun q hq => h3 q (by omega))]; rfl
    | succ m ih =>
      intro j h1 h2 h3
      have e : (l.take i).getD j z27 = l.getD j z27 := by
        rw [List.getD_eq_getElem?_getD, List.getElem?_take, if_pos (by omega), ← List.getD_eq_getElem?_getD]
      have hs : ∀ k, impl_Canvas_86.l0 (k + 1) (l.take i) (i : Int) (j : Int) (l.getD i z27).f0 a b c d = if ((l.getD j z27).f0.toList == (l.getD i z27).f0.toList) = true then some (j : Int) else impl_Canvas_86.l0 k (l.take i) (i : Int) ((j + 1 : Nat) : Int) (l.getD i z27).f0 a b c d := by
        intro k
        simp only [impl_Canvas_86.l0, impl_ValidCanvas_1.f, Option.bind_some]
        rw [if_pos (by omega), if_pos (by omega), if_pos (by omega), succ_cast j (by omega)]
        simp only [rd_T27, Int.toNat_natCast, e]
      by_cases hc : (l.getD j z27).f0.toList = (l.getD i z27).f0.toList
      · refine ⟨(j : Int), ev_step (f := fun _ => some (j : Int)) (fun k => ?_) (ev_now fun _ => rfl), ?_⟩
        · rw [hs k, if_pos (by rw [hc]; exact beq_self_eq_true _)]
        · rw [dup_at (by omega) hi hc, decide_eq_true (by omega)]
      · obtain ⟨r, h4, h5⟩ := ih (j + 1) (by omega) (by omega) (fun q hq => by
          rcases Nat.lt_succ_iff_lt_or_eq.mp hq with h | h
          · exact h3 q h
          · rw [h]; exact hc)
        exact ⟨r, ev_step (fun k => by rw [hs k, if_neg (by rw [beq_iff_eq]; exact hc)]) h4, h5⟩
  obtain ⟨r, h1, h2⟩ := key i 0 (by omega) (by omega) (by omega)
  rw [hlen]
  exact ev_bind h1 (ev_now fun _ => by rw [h2])
theorem innerC (l : List S27) (i : Nat) (hi : i < l.length) (hl : l.length ≤ 1048576) (v : Bool) (hd : dup l i = true → v = false) (hn : dup l i = false → Ev (fun k => spec_l10Ok.l0 k l ((i + 1 : Nat) : Int)) v) : Ev (fun k => spec_l10Ok.l1 k l (i : Int) 0) v := by
  refine loop_up' (fun k j => spec_l10Ok.l1 k l (i : Int) (j : Int)) i v (fun j => ∀ q, q < j → ¬ (l.getD q z27).f0.toList = (l.getD i z27).f0.toList) (fun j hj hI => ?_) (fun hI => ?_) i 0 (by omega) (by omega) (by omega)
  · have hs : ∀ k, spec_l10Ok.l1 (k + 1) l (i : Int) (j : Int) = if (l.getD j z27).f0.toList = (l.getD i z27).f0.toList then some false else spec_l10Ok.l1 k l (i : Int) ((j + 1 : Nat) : Int) := by
      intro k
      simp only [spec_l10Ok.l1]
      rw [if_pos (by omega), if_pos (by omega), if_pos (by omega), if_pos (by omega), if_pos (by omega), succ_cast j (by omega)]
      simp only [rd_T27, Int.toNat_natCast]
      rfl
    by_cases hc : (l.getD j z27).f0.toList = (l.getD i z27).f0.toList
    · refine .inr (ev_step (f := fun _ => some false) (fun k => ?_) (ev_now fun _ => by rw [hd (dup_at hj hi hc)]))
      rw [hs k, if_pos hc]
    · refine .inl ⟨fun q hq => ?_, fun h => ev_step (fun k => by rw [hs k, if_neg hc]) h⟩
      rcases Nat.lt_succ_iff_lt_or_eq.mp hq with h | h
      · exact hI q h
      · rw [h]; exact hc
  · refine ev_step (f := fun k => spec_l10Ok.l0 k l ((i + 1 : Nat) : Int)) (fun k => ?_) (hn (dup_none hi hI))
    simp only [spec_l10Ok.l1]
    rw [if_neg (by omega), succ_cast i (by omega)]
/-- Both find the same lists valid. -/
theorem okCs (l : List S27) (hl : l.length ≤ 1048576) : ∃ v, (v = true → l.length ≤ 10 ∧ ∀ i, i < l.length → InC (l.getD i z27)) ∧ Ev (fun k => spec_l10Ok.f k l) v ∧ Ev (fun k => impl_ValidCanvas.f k l) v := by
  have hone : ∀ x : S27, ∃ v : Bool, (v = true → InC x) ∧ Ev (fun k => spec_l10One.f k x.f0 x.f1 x.f2 x.f3 x.f4) v ∧ Ev (fun k => impl_validCanvas.f k x.f0 x.f1 x.f2 x.f3 x.f4) v := fun x => canvases ..
  obtain ⟨one, hone⟩ := Classical.axiomOfChoice hone
  let good : Nat → Bool := fun i => one (l.getD i z27) && !dup l i
  let v := decide (l.length ≤ 10) && (List.range l.length).all good
  have hbad : ∀ i, i < l.length → good i = false → v = false := by
    intro i hi hg
    show (decide (l.length ≤ 10) && (List.range l.length).all good) = false
    rw [show (List.range l.length).all good = false from ?_, Bool.and_false]
    cases hq : (List.range l.length).all good with
    | false => rfl
    | true => rw [List.all_eq_true.mp hq i (List.mem_range.mpr hi)] at hg; cases hg
  have hend : (∀ i, i < l.length → good i = true) → v = decide (l.length ≤ 10) := by
    intro h
    show (decide (l.length ≤ 10) && (List.range l.length).all good) = _
    rw [show (List.range l.length).all good = true from List.all_eq_true.mpr (fun i hi => h i (List.mem_range.mp hi)), Bool.and_true]
  refine ⟨v, fun hv => ?_, ?_, ?_⟩
  · have hv' : (decide (l.length ≤ 10) && (List.range l.length).all good) = true := hv
    rw [Bool.and_eq_true] at hv'
    refine ⟨of_decide_eq_true hv'.1, fun i hi => (hone _).1 ?_⟩
    have := List.all_eq_true.mp hv'.2 i (List.mem_range.mpr hi)
    simp only [good, Bool.and_eq_true] at this
    exact this.1
  · unfold spec_l10Ok.f
    refine loop_up' (fun k i => spec_l10Ok.l0 k l (i : Int)) l.length v (fun i => ∀ q, q < i → good q = true) (fun i hi hI => ?_) (fun hI => ?_) l.length 0 (by omega) (by omega) (by omega)
    · have hs : ∀ k, spec_l10Ok.l0 (k + 1) l (i : Int) = (spec_l10One.f k (l.getD i z27).f0 (l.getD i z27).f1 (l.getD i z27).f2 (l.getD i z27).f3 (l.getD i z27).f4).bind fun t113 => (if t113 = true then (spec_l10Ok.l1 k l (i : Int) 0) else (some false)) := by
        intro k
        simp only [spec_l10Ok.l0]
        rw [if_pos (by omega), if_pos (by omega)]
        simp only [rd_T27, Int.toNat_natCast]
      cases ho : one (l.getD i z27) with
      | false =>
        refine .inr (ev_step hs (ev_bind (hone _).2.1 ?_))
        rw [ho, hbad i hi (by simp only [good, ho, Bool.false_and])]
        exact ev_now fun _ => rfl
      | true =>
        cases hd : dup l i with
        | true =>
          refine .inr (ev_step hs (ev_bind (hone _).2.1 ?_))
          rw [ho]
          refine ev_if_pos rfl (innerC l i hi hl v (fun _ => hbad i hi (by simp only [good, hd, Bool.not_true, Bool.and_false])) (fun h => by rw [hd] at h; cases h))
        | false =>
          refine .inl ⟨fun q hq => ?_, fun h => ev_step hs (ev_bind (hone _).2.1 ?_)⟩
          · rcases Nat.lt_succ_iff_lt_or_eq.mp hq with h | h
            · exact hI q h
            · rw [h]; simp only [good, ho, hd, Bool.not_false, Bool.and_self]
          · rw [ho]
            exact ev_if_pos rfl (innerC l i hi hl v (fun h => by rw [hd] at h; cases h) (fun _ => h))
    · refine ev_end fun k => ?_
      show spec_l10Ok.l0 (k + 1) l _ = _
      simp only [spec_l10Ok.l0]
      rw [if_neg (by omega), hend hI]
      congr 1
      by_cases h : l.length ≤ 10
      · rw [decide_eq_true h, decide_eq_true (by omega)]
      · rw [decide_eq_false h, decide_eq_false (by omega)]
  · unfold impl_ValidCanvas.f
    by_cases h10 : (l.length : Int) > 10
    · refine ev_if_pos h10 ?_
      have : v = false := by
        show (decide (l.length ≤ 10) && (List.range l.length).all good) = false
        rw [decide_eq_false (by omega), Bool.false_and]
      rw [this]
      exact ev_now fun _ => rfl
    · refine ev_if_neg h10 ?_
      refine loop_up' (fun k i => impl_ValidCanvas.l0 k l l (l.length : Int) (i : Int)) l.length v (fun i => ∀ q, q < i → good q = true) (fun i hi hI => ?_) (fun hI => ?_) l.length 0 (by omega) (by omega) (by omega)
      · have hs : ∀ k, impl_ValidCanvas.l0 (k + 1) l l (l.length : Int) (i : Int) = (impl_validCanvas.f k (l.getD i z27).f0 (l.getD i z27).f1 (l.getD i z27).f2 (l.getD i z27).f3 (l.getD i z27).f4).bind fun t142 => (if t142 = true then ((impl_Canvas_61.f k (l.take i) (l.getD i z27).f0 (l.getD i z27).f1 (l.getD i z27).f2 (l.getD i z27).f3 (l.getD i z27).f4).bind fun t147 => (if t147 = true then (some false) else (impl_ValidCanvas.l0 k l l (l.length : Int) ((i + 1 : Nat) : Int)))) else (some false)) := by
          intro k
          simp only [impl_ValidCanvas.l0]
          rw [if_pos (by omega), if_pos (by omega), if_pos (by omega), if_pos (by omega), succ_cast i (by omega)]
          simp only [rd_T27, Int.toNat_natCast]
        cases ho : one (l.getD i z27) with
        | false =>
          refine .inr (ev_step hs (ev_bind (hone _).2.2 ?_))
          rw [ho, hbad i hi (by simp only [good, ho, Bool.false_and])]
          exact ev_now fun _ => rfl
        | true =>
          cases hd : dup l i with
          | true =>
            refine .inr (ev_step hs (ev_bind (hone _).2.2 ?_))
            rw [ho]
            refine ev_if_pos rfl (ev_bind (indexF l i hi hl _ _ _ _) ?_)
            rw [hd, hbad i hi (by simp only [good, hd, Bool.not_true, Bool.and_false])]
            exact ev_now fun _ => rfl
          | false =>
            refine .inl ⟨fun q hq => ?_, fun h => ev_step hs (ev_bind (hone _).2.2 ?_)⟩
            · rcases Nat.lt_succ_iff_lt_or_eq.mp hq with h | h
              · exact hI q h
              · rw [h]; simp only [good, ho, hd, Bool.not_false, Bool.and_self]
            · rw [ho]
              refine ev_if_pos rfl (ev_bind (indexF l i hi hl _ _ _ _) ?_)
              rw [hd]
              exact ev_if_neg (by decide) h
      · refine ev_end fun k => ?_
        show impl_ValidCanvas.l0 (k + 1) l l _ _ = _
        simp only [impl_ValidCanvas.l0]
        rw [if_neg (by omega), hend hI, decide_eq_true (by omega)]
/-! ### forces, sums, codes -/
def fo (x : S27) (w : Int) : Int := (x.f1 * x.f3 * w * w + 80000) / 160000
theorem fo_prod {x : S27} (h : InC x) {w : Int} (hw : 0 ≤ w ∧ w ≤ 600) : 0 ≤ x.f1 * x.f3 * w * w ∧ x.f1 * x.f3 * w * w ≤ 7200000000000 ∧ 0 ≤ x.f1 * x.f3 ∧ x.f1 * x.f3 ≤ 20000000 ∧ 0 ≤ x.f1 * x.f3 * w ∧ x.f1 * x.f3 * w ≤ 12000000000 := by
  unfold InC at h
  have m1 := mul_bound (a := x.f1) (b := x.f3) (A := 100000) (B := 200) (by omega) (by omega) (by omega) (by omega)
  have m2 := mul_bound (a := x.f1 * x.f3) (b := w) (A := 20000000) (B := 600) (by omega) (by omega) (by omega) (by omega)
  have m3 := mul_bound (a := x.f1 * x.f3 * w) (b := w) (A := 12000000000) (B := 600) (by omega) (by omega) (by omega) (by omega)
  have n0 : 0 ≤ x.f1 * x.f3 := Int.mul_nonneg (by omega) (by omega)
  have n1 : 0 ≤ x.f1 * x.f3 * w := Int.mul_nonneg n0 (by omega)
  have n2 : 0 ≤ x.f1 * x.f3 * w * w := Int.mul_nonneg n1 (by omega)
  omega
theorem fo_bound {x : S27} (h : InC x) {w : Int} (hw : 0 ≤ w ∧ w ≤ 600) : 0 ≤ fo x w ∧ fo x w ≤ 45000000 := by
  have := fo_prod h hw
  unfold fo
  omega
theorem forceOf {x : S27} (h : InC x) {w : Int} (hw : 0 ≤ w ∧ w ≤ 600) : spec_l10Force.f x.f0 x.f1 x.f2 x.f3 x.f4 w = some (fo x w) ∧ impl_windForce.f x.f0 x.f1 x.f2 x.f3 x.f4 w = some (fo x w) := by
  obtain ⟨p0, p1, p2, p3, p4, p5⟩ := fo_prod h hw
  unfold spec_l10Force.f impl_windForce.f spec_l00Round.f spec_l00Floor.f fo
  rw [wrap_in (x := x.f1 * x.f3) (by omega) (by omega), wrap_in (x := x.f1 * x.f3 * w) (by omega) (by omega), wrap_in (x := x.f1 * x.f3 * w * w) (by omega) (by omega)]
  generalize x.f1 * x.f3 * w * w = n at *
  refine ⟨?_, ?_⟩
  · rw [wrap_in (x := 2 * n) (by omega) (by omega), wrap_in (x := 2 * n + 160000) (by omega) (by omega), show wrap64 (2 * 160000) = 320000 from wrap_in (by omega) (by omega)]
    rw [if_neg (by omega), Int.tmod_eq_emod_of_nonneg (by omega), if_neg (by omega), Int.tdiv_eq_ediv_of_nonneg (by omega), wrap_in (by omega) (by omega)]
    simp only [Option.bind_some]
    congr 1
    omega
  · rw [wrap_in (x := n + 80000) (by omega) (by omega), Int.tdiv_eq_ediv_of_nonneg (by omega), wrap_in (by omega) (by omega)]
theorem fo_mono {x : S27} (h : InC x) {v w : Int} (hv : 0 ≤ v) (hvw : v ≤ w) : fo x v ≤ fo x w := by
  unfold InC at h
  have n0 : 0 ≤ x.f1 * x.f3 := Int.mul_nonneg (by omega) (by omega)
  have h1 : x.f1 * x.f3 * v ≤ x.f1 * x.f3 * w := Int.mul_le_mul_of_nonneg_left hvw n0
  have n1 : 0 ≤ x.f1 * x.f3 * v := Int.mul_nonneg n0 hv
  have h2 : x.f1 * x.f3 * v * v ≤ x.f1 * x.f3 * w * w := Int.mul_le_mul h1 hvw hv (by omega)
  unfold fo
  omega
/-- A set of sails: the numbers rise, within the list. -/
def okAt (st : List Int) (n : Int) (i : Nat) : Bool := decide (0 ≤ st.getD i 0 ∧ st.getD i 0 ≤ n - 1) && (decide (i = 0) || decide (st.getD (i - 1) 0 < st.getD i 0))
def riseB (st : List Int) (n : Int) : Bool := (List.range st.length).all (okAt st n)
theorem riseB_bad {st : List Int} {n : Int} {i : Nat} (hi : i < st.length) (h : okAt st n i = false) : riseB st n = false := by
  unfold riseB
  cases hq : (List.range st.length).all (okAt st n) with
  | false => rfl
  | true => rw [List.all_eq_true.mp hq i (List.mem_range.mpr hi)] at h; cases h
theorem riseB_good {st : List Int} {n : Int} (h : ∀ i, i < st.length → okAt st n i = true) : riseB st n = true := List.all_eq_true.mpr (fun i hi => h i (List.mem_range.mp hi))
theorem riseB_at {st : List Int} {n : Int} (h : riseB st n = true) (i : Nat) (hi : i < st.length) : 0 ≤ st.getD i 0 ∧ st.getD i 0 ≤ n - 1 := by
  have := List.all_eq_true.mp h i (List.mem_range.mpr hi)
  unfold okAt at this
  rw [Bool.and_eq_true] at this
  exact of_decide_eq_true this.1
theorem pred_cast (i : Nat) (h0 : 0 < i) (h : i < 9223372036854775807) : wrap64 ((i : Int) - 1) = ((i - 1 : Nat) : Int) := by rw [wrap_in (by omega) (by omega)]; omega
theorem rdN (l : List Int) (i : Nat) : rd l (i : Int) = l.getD i 0 := by simp only [rd, Int.toNat_natCast]
theorem specRises (st : List Int) (n : Int) (hs : st.length ≤ 1048576) : Ev (fun k => spec_l00Rises.f k st 0 (n - 1)) (riseB st n) := by
  unfold spec_l00Rises.f
  refine loop_up' (fun k i => spec_l00Rises.l0 k st 0 (n - 1) (i : Int)) st.length (riseB st n) (fun i => ∀ q, q < i → okAt st n q = true) (fun i hi hI => ?_) (fun hI => ?_) st.length 0 (by omega) (by omega) (by omega)
  · have hs : ∀ k, spec_l00Rises.l0 (k + 1) st 0 (n - 1) (i : Int) = if okAt st n i = true then spec_l00Rises.l0 k st 0 (n - 1) ((i + 1 : Nat) : Int) else some false := by
      intro k
      simp only [spec_l00Rises.l0, specIn, Option.bind_some]
      rw [if_pos (by omega), if_pos (by omega), succ_cast i (by omega), rdN st i]
      by_cases hr : 0 ≤ st.getD i 0 ∧ st.getD i 0 ≤ n - 1
      · rw [decide_eq_true hr, if_pos rfl]
        by_cases h0 : i = 0
        · rw [if_neg (by omega), if_pos]
          unfold okAt; rw [decide_eq_true hr, decide_eq_true h0]; rfl
        · rw [if_pos (by omega), pred_cast i (by omega) (by omega), if_pos (by omega), if_pos (by omega), rdN st (i - 1)]
          by_cases hc : st.getD (i - 1) 0 < st.getD i 0
          · rw [if_neg (by omega), if_pos]
            unfold okAt; rw [decide_eq_true hr, decide_eq_true hc, Bool.or_true]; rfl
          · rw [if_pos (by omega), if_neg]
            unfold okAt; rw [decide_eq_false hc, decide_eq_false h0]; simp
      · rw [decide_eq_false hr, if_neg (by decide), if_neg]
        unfold okAt; rw [decide_eq_false hr]; simp
    cases hc : okAt st n i with
    | true =>
      refine .inl ⟨fun q hq => ?_, fun h => ev_step (fun k => by rw [hs k, if_pos hc]) h⟩
      rcases Nat.lt_succ_iff_lt_or_eq.mp hq with h | h
      · exact hI q h
      · rw [h]; exact hc
    | false => exact .inr (ev_step (f := fun _ => some false) (fun k => by rw [hs k, if_neg (by rw [hc]; decide)]) (ev_now fun _ => by rw [riseB_bad hi hc]))
  · refine ev_end fun k => ?_
    show spec_l00Rises.l0 (k + 1) st 0 (n - 1) _ = _
    simp only [spec_l00Rises.l0]
    rw [if_neg (by omega), riseB_good hI]
def winB (w : Int) : Bool := decide (0 ≤ w ∧ w ≤ 600)
def momB (m : Int) : Bool := decide (0 ≤ m ∧ m ≤ 10000000000)
theorem implSet (l : List S27) (hl : l.length ≤ 10) (st : List Int) (hs : st.length ≤ 1048576) (w m : Int) : Ev (fun k => impl_setCode.l0 k l st w m st (st.length : Int) 0) (if (riseB st l.length && winB w && momB m) = true then 0 else 2) := by
  refine loop_up' (fun k i => impl_setCode.l0 k l st w m st (st.length : Int) (i : Int)) st.length _ (fun i => ∀ q, q < i → okAt st l.length q = true) (fun i hi hI => ?_) (fun hI => ?_) st.length 0 (by omega) (by omega) (by omega)
  · have hs : ∀ k, impl_setCode.l0 (k + 1) l st w m st (st.length : Int) (i : Int) = if okAt st l.length i = true then impl_setCode.l0 k l st w m st (st.length : Int) ((i + 1 : Nat) : Int) else some 2 := by
      intro k
      simp only [impl_setCode.l0, implIn, Option.bind_some]
      rw [if_pos (by omega), if_pos (by omega), if_pos (by omega), succ_cast i (by omega), wrap_in (x := (l.length : Int) - 1) (by omega) (by omega), rdN st i]
      by_cases hr : 0 ≤ st.getD i 0 ∧ st.getD i 0 ≤ (l.length : Int) - 1
      · rw [decide_eq_true hr, if_pos rfl]
        by_cases h0 : i = 0
        · rw [if_neg (by omega), if_pos]
          unfold okAt; rw [decide_eq_true hr, decide_eq_true h0]; rfl
        · rw [if_pos (by omega), pred_cast i (by omega) (by omega), if_pos (by omega), if_pos (by omega), rdN st (i - 1)]
          by_cases hc : st.getD (i - 1) 0 < st.getD i 0
          · rw [if_neg (by omega), if_pos]
            unfold okAt; rw [decide_eq_true hr, decide_eq_true hc, Bool.or_true]; rfl
          · rw [if_pos (by omega), if_neg]
            unfold okAt; rw [decide_eq_false hc, decide_eq_false h0]; simp
      · rw [decide_eq_false hr, if_neg (by decide), if_neg]
        unfold okAt; rw [decide_eq_false hr]; simp
    cases hc : okAt st l.length i with
    | true =>
      refine .inl ⟨fun q hq => ?_, fun h => ev_step (fun k => by rw [hs k, if_pos hc]) h⟩
      rcases Nat.lt_succ_iff_lt_or_eq.mp hq with h | h
      · exact hI q h
      · rw [h]; exact hc
    | false => exact .inr (ev_step (f := fun _ => some 2) (fun k => by rw [hs k, if_neg (by rw [hc]; decide)]) (ev_now fun _ => by rw [riseB_bad hi hc]; rfl))
  · refine ev_end fun k => ?_
    show impl_setCode.l0 (k + 1) l st w m st _ _ = _
    simp only [impl_setCode.l0, implIn, Option.bind_some]
    rw [if_neg (by omega), riseB_good hI]
    unfold winB momB
    by_cases h1 : 0 ≤ w ∧ w ≤ 600 <;> by_cases h2 : 0 ≤ m ∧ m ≤ 10000000000 <;> simp [h1, h2]
/-- Both codes, and what a valid list is. -/
theorem codesW (l : List S27) (hl : l.length ≤ 1048576) (st : List Int) (hs : st.length ≤ 1048576) : ∃ ok : Bool, (ok = true → l.length ≤ 10 ∧ ∀ i, i < l.length → InC (l.getD i z27)) ∧
    (∀ w, Ev (fun k => spec_l10Code.f k l st w) (if ok = true then (if (riseB st l.length && winB w) = true then 0 else 2) else 1)) ∧
    (∀ w m, Ev (fun k => impl_setCode.f k l st w m) (if ok = true then (if (riseB st l.length && winB w && momB m) = true then 0 else 2) else 1)) := by
  obtain ⟨ok, h1, h2, h3⟩ := okCs l hl
  refine ⟨ok, h1, fun w => ?_, fun w m => ?_⟩
  · unfold spec_l10Code.f
    refine ev_bind h2 ?_
    cases ok with
    | false => exact ev_now fun _ => rfl
    | true =>
      have h10 := (h1 rfl).1
      refine ev_if_pos rfl ?_
      rw [if_pos rfl]
      unfold spec_l10Wind.f spec_l10Set.f
      simp only [specIn, Option.bind_some]
      cases hw : winB w with
      | false =>
        unfold winB at hw
        rw [hw, Bool.and_false]
        exact ev_now fun _ => rfl
      | true =>
        unfold winB at hw
        rw [hw, Bool.and_true, wrap_in (x := (l.length : Int) - 1) (by omega) (by omega)]
        refine ev_if_pos rfl (ev_bind (ev_bind (specRises st l.length hs) (ev_now fun _ => rfl)) ?_)
        cases riseB st l.length <;> exact ev_now fun _ => rfl
  · unfold impl_setCode.f
    refine ev_bind h3 ?_
    cases ok with
    | false => exact ev_now fun _ => rfl
    | true =>
      refine ev_if_pos rfl ?_
      rw [if_pos rfl]
      exact implSet l (h1 rfl).1 st hs w m
/-- The i-th sail that is set. -/
def sa (l : List S27) (st : List Int) (i : Nat) : S27 := l.getD (st.getD i 0).toNat z27
def sF (l : List S27) (st : List Int) (w : Int) : Nat → Int
  | 0 => 0
  | i + 1 => sF l st w i + fo (sa l st i) w
def sM (l : List S27) (st : List Int) (w : Int) : Nat → Int
  | 0 => 0
  | i + 1 => sM l st w i + fo (sa l st i) w * (sa l st i).f2
def sB (l : List S27) (st : List Int) (w : Int) : Nat → Bool
  | 0 => true
  | i + 1 => sB l st w i && decide (fo (sa l st i) w ≤ (sa l st i).f4)
/-- What a call with a valid list and set knows. -/
structure Fine (l : List S27) (st : List Int) : Prop where
  len : l.length ≤ 10
  inc : ∀ i, i < l.length → InC (l.getD i z27)
  rise : ∀ i, i < st.length → 0 ≤ st.getD i 0 ∧ st.getD i 0 ≤ (l.length : Int) - 1
  many : st.length ≤ 1048576
theorem Fine.at_ {l : List S27} {st : List Int} (h : Fine l st) (i : Nat) (hi : i < st.length) : InC (sa l st i) := by
  have := h.rise i hi
  exact h.inc _ (by omega)
theorem sum_bound {l : List S27} {st : List Int} (h : Fine l st) {w : Int} (hw : 0 ≤ w ∧ w ≤ 600) : ∀ i, i ≤ st.length → 0 ≤ sF l st w i ∧ sF l st w i ≤ 45000000 * i ∧ 0 ≤ sM l st w i ∧ sM l st w i ≤ 45000000000 * i
  | 0, _ => by simp [sF, sM]
  | i + 1, hi => by
    have ih := sum_bound h hw i (by omega)
    have hx := h.at_ i (by omega)
    have hb := fo_bound hx hw
    have hf2 : 0 ≤ (sa l st i).f2 ∧ (sa l st i).f2 ≤ 1000 := by unfold InC at hx; exact ⟨hx.2.2.1, hx.2.2.2.1⟩
    have n0 : 0 ≤ fo (sa l st i) w * (sa l st i).f2 := Int.mul_nonneg hb.1 hf2.1
    have n1 := mul_bound (a := fo (sa l st i) w) (b := (sa l st i).f2) (A := 45000000) (B := 1000) (by omega) (by omega) (by omega) (by omega)
    simp only [sF, sM]
    omega
theorem implSums {l : List S27} {st : List Int} (h : Fine l st) {w : Int} (hw : 0 ≤ w ∧ w ≤ 600) : Ev (fun k => impl_setSums.f k l st w) (sF l st w st.length, sM l st w st.length, sB l st w st.length) := by
  unfold impl_setSums.f
  refine loop_all (fun k i => impl_setSums.l0 k l w (sF l st w i) (sM l st w i) (sB l st w i) st (st.length : Int) (i : Int)) st.length _ (fun i hi k => ?_) (ev_end fun k => ?_)
  · show impl_setSums.l0 (k + 1) _ _ _ _ _ _ _ _ = impl_setSums.l0 k _ _ _ _ _ _ _ _
    have hm := h.many
    have h10 := h.len
    have hr := h.rise i hi
    have hx := h.at_ i hi
    have hb := fo_bound hx hw
    have hf2 : 0 ≤ (sa l st i).f2 ∧ (sa l st i).f2 ≤ 1000 := by unfold InC at hx; exact ⟨hx.2.2.1, hx.2.2.2.1⟩
    have n0 : 0 ≤ fo (sa l st i) w * (sa l st i).f2 := Int.mul_nonneg hb.1 hf2.1
    have n1 := mul_bound (a := fo (sa l st i) w) (b := (sa l st i).f2) (A := 45000000) (B := 1000) (by omega) (by omega) (by omega) (by omega)
    have ih := sum_bound h hw i (by omega)
    have e : rd_T27 l (rd st (i : Int)) = sa l st i := by simp only [rd_T27, rd, Int.toNat_natCast]; rfl
    have e2 : rd st (i : Int) = st.getD i 0 := by simp only [rd, Int.toNat_natCast]
    simp only [impl_setSums.l0]
    rw [if_pos (by omega), if_pos (by omega), if_pos (by omega), if_pos (by rw [e2]; omega), if_pos (by rw [e2]; omega), e, (forceOf hx hw).2, Option.bind_some, succ_cast i (by omega), wrap_in (x := fo (sa l st i) w * (sa l st i).f2) (by omega) (by omega), wrap_in (x := sF l st w i + fo (sa l st i) w) (by omega) (by omega), wrap_in (x := sM l st w i + fo (sa l st i) w * (sa l st i).f2) (by omega) (by omega)]
    cases hc : sB l st w i with
    | true => rw [if_pos rfl, show sB l st w (i + 1) = decide (fo (sa l st i) w ≤ (sa l st i).f4) by simp only [sB, hc, Bool.true_and]]; rfl
    | false => rw [if_neg (by decide), show sB l st w (i + 1) = false by simp only [sB, hc, Bool.false_and]]; rfl
  · show impl_setSums.l0 (k + 1) _ _ _ _ _ _ _ _ = _
    simp only [impl_setSums.l0]
    rw [if_neg (by omega)]
theorem specTotal {l : List S27} {st : List Int} (h : Fine l st) {w : Int} (hw : 0 ≤ w ∧ w ≤ 600) : Ev (fun k => spec_l10Total.f k l st w) (sF l st w st.length, sM l st w st.length) := by
  unfold spec_l10Total.f
  refine loop_all (fun k i => spec_l10Total.l0 k l st w (sF l st w i) (sM l st w i) (i : Int)) st.length _ (fun i hi k => ?_) (ev_end fun k => ?_)
  · show spec_l10Total.l0 (k + 1) _ _ _ _ _ _ = spec_l10Total.l0 k _ _ _ _ _ _
    have hm := h.many
    have h10 := h.len
    have hr := h.rise i hi
    have hx := h.at_ i hi
    have hb := fo_bound hx hw
    have hf2 : 0 ≤ (sa l st i).f2 ∧ (sa l st i).f2 ≤ 1000 := by unfold InC at hx; exact ⟨hx.2.2.1, hx.2.2.2.1⟩
    have n0 : 0 ≤ fo (sa l st i) w * (sa l st i).f2 := Int.mul_nonneg hb.1 hf2.1
    have n1 := mul_bound (a := fo (sa l st i) w) (b := (sa l st i).f2) (A := 45000000) (B := 1000) (by omega) (by omega) (by omega) (by omega)
    have ih := sum_bound h hw i (by omega)
    have e : rd_T27 l (rd st (i : Int)) = sa l st i := by simp only [rd_T27, rd, Int.toNat_natCast]; rfl
    have e2 : rd st (i : Int) = st.getD i 0 := by simp only [rd, Int.toNat_natCast]
    simp only [spec_l10Total.l0]
    rw [if_pos (by omega), if_pos (by omega), if_pos (by rw [e2]; omega), if_pos (by rw [e2]; omega), e, (forceOf hx hw).1, Option.bind_some, succ_cast i (by omega), wrap_in (x := fo (sa l st i) w * (sa l st i).f2) (by omega) (by omega), wrap_in (x := sF l st w i + fo (sa l st i) w) (by omega) (by omega), wrap_in (x := sM l st w i + fo (sa l st i) w * (sa l st i).f2) (by omega) (by omega)]
    rfl
  · show spec_l10Total.l0 (k + 1) _ _ _ _ _ _ = _
    simp only [spec_l10Total.l0]
    rw [if_neg (by omega)]
/-! ### what stands a wind -/
def stB (l : List S27) (st : List Int) (w m : Int) : Bool := sB l st w st.length && decide (sM l st w st.length ≤ m)
theorem implStands {l : List S27} {st : List Int} (h : Fine l st) {w : Int} (hw : 0 ≤ w ∧ w ≤ 600) (m : Int) : Ev (fun k => impl_standsWind.f k l st w m) (stB l st w m) := by
  unfold impl_standsWind.f stB
  refine ev_bind (implSums h hw) ?_
  cases hb : sB l st w st.length with
  | true => exact ev_if_pos rfl (ev_now fun _ => by rw [Bool.true_and])
  | false => exact ev_if_neg (by simp) (ev_now fun _ => rfl)
theorem sB_bad {l : List S27} {st : List Int} {w : Int} (i : Nat) (h : ¬ fo (sa l st i) w ≤ (sa l st i).f4) : ∀ n, i < n → sB l st w n = false
  | 0, hi => by omega
  | n + 1, hi => by
    simp only [sB]
    rcases Nat.lt_succ_iff_lt_or_eq.mp hi with h2 | h2
    · rw [sB_bad i h n h2, Bool.false_and]
    · rw [← h2, decide_eq_false h, Bool.and_false]
theorem sB_all {l : List S27} {st : List Int} {w : Int} : ∀ n, (∀ i, i < n → fo (sa l st i) w ≤ (sa l st i).f4) → sB l st w n = true
  | 0, _ => rfl
  | n + 1, h => by
    simp only [sB]
    rw [sB_all n (fun i hi => h i (by omega)), decide_eq_true (h n (by omega))]
    rfl
theorem sB_at {l : List S27} {st : List Int} {w : Int} {n : Nat} (h : sB l st w n = true) (i : Nat) (hi : i < n) : fo (sa l st i) w ≤ (sa l st i).f4 := by
  by_cases hc : fo (sa l st i) w ≤ (sa l st i).f4
  · exact hc
  · rw [sB_bad i hc n hi] at h; cases h
theorem specStand {l : List S27} {st : List Int} (h : Fine l st) {w : Int} (hw : 0 ≤ w ∧ w ≤ 600) (m : Int) : Ev (fun k => spec_l10Stand.f k l st w m) (stB l st w m) := by
  unfold spec_l10Stand.f
  have hm := h.many
  have h10 := h.len
  refine loop_up' (fun k i => spec_l10Stand.l0 k l st w m (i : Int)) st.length _ (fun i => ∀ q, q < i → fo (sa l st q) w ≤ (sa l st q).f4) (fun i hi hI => ?_) (fun hI => ?_) st.length 0 (by omega) (by omega) (by omega)
  · have hr := h.rise i hi
    have hx := h.at_ i hi
    have e : rd_T27 l (rd st (i : Int)) = sa l st i := by simp only [rd_T27, rd, Int.toNat_natCast]; rfl
    have hs : ∀ k, spec_l10Stand.l0 (k + 1) l st w m (i : Int) = if fo (sa l st i) w > (sa l st i).f4 then some false else spec_l10Stand.l0 k l st w m ((i + 1 : Nat) : Int) := by
      intro k
      simp only [spec_l10Stand.l0]
      rw [e, if_pos (by omega), if_pos (by omega), if_pos (by rw [rdN]; omega), if_pos (by rw [rdN]; omega), (forceOf hx hw).1, Option.bind_some, succ_cast i (by omega)]
    by_cases hc : fo (sa l st i) w ≤ (sa l st i).f4
    · refine .inl ⟨fun q hq => ?_, fun h => ev_step (fun k => by rw [hs k, if_neg (by omega)]) h⟩
      rcases Nat.lt_succ_iff_lt_or_eq.mp hq with h | h
      · exact hI q h
      · rw [h]; exact hc
    · refine .inr (ev_step (f := fun _ => some false) (fun k => by rw [hs k, if_pos (by omega)]) (ev_now fun _ => ?_))
      unfold stB
      rw [sB_bad i hc _ hi, Bool.false_and]
  · have hs : ∀ k, spec_l10Stand.l0 (k + 1) l st w m (st.length : Int) = ((spec_l10Total.f k l st w).bind fun bt186 => (some (decide (bt186.2 ≤ m)))) := by
      intro k
      simp only [spec_l10Stand.l0]
      rw [if_neg (by omega)]
    refine ev_step hs (ev_bind (specTotal h hw) (ev_now fun _ => ?_))
    unfold stB
    rw [sB_all _ hI, Bool.true_and]
theorem sM_mono {l : List S27} {st : List Int} (h : Fine l st) {v w : Int} (hv : 0 ≤ v) (hvw : v ≤ w) : ∀ i, i ≤ st.length → sM l st v i ≤ sM l st w i
  | 0, _ => Int.le_refl _
  | i + 1, hi => by
    have ih := sM_mono h hv hvw i (by omega)
    have hx := h.at_ i (by omega)
    have hf := fo_mono hx hv hvw
    have hf2 : 0 ≤ (sa l st i).f2 := by unfold InC at hx; exact hx.2.2.1
    have := Int.mul_le_mul_of_nonneg_right hf hf2
    simp only [sM]
    omega
/-- Less wind is stood, too. -/
theorem stB_mono {l : List S27} {st : List Int} (h : Fine l st) {v w m : Int} (hv : 0 ≤ v) (hvw : v ≤ w) (hs : stB l st w m = true) : stB l st v m = true := by
  unfold stB at *
  rw [Bool.and_eq_true] at *
  refine ⟨sB_all _ (fun i hi => ?_), decide_eq_true ?_⟩
  · have := sB_at hs.1 i hi
    have := fo_mono (h.at_ i hi) hv hvw
    omega
  · have := of_decide_eq_true hs.2
    have := sM_mono h hv hvw st.length (by omega)
    omega
theorem fo_zero (x : S27) : fo x 0 = 0 := by unfold fo; simp
theorem stB_zero {l : List S27} {st : List Int} (h : Fine l st) {m : Int} (hm : 0 ≤ m) : stB l st 0 m = true := by
  unfold stB
  rw [Bool.and_eq_true]
  refine ⟨sB_all _ (fun i hi => ?_), decide_eq_true ?_⟩
  · rw [fo_zero]
    have := h.at_ i hi
    unfold InC at this
    omega
  · have : ∀ i, sM l st 0 i = 0 := by
      intro i
      induction i with
      | zero => rfl
      | succ i ih => simp only [sM, ih, fo_zero]; simp
    rw [this]
    exact hm
/-- The greatest wind that is stood. -/
theorem top_ex {l : List S27} {st : List Int} (h : Fine l st) {m : Int} (hm : 0 ≤ m) : ∃ t : Nat, t ≤ 600 ∧ (∀ w : Int, 0 ≤ w → w ≤ t → stB l st w m = true) ∧ (∀ w : Int, (t : Int) < w → w ≤ 600 → stB l st w m = false) := by
  have key : ∀ (d : Nat), d ≤ 600 → (∀ w : Int, ((600 - d : Nat) : Int) < w → w ≤ 600 → stB l st w m = false) → ∃ t : Nat, t ≤ 600 ∧ (∀ w : Int, 0 ≤ w → w ≤ t → stB l st w m = true) ∧ (∀ w : Int, (t : Int) < w → w ≤ 600 → stB l st w m = false) := by
    intro d
    suffices ∀ (q d : Nat), 600 - d = q → d ≤ 600 → (∀ w : Int, ((600 - d : Nat) : Int) < w → w ≤ 600 → stB l st w m = false) → ∃ t : Nat, t ≤ 600 ∧ (∀ w : Int, 0 ≤ w → w ≤ t → stB l st w m = true) ∧ (∀ w : Int, (t : Int) < w → w ≤ 600 → stB l st w m = false) from this _ d rfl
    intro q
    induction q with
    | zero =>
      intro d h1 h2 h3
      refine ⟨0, by omega, fun w h4 h5 => ?_, fun w h4 h5 => h3 w (by omega) h5⟩
      obtain rfl : w = 0 := by omega
      exact stB_zero h hm
    | succ q ih =>
      intro d h1 h2 h3
      cases hc : stB l st ((600 - d : Nat) : Int) m with
      | true => exact ⟨600 - d, by omega, fun w h4 h5 => stB_mono h h4 h5 hc, h3⟩
      | false =>
        refine ih (d + 1) (by omega) (by omega) (fun w h4 h5 => ?_)
        by_cases he : w = ((600 - d : Nat) : Int)
        · rw [he]; exact hc
        · exact h3 w (by omega) h5
  exact key 0 (by omega) (fun w h1 h2 => by omega)
/-! ### marks on rows of numbers -/
def mkI (a : Int) (n : Nat) : List Int := (List.range n).map (fun i : Nat => a + (i : Int))
theorem mkI_len (a : Int) (n : Nat) : (mkI a n).length = n := by simp [mkI]
theorem mkI_succ (a : Int) (n : Nat) : mkI a (n + 1) = mkI a n ++ [a + (n : Int)] := by simp [mkI, List.range_succ]
theorem set_mid {α : Type} (a b : List α) (y x : α) (i : Nat) (h : a.length = i) : (a ++ y :: b).set i x = (a ++ [x]) ++ b := by
  subst h
  rw [List.set_append_right _ _ (Nat.le_refl _)]
  simp
theorem marksI (l : List Int) (a : Int) (h0 : 0 ≤ a) (h : a + l.length ≤ 4611686018427387904) : Ev (fun k => laws_markInt64S.f k l a) (a + l.length, mkI a l.length) := by
  unfold laws_markInt64S.f
  have key := loop_all (fun k i => laws_markInt64S.l0 k (mkI a i ++ l.drop i) (a + (i : Int)) (i : Int)) l.length (a + (l.length : Int), mkI a l.length) (fun i hi k => ?_) (ev_end fun k => ?_)
  · simpa [mkI] using key
  · show laws_markInt64S.l0 (k + 1) _ _ _ = laws_markInt64S.l0 k _ _ _
    have hlen : (mkI a i ++ l.drop i).length = l.length := by simp [mkI_len]; omega
    simp only [laws_markInt64S.l0]
    have e : l.drop i = l[i] :: l.drop (i + 1) := List.drop_eq_getElem_cons hi
    rw [hlen, if_pos (by omega), if_pos (by omega), Int.toNat_natCast, e, set_mid _ _ _ _ _ (mkI_len a i), ← mkI_succ, wrap_in (x := a + (i : Int) + 1) (by omega) (by omega), succ_cast i (by omega)]
    have e2 : a + (i : Int) + 1 = a + ((i + 1 : Nat) : Int) := by omega
    rw [e2]
  · show laws_markInt64S.l0 (k + 1) _ _ _ = _
    simp only [laws_markInt64S.l0]
    have hlen : (mkI a l.length ++ l.drop l.length).length = l.length := by simp [mkI_len]
    rw [hlen, if_neg (by omega)]
    simp
theorem heldI (n : Nat) (a : Int) (h0 : 0 ≤ a) (h : a + n ≤ 4611686018427387904) : Ev (fun k => laws_heldInt64S.f k (mkI a n) a) (a + n) := by
  unfold laws_heldInt64S.f
  have key := loop_all (fun k i => laws_heldInt64S.l0 k (mkI a n) (a + (i : Int)) (i : Int)) n (a + (n : Int)) (fun i hi k => ?_) (ev_end fun k => ?_)
  · simpa using key
  · show laws_heldInt64S.l0 (k + 1) _ _ _ = laws_heldInt64S.l0 k _ _ _
    have e : rd (mkI a n) (i : Int) = a + (i : Int) := by
      unfold rd
      rw [Int.toNat_natCast, List.getD_eq_getElem?_getD, List.getElem?_eq_getElem (by rw [mkI_len]; exact hi)]
      simp [mkI]
    simp only [laws_heldInt64S.l0, e]
    rw [mkI_len, if_pos (by omega), if_pos (by omega), if_pos trivial, wrap_in (x := a + (i : Int) + 1) (by omega) (by omega), succ_cast i (by omega)]
    have e2 : a + (i : Int) + 1 = a + ((i + 1 : Nat) : Int) := by omega
    rw [e2]
  · show laws_heldInt64S.l0 (k + 1) _ _ _ = _
    simp only [laws_heldInt64S.l0]
    rw [mkI_len, if_neg (by omega)]
/-! ### marks on canvases -/
theorem strOne (z : Int) : (strOfNums [z]).size = 1 := by simp [strOfNums, ByteArray.size]
theorem markText : ∀ (n : Nat) (x : Int) (t : ByteArray), x.toNat ≤ n → 0 ≤ x → x ≤ 1000000000 → t.size + n ≤ 2000000000 → ∃ r, Ev (fun k => laws_markText.l0 k x t) r := by
  intro n
  induction n with
  | zero =>
    intro x t h1 h2 h3 h4
    refine ⟨(⟨#[109]⟩ : ByteArray) ++ t, ev_end (fun k => ?_)⟩
    simp only [laws_markText.l0]
    rw [if_neg (by omega), if_pos (by omega)]
  | succ n ih =>
    intro x t h1 h2 h3 h4
    by_cases h0 : x > 0
    · have e : wrap64 (Int.tdiv x 10) = x / 10 := by rw [Int.tdiv_eq_ediv_of_nonneg (by omega), wrap_in (by omega) (by omega)]
      have hsz : ((strOfNums [wrap64 (48 + Int.tmod x 10) % 256]) ++ t).size = 1 + t.size := by rw [ByteArray.size_append, strOne]
      obtain ⟨r, hr⟩ := ih (x / 10) ((strOfNums [wrap64 (48 + Int.tmod x 10) % 256]) ++ t) (by omega) (by omega) (by omega) (by omega)
      refine ⟨r, ev_step (fun k => ?_) hr⟩
      simp only [laws_markText.l0, Option.bind_some]
      rw [if_pos h0, if_pos (by rw [strOne]; omega), e]
    · refine ⟨(⟨#[109]⟩ : ByteArray) ++ t, ev_end (fun k => ?_)⟩
      simp only [laws_markText.l0]
      rw [if_neg h0, if_pos (by omega)]
theorem markTextF (x : Int) (h0 : 0 ≤ x) (h : x ≤ 1000000000) : ∃ r, Ev (fun k => laws_markText.f k x) r := by
  unfold laws_markText.f
  by_cases c : x ≤ 0
  · exact ⟨_, ev_if_pos c (ev_now fun _ => rfl)⟩
  · obtain ⟨r, hr⟩ := markText x.toNat x ⟨#[]⟩ (Nat.le_refl _) h0 h (by show 0 + _ ≤ _; omega)
    exact ⟨r, ev_if_neg c hr⟩
theorem ev_succ {α : Type} {g : Nat → Option α} {r : α} (h : Ev (fun k => g (k + 1)) r) : Ev g r := Ev.step (fun _ => rfl) h
theorem ev_ex {α : Type} {g : Nat → Option α} {r : α} (h : Ev g r) : ∃ k, g k = some r := by obtain ⟨n, h⟩ := h; exact ⟨n, h n (Nat.le_refl n)⟩
def cvNext (l : List S27) (i a : Int) (t : ByteArray) : List S27 :=
  let y0 := l.set i.toNat (⟨t, (rd_T27 l i).f1, (rd_T27 l i).f2, (rd_T27 l i).f3, (rd_T27 l i).f4⟩ : S27)
  let y1 := y0.set i.toNat (⟨(rd_T27 y0 i).f0, wrap64 (a + 1), (rd_T27 y0 i).f2, (rd_T27 y0 i).f3, (rd_T27 y0 i).f4⟩ : S27)
  let y2 := y1.set i.toNat (⟨(rd_T27 y1 i).f0, (rd_T27 y1 i).f1, wrap64 (wrap64 (a + 1) + 1), (rd_T27 y1 i).f3, (rd_T27 y1 i).f4⟩ : S27)
  let y3 := y2.set i.toNat (⟨(rd_T27 y2 i).f0, (rd_T27 y2 i).f1, (rd_T27 y2 i).f2, wrap64 (wrap64 (wrap64 (a + 1) + 1) + 1), (rd_T27 y2 i).f4⟩ : S27)
  y3.set i.toNat (⟨(rd_T27 y3 i).f0, (rd_T27 y3 i).f1, (rd_T27 y3 i).f2, (rd_T27 y3 i).f3, wrap64 (wrap64 (wrap64 (wrap64 (a + 1) + 1) + 1) + 1)⟩ : S27)
theorem cvNext_len (l : List S27) (i a : Int) (t : ByteArray) : (cvNext l i a t).length = l.length := by simp only [cvNext, List.length_set]
theorem marksCv (n : Nat) (hn : n ≤ 1048576) : ∀ (m i : Nat) (l : List S27) (a : Int), n - i = m → i ≤ n → l.length = n → 0 ≤ a → a + 5 * m ≤ 10000000 →
    ∃ b l', Ev (fun k => laws_markCanvasS.l0 k l a (i : Int)) (b, l') ∧ 0 ≤ b := by
  intro m
  induction m with
  | zero =>
    intro i l a h1 h2 h3 h4 h5
    refine ⟨a, l, ev_end (fun k => ?_), h4⟩
    simp only [laws_markCanvasS.l0]
    rw [if_neg (by omega)]
  | succ m ih =>
    intro i l a h1 h2 h3 h4 h5
    obtain ⟨t, ht⟩ := markTextF a h4 (by omega)
    obtain ⟨b, l', hb, hb0⟩ := ih (i + 1) (cvNext l i a t) (a + 5) (by omega) (by omega) (by rw [cvNext_len]; exact h3) (by omega) (by omega)
    have e1 : wrap64 (a + 1) = a + 1 := wrap_in (by omega) (by omega)
    have e2 : wrap64 (a + 1 + 1) = a + 2 := by rw [wrap_in (by omega) (by omega)]; omega
    have e3 : wrap64 (a + 2 + 1) = a + 3 := by rw [wrap_in (by omega) (by omega)]; omega
    have e4 : wrap64 (a + 3 + 1) = a + 4 := by rw [wrap_in (by omega) (by omega)]; omega
    have e5 : wrap64 (a + 4 + 1) = a + 5 := by rw [wrap_in (by omega) (by omega)]; omega
    refine ⟨b, l', ev_succ ?_, hb0⟩
    simp only [laws_markCanvasS.l0]
    refine ev_if_pos (by omega) (ev_bind ht (ev_if_pos (by omega) ?_))
    show Ev (fun k => laws_markCanvasS.l0 k (cvNext l i a t) (wrap64 (wrap64 (wrap64 (wrap64 (wrap64 (a + 1) + 1) + 1) + 1) + 1)) (wrap64 ((i : Int) + 1))) (b, l')
    rw [e1, e2, e3, e4, e5, succ_cast i (by omega)]
    exact hb
/-! ### both searches are the same -/
theorem foldl_ext' {S α : Type} {f g : S → α → S} : ∀ (l : List α) (s : S), (∀ s, ∀ x ∈ l, f s x = g s x) → l.foldl f s = l.foldl g s
  | [], _, _ => rfl
  | x :: l, s, h => by
    simp only [List.foldl_cons]
    rw [h s x (List.mem_cons_self ..)]
    exact foldl_ext' l _ (fun s y hy => h s y (List.mem_cons_of_mem _ hy))
theorem foldl_inv {S α : Type} {f : S → α → S} (P : S → Prop) : ∀ (l : List α) (s : S), P s → (∀ s, ∀ x ∈ l, P s → P (f s x)) → P (l.foldl f s)
  | [], _, h, _ => h
  | x :: l, s, h, hf => foldl_inv P l (f s x) (hf s x (List.mem_cons_self ..) h) (fun s y hy => hf s y (List.mem_cons_of_mem _ hy))
theorem wk_congr {st st' : List Int → Bool} {fo fo' : List Int → Int} {N : Nat} (h : ∀ set i, SetIn set i → i ≤ N → st set = st' set ∧ fo set = fo' set) : ∀ (m : Nat) (s : List Int × Int) (set : List Int) (i : Nat), SetIn set i → i ≤ N → wk st fo N m s set i = wk st' fo' N m s set i := by
  intro m
  induction m with
  | zero => intro s set i h1 h2; rfl
  | succ m ih =>
    intro s set i h1 h2
    simp only [wk]
    rw [(h set i h1 h2).1, (h set i h1 h2).2]
    split
    · refine foldl_ext' _ _ (fun s j hj => ?_)
      rw [List.mem_range'_1] at hj
      exact ih s _ (j + 1) (SetIn.snoc h1 hj.1) (by omega)
    · rfl
theorem wk_len (st : List Int → Bool) (fo : List Int → Int) (N : Nat) : ∀ (m : Nat) (s : List Int × Int) (set : List Int) (i : Nat), SetIn set i → i ≤ N → s.1.length ≤ N → (wk st fo N m s set i).1.length ≤ N := by
  intro m
  induction m with
  | zero => intro s set i h1 h2 h3; exact h3
  | succ m ih =>
    intro s set i h1 h2 h3
    simp only [wk]
    split
    · refine foldl_inv (fun (s : List Int × Int) => s.1.length ≤ N) _ _ ?_ (fun s j hj hs => ?_)
      · split
        · exact Nat.le_trans h1.1 h2
        · exact h3
      · rw [List.mem_range'_1] at hj
        exact ih s _ (j + 1) (SetIn.snoc h1 hj.1) (by omega) hs
    · exact h3
theorem fine_of {L : List S27} (h10 : L.length ≤ 10) (hinc : ∀ i, i < L.length → InC (L.getD i z27)) {set : List Int} {i : Nat} (h1 : SetIn set i) (h2 : i ≤ L.length) : Fine L set := by
  refine ⟨h10, hinc, fun q hq => ?_, by have := h1.1; omega⟩
  have := h1.2 (set.getD q 0) (by rw [List.getD_eq_getElem?_getD, List.getElem?_eq_getElem hq]; exact List.getElem_mem hq)
  omega
noncomputable def bestC (L : List S27) (wd mt : Int) : List Int × Int := wk (fun set => stB L set wd mt) (fun set => sF L set wd set.length) L.length (L.length + 1) ([], 0) [] 0
theorem setIn_nil : SetIn [] 0 := ⟨by simp, by simp⟩
theorem bestC_I {L : List S27} (h10 : L.length ≤ 10) (hinc : ∀ i, i < L.length → InC (L.getD i z27)) {wd mt : Int} (hw : 0 ≤ wd ∧ wd ≤ 600) : BsOk L wd mt ∧ bestI L wd mt = bestC L wd mt := by
  refine ⟨⟨by omega, fun set i h1 h2 => ⟨⟨_, ev_ex (implStands (fine_of h10 hinc h1 h2) hw mt)⟩, ⟨_, ev_ex (implSums (fine_of h10 hinc h1 h2) hw)⟩⟩⟩, ?_⟩
  unfold bestI bestC
  refine wk_congr (fun set i h1 h2 => ⟨?_, ?_⟩) _ _ _ _ setIn_nil (by omega)
  · unfold stI; exact theOf_eq (fun k => impl_standsWind.mono _ _ _ _ k) (ev_ex (implStands (fine_of h10 hinc h1 h2) hw mt))
  · unfold foI; rw [theOf_eq (fun k => impl_setSums.mono _ _ _ k) (ev_ex (implSums (fine_of h10 hinc h1 h2) hw))]
theorem bestC_S {L : List S27} (h10 : L.length ≤ 10) (hinc : ∀ i, i < L.length → InC (L.getD i z27)) {wd mt : Int} (hw : 0 ≤ wd ∧ wd ≤ 600) (hm : 0 ≤ mt) : SpOk L wd mt ∧ bestS L wd mt = bestC L wd mt := by
  refine ⟨⟨by omega, fun set i h1 h2 => ⟨⟨_, ev_ex (specStand (fine_of h10 hinc h1 h2) hw mt)⟩, ⟨_, ev_ex (specTotal (fine_of h10 hinc h1 h2) hw)⟩⟩⟩, ?_⟩
  have e : bestS L wd mt = wk (fun set => stB L set wd mt) (fun set => sF L set wd set.length) L.length (L.length + 1) ([], -1) [] 0 := by
    unfold bestS
    refine wk_congr (fun set i h1 h2 => ⟨?_, ?_⟩) _ _ _ _ setIn_nil (by omega)
    · unfold stS; exact theOf_eq (fun k => spec_l10Stand.mono _ _ _ _ k) (ev_ex (specStand (fine_of h10 hinc h1 h2) hw mt))
    · unfold foS; rw [theOf_eq (fun k => spec_l10Total.mono _ _ _ k) (ev_ex (specTotal (fine_of h10 hinc h1 h2) hw))]
  have hst : stB L [] wd mt = true := by
    unfold stB
    show (true && decide ((0 : Int) ≤ mt)) = true
    rw [decide_eq_true hm]; rfl
  rw [e]
  unfold bestC
  simp only [wk, hst, if_true]
  rfl
theorem FnExactBestSet : Say.FnExactBestSet := by
  classical
  intro l wd mt hl _ _
  apply Ev.rounds
  unfold laws_FnExactBestSet.f
  obtain ⟨r, h1, h2⟩ := szCs l 1048576 (by omega) (by omega) hl.1 (fun x hx => (hl.2 x hx).1)
  refine ev_bind h1 ?_
  by_cases hr : r < 0
  · exact ev_if_pos hr (ev_now fun _ => rfl)
  have hn := h2 hr
  have hm : (l.map cv).length ≤ 1048576 := by rw [List.length_map]; exact hn
  obtain ⟨ok, hok, c1, c2⟩ := codesW (l.map cv) hm [] (by simp)
  have key : ∃ w f c, Ev (fun k => spec_BestSet.f k (l.map cv) wd mt) (w, f, c) ∧ Ev (fun k => impl_BestSet.f k (l.map cv) wd mt) (w, f, c) ∧ w.length ≤ 10 := by
    have c1 := c1 wd
    have c2 := c2 wd mt
    rw [show riseB [] ((l.map cv).length : Int) = true from rfl, Bool.true_and] at c1 c2
    have hmo : spec_l10Moment.f mt = some (momB mt) := by unfold spec_l10Moment.f; simp only [specIn, Option.bind_some]; rfl
    unfold spec_BestSet.f impl_BestSet.f
    rw [hmo]
    cases ok with
    | false =>
      rw [if_neg (by decide)] at c1 c2
      exact ⟨[], 0, 1, ev_bind c1 (ev_if_neg (by decide) (ev_now fun _ => rfl)), ev_bind c2 (ev_if_neg (by decide) (ev_now fun _ => rfl)), by simp⟩
    | true =>
      rw [if_pos rfl] at c1 c2
      obtain ⟨h10, hinc⟩ := hok rfl
      cases hw : winB wd with
      | false =>
        rw [hw] at c1 c2
        rw [Bool.false_and] at c2
        exact ⟨[], 0, 2, ev_bind c1 (ev_if_neg (by decide) (ev_now fun _ => rfl)), ev_bind c2 (ev_if_neg (by decide) (ev_now fun _ => rfl)), by simp⟩
      | true =>
        rw [hw, if_pos rfl] at c1
        rw [hw, Bool.true_and] at c2
        have hw' : 0 ≤ wd ∧ wd ≤ 600 := of_decide_eq_true hw
        cases hmm : momB mt with
        | false =>
          rw [hmm] at c2
          exact ⟨[], 0, 2, ev_bind c1 (ev_if_pos rfl (ev_some (ev_if_neg (by decide) (ev_now fun _ => rfl)))), ev_bind c2 (ev_if_neg (by decide) (ev_now fun _ => rfl)), by simp⟩
        | true =>
          rw [hmm, if_pos rfl] at c2
          have hm' : 0 ≤ mt ∧ mt ≤ 10000000000 := of_decide_eq_true hmm
          obtain ⟨o1, b1⟩ := bestC_I h10 hinc (mt := mt) hw'
          obtain ⟨o2, b2⟩ := bestC_S h10 hinc hw' hm'.1
          refine ⟨(bestC (l.map cv) wd mt).1, (bestC (l.map cv) wd mt).2, 0, ev_bind c1 (ev_if_pos rfl (ev_some (ev_if_pos rfl (ev_if_pos o2 (ev_now fun _ => by rw [b2]))))), ev_bind c2 (ev_if_pos rfl (ev_if_pos o1 (ev_now fun _ => by rw [b1]))), ?_⟩
          exact Nat.le_trans (wk_len _ _ _ _ _ _ _ setIn_nil (by omega) (by simp)) h10
  obtain ⟨w, f, c, k1, k2, k3⟩ := key
  refine ev_if_neg hr (ev_bind (toCs l hn) (ev_bind k1 (ev_bind (toCs l hn) (ev_bind k2 (ev_bind (eqI w (by omega)) (ev_if_pos rfl (ev_if_pos rfl ?_)))))))
  show Ev (fun k => laws_FnExactBestSet.j0 k l wd mt w f c (l.map cv) w f c (c != c)) true
  rw [bne_self_eq_false]
  obtain ⟨b, l', g1, g2⟩ := marksCv (l.map cv).length hm (l.map cv).length 0 (l.map cv) 1 (by omega) (by omega) rfl (by omega) (by omega)
  have g1' : Ev (fun k => laws_markCanvasS.f k (l.map cv) 1) (b, l') := g1
  refine ev_succ ?_
  simp only [laws_FnExactBestSet.j0, Bool.false_eq_true, if_false]
  refine ev_bind (toCs l hn) (ev_bind (eqCs _ hm) (ev_if_pos rfl (ev_bind g1' (ev_if_neg (by show ¬ b < 0; omega) (ev_bind (eqI w (by omega)) (ev_if_pos rfl ?_))))))
  rw [bne_self_eq_false]
  refine ev_if_pos trivial (ev_succ ?_)
  simp only [laws_FnExactBestSet.j1, Bool.false_eq_true, if_false]
  refine ev_bind (marksI w 1 (by omega) (by omega)) (ev_bind (heldI w.length 1 (by omega) (by omega)) (ev_if_neg (by omega) (ev_if_pos rfl (ev_bind (toCs l hn) (ev_bind k2 (ev_bind (eqI w (by omega)) (ev_if_pos rfl (ev_if_pos (by first | trivial | rfl) ?_))))))))
  show Ev (fun k => laws_FnExactBestSet.j2 k _ _ (c != c)) true
  rw [bne_self_eq_false]
  refine ev_succ ?_
  simp only [laws_FnExactBestSet.j2, Bool.false_eq_true, if_false]
  exact (ev_bind (heldI w.length 1 (by omega) (by omega)) (ev_if_neg (by omega) (ev_if_pos rfl (ev_now fun _ => rfl))))
end Go.Proofs.Ythbfpkagjobgiaa.Pure
