import Derived.Test.YthbfpkagjobgiaaSayFnExactGustFactor
import Derived.Test.YthbfpkagjobgiaaPlain
namespace Go.Proofs.Ythbfpkagjobgiaa.Pure
open Go.RowKit Go.Proofs.Ythbfpkagjobgiaa.PFnExactGustFactor Go.Proofs.Ythbfpkagjobgiaa.Plain Go.Proofs.YthbfpkagjobgiaaW.PrintWords
set_option linter.unusedVariables false
set_option linter.unusedSimpArgs false
open Go.Proofs.YthbfpkagjobgiaaW.PrintMore
theorem specIn (n a b : Int) : spec_l00In.f n a b = some (decide (a ≤ n ∧ n ≤ b)) := by
  unfold spec_l00In.f
  by_cases h1 : n ≥ a <;> by_cases h2 : n ≤ b <;> simp [h1, h2] <;> omega
theorem implIn (n a b : Int) : impl_within.f n a b = some (decide (a ≤ n ∧ n ≤ b)) := by
  unfold impl_within.f
  by_cases h1 : n ≥ a <;> by_cases h2 : n ≤ b <;> simp [h1, h2] <;> omega
/-! ### loops over lists -/
theorem mem_getD {α : Type} (l : List α) (z : α) (i : Nat) (h : i < l.length) : l.getD i z ∈ l := by
  rw [List.getD_eq_getElem?_getD, List.getElem?_eq_getElem h]; exact List.getElem_mem h
theorem all_loop {α : Type} (z : α) (p : α → Bool) (T : Nat → α → Option Bool) (F : Nat → Int → Option Bool) (l : List α) (hl : l.length < 9223372036854775807) (hT : ∀ x ∈ l, Ev (fun k => T k x) (p x))
    (hF : ∀ k x5, F (k + 1) x5 = if x5 < (l.length : Int) then (if 0 ≤ x5 then (if x5 < (l.length : Int) then ((T k (l.getD x5.toNat z)).bind fun t => (if t = true then (F k (wrap64 (x5 + 1))) else (some false))) else (none)) else (none)) else (some true)) :
    Ev (fun k => F k 0) (l.all p) := by
  refine loop_up' (fun k i => F k (i : Int)) l.length (l.all p) (fun i => (l.take i).all p = true) (fun i hi hI => ?_) (fun hI => ?_) l.length 0 (by omega) (by omega) (by simp)
  · have hm := hT _ (mem_getD l z i hi)
    cases hp : p (l.getD i z) with
    | true =>
      refine .inl ⟨?_, fun h => ?_⟩
      · rw [List.take_succ_eq_append_getElem hi, List.all_append, hI]
        rw [List.getD_eq_getElem?_getD, List.getElem?_eq_getElem hi] at hp
        simpa using hp
      · refine ev_step (fun k => hF k i) (ev_if_pos (by omega) (ev_if_pos (by omega) (ev_if_pos (by omega) ?_)))
        rw [Int.toNat_natCast]
        refine ev_bind hm (ev_if_pos hp ?_)
        rw [succ_cast i (by omega)]
        exact h
    | false =>
      refine .inr ?_
      refine ev_step (fun k => hF k i) (ev_if_pos (by omega) (ev_if_pos (by omega) (ev_if_pos (by omega) ?_)))
      rw [Int.toNat_natCast]
      refine ev_bind hm (ev_if_neg (by rw [hp]; decide) (ev_now fun _ => ?_))
      have : l.all p = false := by
        cases hq : l.all p with
        | false => rfl
        | true => rw [List.all_eq_true.mp hq _ (mem_getD l z i hi)] at hp; cases hp
      rw [this]
  · refine ev_end (fun k => ?_)
    show F (k + 1) _ = _
    rw [hF, if_neg (by omega)]
    simpa using hI.symm
theorem copyT_loop {α β : Type} (z : α) (zb : β) (f : α → β) (T : Nat → α → Option β) (F : Nat → List β → Int → Option (List β)) (l : List α) (hl : l.length < 9223372036854775807) (hT : ∀ x ∈ l, Ev (fun k => T k x) (f x))
    (hF : ∀ k x3 x4, F (k + 1) x3 x4 = if x4 < (l.length : Int) then (if 0 ≤ x4 then ((T k (l.getD x4.toNat z)).bind fun t => (if x4 < (x3.length : Int) then (F k (x3.set x4.toNat t) (wrap64 (x4 + 1))) else (none))) else (none)) else (some x3)) :
    Ev (fun k => F k (List.replicate l.length zb) 0) (l.map f) := by
  have h := loop_up' (fun k i => F k ((l.take i).map f ++ List.replicate (l.length - i) zb) (i : Int)) l.length (l.map f) (fun _ => True) (fun i hi _ => .inl ⟨trivial, fun h => by
    refine ev_step (fun k => hF k _ i) (ev_if_pos (by omega) (ev_if_pos (by omega) ?_))
    rw [Int.toNat_natCast]
    refine ev_bind (hT _ (mem_getD l z i hi)) (ev_if_pos (by simp; omega) ?_)
    have e : List.replicate (l.length - i) zb = zb :: List.replicate (l.length - (i + 1)) zb := by
      rw [← List.replicate_succ]; congr 1; omega
    rw [e, set_next _ _ _ _ (by simp; omega), succ_cast i (by omega)]
    have e2 : (l.take (i + 1)).map f = (l.take i).map f ++ [f (l.getD i z)] := by
      rw [List.take_succ_eq_append_getElem hi, List.map_append]
      simp [List.getD_eq_getElem?_getD, List.getElem?_eq_getElem hi]
    rw [← e2]
    exact h⟩) (fun _ => by
    refine ev_end (fun k => ?_)
    show F (k + 1) _ _ = _
    rw [hF, if_neg (by omega)]
    simp) l.length 0 (by omega) (by omega) trivial
  simpa using h
theorem make {n d : Int} (h0 : -9223372036854775807 ≤ n) (h1 : n ≤ 9223372036854775807) (h2 : 0 < d) (h3 : d ≤ 9223372036854775807) : Ev (fun k => spec_l01Make.f k n d) (lowest n d) :=
  make_ev spec_l00Gcd.l0 (fun _ _ _ => rfl) spec_l01Make.f (fun _ _ _ => rfl) h0 h1 h2 h3
theorem frac {n d : Int} (h0 : -9223372036854775807 ≤ n) (h1 : n ≤ 9223372036854775807) (h2 : 0 < d) (h3 : d ≤ 9223372036854775807) : Ev (fun k => impl_fraction.f k n d) (lowest n d) := by
  have := fraction_ev impl_gcd.l0 impl_gcd.j0 impl_gcd.f impl_fraction.f (fun _ _ _ => by simp only [impl_gcd.l0]) (fun _ _ _ => by simp only [impl_gcd.j0]) (fun _ _ _ => rfl) (fun _ _ _ => rfl) (n := n) (d := d) h0 h1 (by omega) (by omega) h3
  rwa [if_neg (by omega)] at this
theorem eqF (a b c d : Int) : laws_eqFraction.f a b c d = some (decide (a = c ∧ b = d)) := by
  unfold laws_eqFraction.f
  by_cases h1 : a = c <;> by_cases h2 : b = d <;> simp [h1, h2]
theorem toI (l : List Int) (h : l.length ≤ 1048576) : Ev (fun k => laws_toInt64S.f k l) l := by
  unfold laws_toInt64S.f
  refine ev_if_pos (by omega) (ev_if_pos (by omega) ?_)
  have := copy_loop (0 : Int) (0 : Int) (fun x => x) (fun k x3 x4 => laws_toInt64S.l0 k l x3 x4) l (by omega) (fun _ _ _ => rfl)
  simpa using this
theorem eqI (l : List Int) (h : l.length < 9223372036854775807) : Ev (fun k => laws_eqInt64S.f k l l) true := by
  unfold laws_eqInt64S.f
  refine ev_if_pos rfl ?_
  exact eq_loop' (fun k x5 => laws_eqInt64S.l0 k l l x5) l h (fun i => rd l i = rd l i) (fun _ => rfl) (fun _ _ => rfl)
/-! ### winds and gusts -/
def okW (l : List Int) : Bool := l.all (fun x => decide (0 ≤ x ∧ x ≤ 600)) && decide (1 ≤ (l.length : Int) ∧ (l.length : Int) ≤ 40)
theorem specWinds (l : List Int) (hl : l.length < 9223372036854775807) : Ev (fun k => spec_l10Winds.f k l) (okW l) := by
  unfold spec_l10Winds.f
  refine loop_up' (fun k i => spec_l10Winds.l0 k l (i : Int)) l.length (okW l) (fun i => (l.take i).all (fun x => decide (0 ≤ x ∧ x ≤ 600)) = true) (fun i hi hI => ?_) (fun hI => ?_) l.length 0 (by omega) (by omega) (by simp)
  · have hs : ∀ k, spec_l10Winds.l0 (k + 1) l (i : Int) = if (decide (0 ≤ l.getD i 0 ∧ l.getD i 0 ≤ 600)) = true then spec_l10Winds.l0 k l ((i + 1 : Nat) : Int) else some false := by
      intro k
      simp only [spec_l10Winds.l0, spec_l10Wind.f, specIn, Option.bind_some]
      rw [if_pos (by omega), if_pos (by omega), succ_cast i (by omega)]
      simp only [rd, Int.toNat_natCast]
      rfl
    cases hp : decide (0 ≤ l.getD i 0 ∧ l.getD i 0 ≤ 600) with
    | true =>
      refine .inl ⟨?_, fun h => ev_step (fun k => by rw [hs k, hp, if_pos rfl]) h⟩
      rw [List.take_succ_eq_append_getElem hi, List.all_append, hI]
      rw [List.getD_eq_getElem?_getD, List.getElem?_eq_getElem hi] at hp
      simpa using hp
    | false =>
      refine .inr (ev_end fun k => ?_)
      show spec_l10Winds.l0 (k + 1) l (i : Int) = _
      rw [hs k, hp, if_neg (by decide)]
      have : l.all (fun x => decide (0 ≤ x ∧ x ≤ 600)) = false := by
        cases hq : l.all (fun x => decide (0 ≤ x ∧ x ≤ 600)) with
        | false => rfl
        | true => rw [List.all_eq_true.mp hq _ (mem_getD l 0 i hi)] at hp; cases hp
      simp only [okW, this, Bool.false_and]
  · refine ev_end (fun k => ?_)
    show spec_l10Winds.l0 (k + 1) l _ = _
    simp only [spec_l10Winds.l0, specIn, Option.bind_some]
    rw [if_neg (by omega)]
    rw [List.take_length] at hI
    simp only [okW, hI, Bool.true_and]
theorem implWinds (l : List Int) (hl : l.length < 9223372036854775807) : Ev (fun k => impl_areWinds.f k l) (okW l) := by
  unfold impl_areWinds.f
  have hj : ∀ b, (b = true → okW l = false) → (b = false → 1 ≤ (l.length : Int) ∧ (l.length : Int) ≤ 40) → Ev (fun k => impl_areWinds.j0 k l b) (okW l) := by
    intro b hb1 hb2
    cases b with
    | true => rw [hb1 rfl]; exact ev_end fun k => rfl
    | false =>
      refine ev_step (f := fun k => impl_areWinds.l0 k l (l.length : Int) 0) (fun k => rfl) ?_
      have := all_loop 0 (fun x => decide (0 ≤ x ∧ x ≤ 600)) (fun _ x => impl_within.f x 0 600) (fun k x5 => impl_areWinds.l0 k l (l.length : Int) x5) l hl (fun x _ => ev_now fun _ => implIn x 0 600) (fun _ _ => rfl)
      refine ev_eq this ?_
      have h := hb2 rfl
      simp only [okW, h, and_self, decide_true, Bool.and_true]
  by_cases h1 : (l.length : Int) < 1
  · refine ev_if_pos h1 (hj true (fun _ => ?_) (fun h => by cases h))
    unfold okW; rw [decide_eq_false (p := 1 ≤ (l.length : Int) ∧ (l.length : Int) ≤ 40) (by omega), Bool.and_false]
  · refine ev_if_neg h1 (hj _ (fun h => ?_) (fun h => ?_))
    · have := of_decide_eq_true h
      unfold okW; rw [decide_eq_false (p := 1 ≤ (l.length : Int) ∧ (l.length : Int) ≤ 40) (by omega), Bool.and_false]
    · have := of_decide_eq_false h
      omega
theorem okW_of {l : List Int} (h : okW l = true) : (∀ i, i < l.length → 0 ≤ l.getD i 0 ∧ l.getD i 0 ≤ 600) ∧ 1 ≤ l.length ∧ l.length ≤ 40 := by
  unfold okW at h
  simp only [Bool.and_eq_true, List.all_eq_true, decide_eq_true_eq] at h
  exact ⟨fun i hi => h.1 _ (mem_getD l 0 i hi), by omega, by omega⟩
def sumW (l : List Int) : Nat → Int
  | 0 => 0
  | i + 1 => sumW l i + l.getD i 0
def maxW (l : List Int) : Nat → Int
  | 0 => 0
  | i + 1 => mx (maxW l i) (l.getD i 0)
theorem mx_ge (a b : Int) : a ≤ mx a b ∧ b ≤ mx a b ∧ (mx a b = a ∨ mx a b = b) := by unfold mx; split <;> omega
theorem specMax (a b : Int) : spec_l00Max.f a b = some (mx a b) := by
  unfold spec_l00Max.f mx
  by_cases hc : a > b
  · rw [if_pos hc, if_neg (by omega)]
  · rw [if_neg hc]
    by_cases h2 : a < b
    · rw [if_pos h2]
    · rw [if_neg h2]; congr 1; omega
theorem sumW_bound {l : List Int} (h : ∀ i, i < l.length → 0 ≤ l.getD i 0 ∧ l.getD i 0 ≤ 600) : ∀ i, i ≤ l.length → 0 ≤ sumW l i ∧ sumW l i ≤ 600 * i
  | 0, _ => by simp [sumW]
  | i + 1, hi => by
    have := sumW_bound h i (by omega)
    have h2 := h i (by omega)
    simp only [sumW]
    omega
theorem maxW_bound {l : List Int} (h : ∀ i, i < l.length → 0 ≤ l.getD i 0 ∧ l.getD i 0 ≤ 600) : ∀ i, i ≤ l.length → 0 ≤ maxW l i ∧ maxW l i ≤ 600 ∧ (maxW l i = 0 ↔ sumW l i = 0) ∧ sumW l i ≤ maxW l i * i ∧ maxW l i ≤ sumW l i
  | 0, _ => by simp [maxW, sumW]
  | i + 1, hi => by
    obtain ⟨h1, h2, h3, h4, h6⟩ := maxW_bound h i (by omega)
    have h0 := h i (by omega)
    have hs := sumW_bound h i (by omega)
    obtain ⟨g1, g2, g3⟩ := mx_ge (maxW l i) (l.getD i 0)
    have h5 : maxW l i * (i : Int) ≤ mx (maxW l i) (l.getD i 0) * (i : Int) := Int.mul_le_mul_of_nonneg_right g1 (by omega)
    simp only [maxW, sumW]
    refine ⟨by omega, by omega, ⟨fun h => by omega, fun h => by omega⟩, ?_, by omega⟩
    rw [Int.natCast_add, Int.natCast_one, Int.mul_add, Int.mul_one]
    omega
theorem specSum (l : List Int) (hl : l.length ≤ 40) (h : ∀ i, i < l.length → 0 ≤ l.getD i 0 ∧ l.getD i 0 ≤ 600) : Ev (fun k => spec_l00Sum.f k l) (sumW l l.length) := by
  unfold spec_l00Sum.f
  refine loop_all (fun k i => spec_l00Sum.l0 k l (sumW l i) (i : Int)) l.length _ (fun i hi k => ?_) (ev_end fun k => ?_)
  · show spec_l00Sum.l0 (k + 1) _ _ _ = spec_l00Sum.l0 k _ _ _
    have b1 := sumW_bound h i (by omega)
    have b2 := h i hi
    simp only [spec_l00Sum.l0]
    rw [if_pos (by omega), if_pos (by omega), succ_cast i (by omega)]
    simp only [rd, Int.toNat_natCast]
    rw [wrap_in (by omega) (by omega)]
    rfl
  · show spec_l00Sum.l0 (k + 1) _ _ _ = _
    simp only [spec_l00Sum.l0]
    rw [if_neg (by omega)]
theorem sliceMax (l : List Int) (h1 : 1 ≤ l.length) (hl : l.length ≤ 40) (h : ∀ i, i < l.length → 0 ≤ l.getD i 0 ∧ l.getD i 0 ≤ 600) : Ev (fun k => slices_Max_int64_int64.f k l) (maxW l l.length) := by
  unfold slices_Max_int64_int64.f
  refine ev_if_neg (by omega) (ev_if_pos (by omega) ?_)
  have key := loop_all (fun k i => slices_Max_int64_int64.l0 k l (maxW l (i + 1)) ((i + 1 : Nat) : Int)) (l.length - 1) (maxW l l.length) (fun i hi k => ?_) (ev_end fun k => ?_)
  · have e : maxW l 1 = rd l 0 := by
      have := h 0 (by omega)
      show mx 0 (l.getD 0 0) = l.getD 0 0
      have := mx_ge 0 (l.getD 0 0)
      omega
    simpa [e] using key
  · show slices_Max_int64_int64.l0 (k + 1) _ _ _ = slices_Max_int64_int64.l0 k _ _ _
    simp only [slices_Max_int64_int64.l0]
    rw [if_pos (by omega), if_pos (by omega), succ_cast (i + 1) (by omega)]
    simp only [rd, Int.toNat_natCast]
    rfl
  · show slices_Max_int64_int64.l0 (k + 1) _ _ _ = _
    simp only [slices_Max_int64_int64.l0]
    rw [if_neg (by omega)]
    rw [show l.length - 1 + 1 = l.length by omega]
/-- The factor, or the code. -/
def gustOf (l : List Int) : Int × Int × Int := if okW l = true then (if sumW l l.length = 0 then (0, 0, 3) else ((lowest (maxW l l.length * l.length) (sumW l l.length)).1, (lowest (maxW l l.length * l.length) (sumW l l.length)).2, 0)) else (0, 0, 2)
theorem specGust (l : List Int) (hl : l.length ≤ 1048576) : Ev (fun k => spec_GustFactor.f k l) (gustOf l) := by
  unfold spec_GustFactor.f gustOf
  refine ev_bind (specWinds l (by omega)) ?_
  cases hok : okW l with
  | false => exact ev_now fun _ => rfl
  | true =>
    obtain ⟨hw, h1, h2⟩ := okW_of hok
    refine ev_if_pos rfl ?_
    rw [if_pos rfl]
    have hs := sumW_bound hw l.length (by omega)
    have hm := maxW_bound hw l.length (by omega)
    refine loop_all (fun k i => spec_GustFactor.l0 k l (maxW l i) (i : Int)) l.length _ (fun i hi k => ?_) ?_
    · show spec_GustFactor.l0 (k + 1) _ _ _ = spec_GustFactor.l0 k _ _ _
      simp only [spec_GustFactor.l0]
      rw [if_pos (by omega), if_pos (by omega), succ_cast i (by omega), specMax, Option.bind_some]
      simp only [rd, Int.toNat_natCast]
      rfl
    · have hs0 : ∀ k, spec_GustFactor.l0 (k + 1) l (maxW l l.length) (l.length : Int) = (if maxW l l.length = 0 then (some (0, 0, 3)) else ((spec_l00Sum.f k l).bind fun t113 => ((spec_l01Make.f k (maxW l l.length * (l.length : Int)) t113).bind fun bt114 => (some (bt114.1, bt114.2, 0))))) := by
        intro k
        have mb := mul_bound (a := maxW l l.length) (b := l.length) (A := 600) (B := 40) (by omega) (by omega) (by omega) (by omega)
        simp only [spec_GustFactor.l0]
        rw [if_neg (by omega), wrap_in (x := maxW l l.length * (l.length : Int)) (by omega) (by omega)]
      refine ev_step hs0 ?_
      by_cases hz : sumW l l.length = 0
      · rw [if_pos hz]; exact ev_if_pos (hm.2.2.1.mpr hz) (ev_now fun _ => rfl)
      · rw [if_neg hz]
        have mb := mul_bound (a := maxW l l.length) (b := l.length) (A := 600) (B := 40) (by omega) (by omega) (by omega) (by omega)
        exact ev_if_neg (fun h => hz (hm.2.2.1.mp h)) (ev_bind (specSum l h2 hw) (ev_bind (make (by omega) (by omega) (by omega) (by omega)) (ev_now fun _ => rfl)))
theorem implGust (l : List Int) (hl : l.length ≤ 1048576) : Ev (fun k => impl_GustFactor.f k l) (gustOf l) := by
  unfold impl_GustFactor.f gustOf
  refine ev_bind (implWinds l (by omega)) ?_
  cases hok : okW l with
  | false => exact ev_now fun _ => rfl
  | true =>
    obtain ⟨hw, h1, h2⟩ := okW_of hok
    refine ev_if_pos rfl ?_
    rw [if_pos rfl]
    have hs := sumW_bound hw l.length (by omega)
    have hm := maxW_bound hw l.length (by omega)
    refine loop_all (fun k i => impl_GustFactor.l0 k l (sumW l i) l (l.length : Int) (i : Int)) l.length _ (fun i hi k => ?_) ?_
    · show impl_GustFactor.l0 (k + 1) _ _ _ _ _ = impl_GustFactor.l0 k _ _ _ _ _
      have b1 := sumW_bound hw i (by omega)
      have b2 := hw i hi
      simp only [impl_GustFactor.l0]
      rw [if_pos (by omega), if_pos (by omega), if_pos (by omega), succ_cast i (by omega)]
      simp only [rd, Int.toNat_natCast]
      rw [wrap_in (by omega) (by omega)]
      rfl
    · have mb := mul_bound (a := maxW l l.length) (b := l.length) (A := 600) (B := 40) (by omega) (by omega) (by omega) (by omega)
      have hs0 : ∀ k, impl_GustFactor.l0 (k + 1) l (sumW l l.length) l (l.length : Int) (l.length : Int) = (if sumW l l.length = 0 then (some (0, 0, 3)) else ((slices_Max_int64_int64.f k l).bind fun t131 => ((impl_fraction.f k (wrap64 (t131 * (l.length : Int))) (sumW l l.length)).bind fun bt132 => (some (bt132.1, bt132.2, 0))))) := by
        intro k
        simp only [impl_GustFactor.l0]
        rw [if_neg (by omega)]
      refine ev_step hs0 ?_
      by_cases hz : sumW l l.length = 0
      · rw [if_pos hz]; exact ev_if_pos hz (ev_now fun _ => rfl)
      · rw [if_neg hz]
        refine ev_if_neg hz (ev_bind (sliceMax l h1 h2 hw) ?_)
        rw [wrap_in (x := maxW l l.length * (l.length : Int)) (by omega) (by omega)]
        exact ev_bind (frac (by omega) (by omega) (by omega) (by omega)) (ev_now fun _ => rfl)
theorem FnExactGustFactor : Say.FnExactGustFactor := by
  intro l hl
  have hl := hl.1
  apply Ev.rounds
  unfold laws_FnExactGustFactor.f
  by_cases hlen : (l.length : Int) > 1048576
  · exact ev_if_pos hlen (ev_now fun _ => rfl)
  have hn : l.length ≤ 1048576 := by omega
  refine ev_if_neg hlen (ev_bind (toI l hn) (ev_bind (specGust l hn) (ev_bind (toI l hn) (ev_bind (implGust l hn) ?_))))
  simp only [eqF, and_self, decide_true]
  refine ev_some (ev_if_pos rfl ?_)
  rw [bne_self_eq_false]
  refine ev_step (f := fun k => (laws_toInt64S.f k l).bind fun t153 => ((laws_eqInt64S.f k l t153).bind fun t156 => (if t156 = true then (some true) else (some false)))) (fun k => rfl) ?_
  exact ev_bind (toI l hn) (ev_bind (eqI l (by omega)) (ev_if_pos rfl (ev_now fun _ => rfl)))
end Go.Proofs.Ythbfpkagjobgiaa.Pure
