import Derived.Test.YtlddapidlobpnaaSayFnExactRoachLength
import Derived.Test.YtlddapidlobpnaaPlain
namespace Go.Proofs.Ytlddapidlobpnaa.Pure
open Go.RowKit Go.Proofs.Ytlddapidlobpnaa.PFnExactRoachLength Go.Proofs.Ytlddapidlobpnaa.Plain Go.Proofs.YtlddapidlobpnaaW.PrintWords
set_option linter.unusedVariables false
set_option linter.unusedSimpArgs false
theorem specOk (a b : Int) : spec_l14Ok.f a b = some (decide (1 ≤ a ∧ a ≤ 2000 ∧ 0 ≤ b ∧ b ≤ 500)) := by
  unfold spec_l14Ok.f spec_l00In.f
  by_cases h1 : a ≥ 1 <;> by_cases h2 : a ≤ 2000 <;> by_cases h3 : b ≥ 0 <;> by_cases h4 : b ≤ 500 <;> simp [h1, h2, h3, h4] <;> omega
theorem implOk (a b : Int) : impl_ValidRoach.f a b = some (decide (1 ≤ a ∧ a ≤ 2000 ∧ 0 ≤ b ∧ b ≤ 500)) := by
  unfold impl_ValidRoach.f impl_within.f
  by_cases h1 : a ≥ 1 <;> by_cases h2 : a ≤ 2000 <;> by_cases h3 : b ≥ 0 <;> by_cases h4 : b ≤ 500 <;> simp [h1, h2, h3, h4] <;> omega
theorem specIn (n a b : Int) : spec_l00In.f n a b = some (decide (a ≤ n ∧ n ≤ b)) := by
  unfold spec_l00In.f
  by_cases h1 : n ≥ a <;> by_cases h2 : n ≤ b <;> simp [h1, h2] <;> omega
theorem implIn (n a b : Int) : impl_within.f n a b = some (decide (a ≤ n ∧ n ≤ b)) := by
  unfold impl_within.f
  by_cases h1 : n ≥ a <;> by_cases h2 : n ≤ b <;> simp [h1, h2] <;> omega
/-! ### square roots -/
def isq (n r : Int) : Prop := 0 ≤ r ∧ r * r ≤ n ∧ n < (r + 1) * (r + 1)
theorem sq_lt {a b : Int} (ha : 0 ≤ a) (h : a * a < b * b) (hb : 0 ≤ b) : a < b := by
  rcases Int.lt_or_le a b with h1 | h1
  · exact h1
  · have : b * b ≤ a * a := Int.mul_le_mul h1 h1 hb ha
    omega
theorem sq_le {a b : Int} (ha : 0 ≤ a) (h : a * a ≤ b * b) (hb : 0 ≤ b) : a ≤ b := by
  rcases Int.lt_or_le b a with h1 | h1
  · have h2 : b * b < a * a := by
      have h3 : b * b ≤ b * a := Int.mul_le_mul_of_nonneg_left (by omega) hb
      have h4 : b * a < a * a := Int.mul_lt_mul_of_pos_right h1 (by omega)
      omega
    omega
  · exact h1
theorem mul_self_mono {a b : Int} (ha : 0 ≤ a) (h : a ≤ b) : a * a ≤ b * b := Int.mul_le_mul h h ha (by omega)
theorem isq_unique {n r s : Int} (h1 : isq n r) (h2 : isq n s) : r = s := by
  have a1 : r < s + 1 := sq_lt h1.1 (by have := h1.2.1; have := h2.2.2; omega) (by have := h2.1; omega)
  have a2 : s < r + 1 := sq_lt h2.1 (by have := h2.2.1; have := h1.2.2; omega) (by have := h1.1; omega)
  omega
theorem root_search (n : Int) (hn : 0 ≤ n) (hn2 : n ≤ 8000000000000000000) : ∀ (m : Nat) (lo hi : Int), (hi - lo).toNat ≤ m → 0 ≤ lo → lo ≤ hi → hi ≤ 3000000000 → lo * lo ≤ n → n < (hi + 1) * (hi + 1) → ∃ r, Ev (fun k => impl_rootDown.l0 k n lo hi) r ∧ isq n r := by
  intro m
  induction m with
  | zero =>
    intro lo hi h1 h2 h3 h4 h5 h6
    obtain rfl : lo = hi := by omega
    exact ⟨lo, ev_end (fun k => by simp only [impl_rootDown.l0]; rw [if_neg (by omega)]), h2, h5, h6⟩
  | succ m ih =>
    intro lo hi h1 h2 h3 h4 h5 h6
    by_cases hlt : lo < hi
    · have e : Int.tdiv (wrap64 (wrap64 (lo + hi) + 1)) 2 = (lo + hi + 1) / 2 := by
        rw [wrap_in (x := lo + hi) (by omega) (by omega), wrap_in (by omega) (by omega), Int.tdiv_eq_ediv_of_nonneg (by omega)]
      generalize hm : (lo + hi + 1) / 2 = mid at e
      have b1 : lo < mid ∧ mid ≤ hi := by omega
      have b2 : mid * mid ≤ 3000000000 * 3000000000 := mul_self_mono (by omega) (by omega)
      have b3 : 0 ≤ mid * mid := Int.mul_nonneg (by omega) (by omega)
      have w1 : wrap64 mid = mid := wrap_in (by omega) (by omega)
      have w2 : wrap64 (mid * mid) = mid * mid := wrap_in (by omega) (by omega)
      have w3 : wrap64 (mid - 1) = mid - 1 := wrap_in (by omega) (by omega)
      by_cases hc : mid * mid ≤ n
      · obtain ⟨r, hr, hq⟩ := ih mid hi (by omega) (by omega) (by omega) h4 hc h6
        refine ⟨r, ev_step (fun k => ?_) hr, hq⟩
        simp only [impl_rootDown.l0]
        rw [e, w1, w2, if_pos hlt, if_pos hc]
      · obtain ⟨r, hr, hq⟩ := ih lo (mid - 1) (by omega) (by omega) (by omega) (by omega) h5 (by have : mid - 1 + 1 = mid := by omega
                                                                                                 rw [this]; omega)
        refine ⟨r, ev_step (fun k => ?_) hr, hq⟩
        simp only [impl_rootDown.l0]
        rw [e, w1, w2, w3, if_pos hlt, if_neg hc]
    · obtain rfl : lo = hi := by omega
      exact ⟨lo, ev_end (fun k => by simp only [impl_rootDown.l0]; rw [if_neg (by omega)]), h2, h5, h6⟩
theorem root_down (n : Int) (hn : 0 ≤ n) (hn2 : n ≤ 8000000000000000000) : ∃ r, Ev (fun k => impl_rootDown.f k n) r ∧ isq n r := by
  unfold impl_rootDown.f
  exact root_search n hn hn2 3000000000 0 3000000000 (by omega) (by omega) (by omega) (by omega) (by omega) (by omega)
/-- The root, rounded up: the least number whose square is not below n. -/
def iup (n u : Int) : Prop := 0 ≤ u ∧ n ≤ u * u ∧ ∀ s, 0 ≤ s → n ≤ s * s → u ≤ s
theorem iup_of {n r : Int} (h : isq n r) : iup n (if r * r < n then r + 1 else r) := by
  obtain ⟨h1, h2, h3⟩ := h
  split
  · refine ⟨by omega, by omega, fun s hs hn => ?_⟩
    have : r < s := sq_lt h1 (by omega) hs
    omega
  · refine ⟨h1, by omega, fun s hs hn => sq_le h1 (by omega) hs⟩
theorem iup_unique {n u v : Int} (h1 : iup n u) (h2 : iup n v) : u = v := by
  have := h1.2.2 v h2.1 h2.2.1
  have := h2.2.2 u h1.1 h1.2.1
  omega
theorem root_up (n : Int) (hn : 0 ≤ n) (hn2 : n ≤ 8000000000000000000) : ∃ u, Ev (fun k => impl_rootUp.f k n) u ∧ iup n u ∧ u ≤ 2828427125 := by
  obtain ⟨r, hr, hq⟩ := root_down n hn hn2
  have hb : r ≤ 2828427124 := by
    have : r < 2828427125 := sq_lt hq.1 (by have := hq.2.1; omega) (by omega)
    omega
  have h0 := hq.1
  have hrr := mul_self_mono h0 hb
  have hrn : 0 ≤ r * r := Int.mul_nonneg h0 h0
  refine ⟨_, ?_, iup_of hq, by split <;> omega⟩
  unfold impl_rootUp.f
  refine ev_bind hr ?_
  rw [wrap_in (x := r * r) (by omega) (by omega), wrap_in (x := r + 1) (by omega) (by omega)]
  by_cases h : r * r < n
  · simp only [h, if_true]; exact ev_now fun _ => rfl
  · simp only [h, if_false]; exact ev_now fun _ => rfl
/-- A quotient, rounded up: the least t with g * t not below. -/
theorem ceil_least {S u g : Int} (h : iup S u) (hg : 0 < g) : 0 ≤ (u + g - 1) / g ∧ S ≤ (g * ((u + g - 1) / g)) * (g * ((u + g - 1) / g)) ∧ ∀ s, 0 ≤ s → S ≤ (g * s) * (g * s) → (u + g - 1) / g ≤ s := by
  obtain ⟨h0, h1, h2⟩ := h
  have e := Int.mul_ediv_add_emod (u + g - 1) g
  have m1 := Int.emod_nonneg (u + g - 1) (show g ≠ 0 by omega)
  have m2 := Int.emod_lt_of_pos (u + g - 1) hg
  generalize (u + g - 1) / g = t at *
  generalize (u + g - 1) % g = m at *
  have hu : u ≤ g * t := by omega
  have ht : 0 ≤ t := by
    rcases Int.lt_or_le t 0 with h | h
    · have : g * t ≤ g * (-1) := Int.mul_le_mul_of_nonneg_left (by omega) (by omega)
      omega
    · exact h
  refine ⟨ht, Int.le_trans h1 (mul_self_mono h0 hu), fun s hs hS => ?_⟩
  have h3 := h2 (g * s) (Int.mul_nonneg (by omega) hs) hS
  rcases Int.lt_or_le s t with h | h
  · have : g * s ≤ g * (t - 1) := Int.mul_le_mul_of_nonneg_left (by omega) (by omega)
    have e2 : g * (t - 1) = g * t - g := by rw [Int.mul_sub]; omega
    omega
  · exact h
/-! ### the lengths -/
def SS (c d p m : Int) : Int := 10000 * (c * c * p * p + 16 * d * d * m * m)
def okp (c d p : Int) : Prop := (1 ≤ c ∧ c ≤ 2000) ∧ (0 ≤ d ∧ d ≤ 500) ∧ (1 ≤ p ∧ p ≤ 16)
theorem ss_form (c d p m : Int) : SS c d p m = (100 * c * p) * (100 * c * p) + (400 * d * m) * (400 * d * m) := by unfold SS; grind
theorem sqr_ss {c d p m : Int} (h : okp c d p) (hm : -16 ≤ m ∧ m ≤ 16) : sqr c d p m = SS c d p m ∧ 0 ≤ SS c d p m ∧ SS c d p m ≤ 8000000000000000000 := by
  obtain ⟨h1, h2, h3⟩ := h
  have a1 := mul_bound (a := c) (b := c) (A := 2000) (B := 2000) (by omega) (by omega) (by omega) (by omega)
  have a2 := mul_bound (a := c * c) (b := p) (A := 2000 * 2000) (B := 16) (by omega) (by omega) (by omega) (by omega)
  have a3 := mul_bound (a := c * c * p) (b := p) (A := 2000 * 2000 * 16) (B := 16) (by omega) (by omega) (by omega) (by omega)
  have b1 := mul_bound (a := 16 * d) (b := d) (A := 16 * 500) (B := 500) (by omega) (by omega) (by omega) (by omega)
  have b2 := mul_bound (a := 16 * d * d) (b := m) (A := 16 * 500 * 500) (B := 16) (by omega) (by omega) (by omega) (by omega)
  have b3 := mul_bound (a := 16 * d * d * m) (b := m) (A := 16 * 500 * 500 * 16) (B := 16) (by omega) (by omega) (by omega) (by omega)
  have nn : 0 ≤ SS c d p m := by
    rw [ss_form]
    have q1 : 0 ≤ (100 * c * p) * (100 * c * p) := by
      rcases Int.le_total 0 (100 * c * p) with h | h
      · exact Int.mul_nonneg h h
      · exact Int.mul_nonneg_of_nonpos_of_nonpos h h
    have q2 : 0 ≤ (400 * d * m) * (400 * d * m) := by
      rcases Int.le_total 0 (400 * d * m) with h | h
      · exact Int.mul_nonneg h h
      · exact Int.mul_nonneg_of_nonpos_of_nonpos h h
    omega
  refine ⟨?_, nn, by unfold SS; omega⟩
  unfold sqr SS
  rw [wrap_in (x := c * c) (by omega) (by omega), wrap_in (x := c * c * p) (by omega) (by omega), wrap_in (x := c * c * p * p) (by omega) (by omega), wrap_in (x := 16 * d) (by omega) (by omega), wrap_in (x := 16 * d * d) (by omega) (by omega),
    wrap_in (x := 16 * d * d * m) (by omega) (by omega), wrap_in (x := 16 * d * d * m * m) (by omega) (by omega), wrap_in (x := c * c * p * p + _) (by omega) (by omega), wrap_in (by omega) (by omega)]
/-- One part of the edge: what is added below and above. -/
def part (c d p : Int) (i : Nat) (x y : Int) : Prop := ∃ r u v, isq (SS c d p (p - 2 * i - 1)) r ∧ iup (SS c d p (p - 2 * i)) u ∧ iup (SS c d p (p - 2 * i - 2)) v ∧
  x = r / (p * p) ∧ y = (u + 2 * p * p - 1) / (2 * p * p) + (v + 2 * p * p - 1) / (2 * p * p)
theorem part_unique {c d p : Int} {i : Nat} {x y x' y' : Int} (h : part c d p i x y) (h' : part c d p i x' y') : x = x' ∧ y = y' := by
  obtain ⟨r, u, v, h1, h2, h3, rfl, rfl⟩ := h
  obtain ⟨r', u', v', h1', h2', h3', rfl, rfl⟩ := h'
  rw [isq_unique h1 h1', iup_unique h2 h2', iup_unique h3 h3']
  exact ⟨rfl, rfl⟩
theorem pp_bound {p : Int} (h : 1 ≤ p ∧ p ≤ 16) : 1 ≤ p * p ∧ p * p ≤ 256 ∧ 2 * p * p = 2 * (p * p) := by
  have h1 := mul_self_mono (show (0 : Int) ≤ 1 by omega) h.1
  have h2 := mul_self_mono (show (0 : Int) ≤ p by omega) h.2
  exact ⟨by omega, by omega, Int.mul_assoc ..⟩
theorem ceil_ev {u g : Int} (hu : 0 ≤ u ∧ u ≤ 3000000000) (hg : 1 ≤ g ∧ g ≤ 1000) : impl_ceilDiv.f u g = some ((u + g - 1) / g) := by
  unfold impl_ceilDiv.f
  have h1 : 0 ≤ (u + g - 1) / g := Int.ediv_nonneg (by omega) (by omega)
  have h2 : (u + g - 1) / g ≤ u + g - 1 := Int.ediv_le_self _ (by omega)
  rw [if_neg (by omega), wrap_in (x := u + g) (by omega) (by omega), wrap_in (x := u + g - 1) (by omega) (by omega), Int.tdiv_eq_ediv_of_nonneg (by omega), wrap_in (by omega) (by omega)]
/-- What the loop adds up, from part i on. -/
theorem impl_round {c d p : Int} (h : okp c d p) : ∀ (m i : Nat) (lo up : Int), (p.toNat - i) = m → (i : Int) ≤ p → 0 ≤ lo → lo ≤ 3000000000 * i → 0 ≤ up → up ≤ 6000002000 * i →
    ∃ (X Y : Nat → Int), (∀ j, i ≤ j → (j : Int) < p → part c d p j (X j) (Y j)) ∧ Ev (fun k => impl_RoachLength.l0 k p lo up (i : Int) c d) (lo + ((List.range' i m).map X).sum, up + ((List.range' i m).map Y).sum, 0) := by
  intro m
  induction m with
  | zero =>
    intro i lo up h1 h2 h3 h4 h5 h6
    obtain ⟨_, _, hp⟩ := h
    refine ⟨fun _ => 0, fun _ => 0, fun j h1 h2 => by omega, ?_⟩
    refine ev_end fun k => ?_
    simp only [impl_RoachLength.l0]
    rw [if_neg (by omega)]
    simp
  | succ m ih =>
    intro i lo up h1 h2 h3 h4 h5 h6
    have hk := h
    obtain ⟨_, _, hp⟩ := hk
    have pb := pp_bound hp
    obtain ⟨e1, n1, m1⟩ := sqr_ss h (m := p - 2 * i - 1) (by omega)
    obtain ⟨e2, n2, m2⟩ := sqr_ss h (m := p - 2 * i) (by omega)
    obtain ⟨e3, n3, m3⟩ := sqr_ss h (m := p - 2 * i - 2) (by omega)
    obtain ⟨r, hr, hq⟩ := root_down _ n1 m1
    obtain ⟨u, hu, hu2, hu3⟩ := root_up _ n2 m2
    obtain ⟨v, hv, hv2, hv3⟩ := root_up _ n3 m3
    have r0 : 0 ≤ r ∧ r ≤ 3000000000 := ⟨hq.1, by have : r < 3000000000 := sq_lt hq.1 (by have := hq.2.1; omega) (by omega)
                                                  omega⟩
    have x0 : 0 ≤ r / (p * p) ∧ r / (p * p) ≤ r := ⟨Int.ediv_nonneg r0.1 (by omega), Int.ediv_le_self _ r0.1⟩
    have y1 : 0 ≤ (u + 2 * p * p - 1) / (2 * p * p) ∧ (u + 2 * p * p - 1) / (2 * p * p) ≤ u + 2 * p * p - 1 := ⟨Int.ediv_nonneg (by have := hu2.1; omega) (by omega), Int.ediv_le_self _ (by have := hu2.1; omega)⟩
    have y2 : 0 ≤ (v + 2 * p * p - 1) / (2 * p * p) ∧ (v + 2 * p * p - 1) / (2 * p * p) ≤ v + 2 * p * p - 1 := ⟨Int.ediv_nonneg (by have := hv2.1; omega) (by omega), Int.ediv_le_self _ (by have := hv2.1; omega)⟩
    have hu0 := hu2.1
    have hv0 := hv2.1
    obtain ⟨X, Y, hXY, hev⟩ := ih (i + 1) (lo + r / (p * p)) (up + ((u + 2 * p * p - 1) / (2 * p * p) + (v + 2 * p * p - 1) / (2 * p * p))) (by omega) (by omega) (by omega) (by omega) (by omega) (by omega)
    refine ⟨fun j => if j = i then r / (p * p) else X j, fun j => if j = i then (u + 2 * p * p - 1) / (2 * p * p) + (v + 2 * p * p - 1) / (2 * p * p) else Y j, fun j hj hj2 => ?_, ?_⟩
    · by_cases hji : j = i
      · subst hji
        simp only [if_true]
        exact ⟨r, u, v, hq, hu2, hv2, rfl, rfl⟩
      · simp only [if_neg hji]
        exact hXY j (by omega) hj2
    · have hX : ((List.range' (i + 1) m).map (fun j => if j = i then r / (p * p) else X j)) = (List.range' (i + 1) m).map X := by
        apply List.map_congr_left; intro j hj; rw [List.mem_range'_1] at hj; rw [if_neg (by omega)]
      have hY : ((List.range' (i + 1) m).map (fun j => if j = i then (u + 2 * p * p - 1) / (2 * p * p) + (v + 2 * p * p - 1) / (2 * p * p) else Y j)) = (List.range' (i + 1) m).map Y := by
        apply List.map_congr_left; intro j hj; rw [List.mem_range'_1] at hj; rw [if_neg (by omega)]
      rw [List.range'_succ, List.map_cons, List.map_cons, List.sum_cons, List.sum_cons, hX, hY]
      simp only [if_true]
      rw [← Int.add_assoc, ← Int.add_assoc]
      refine ev_step (f := fun k => (impl_rootDown.f k (SS c d p (p - 2 * i - 1))).bind fun t1 => (if p * p = 0 then none else ((impl_rootUp.f k (SS c d p (p - 2 * i))).bind fun t2 =>
        ((impl_ceilDiv.f t2 (2 * p * p)).bind fun t3 => ((impl_rootUp.f k (SS c d p (p - 2 * i - 2))).bind fun t4 => ((impl_ceilDiv.f t4 (2 * p * p)).bind fun t5 =>
        impl_RoachLength.l0 k p (wrap64 (lo + wrap64 (Int.tdiv t1 (p * p)))) (wrap64 (up + wrap64 (t3 + t5))) ((i + 1 : Nat) : Int) c d)))))) (fun k => ?_) ?_
      · simp only [impl_RoachLength.l0]
        rw [if_pos (by omega), wrap_in (x := 2 * (i : Int)) (by omega) (by omega), wrap_in (x := p - 2 * (i : Int)) (by omega) (by omega), wrap_in (x := p - 2 * (i : Int) - 1) (by omega) (by omega), wrap_in (x := p - 2 * (i : Int) - 2) (by omega) (by omega),
          wrap_in (x := p * p) (by omega) (by omega), wrap_in (x := 2 * p) (by omega) (by omega), wrap_in (x := 2 * p * p) (by omega) (by omega), succ_cast i (by omega), e1, e2, e3]
      · refine ev_bind hr (ev_if_neg (by omega) (ev_bind hu ?_))
        rw [ceil_ev ⟨hu0, by omega⟩ (by omega)]
        refine ev_some (ev_bind hv ?_)
        rw [ceil_ev ⟨hv0, by omega⟩ (by omega)]
        refine ev_some ?_
        rw [Int.tdiv_eq_ediv_of_nonneg r0.1, wrap_in (x := r / (p * p)) (by omega) (by omega), wrap_in (x := lo + r / (p * p)) (by omega) (by omega), wrap_in (x := (u + 2 * p * p - 1) / (2 * p * p) + _) (by omega) (by omega), wrap_in (x := up + _) (by omega) (by omega)]
        exact hev
theorem impl_len (c d p : Int) (h : okp c d p) : ∃ (X Y : Nat → Int), (∀ j : Nat, (j : Int) < p → part c d p j (X j) (Y j)) ∧ Ev (fun k => impl_RoachLength.f k c d p) (((List.range' 0 p.toNat).map X).sum, ((List.range' 0 p.toNat).map Y).sum, 0) := by
  obtain ⟨X, Y, h1, h2⟩ := impl_round h p.toNat 0 0 0 (by omega) (by have := h.2.2; omega) (by omega) (by omega) (by omega) (by omega)
  refine ⟨X, Y, fun j hj => h1 j (by omega) hj, ?_⟩
  unfold impl_RoachLength.f
  obtain ⟨k1, k2, k3⟩ := h
  simp only [implOk, implIn, k1, k2, k3, and_self, decide_true, Option.bind_some, if_true]
  have := ev_eq h2 (r' := (((List.range' 0 p.toNat).map X).sum, ((List.range' 0 p.toNat).map Y).sum, 0)) (by simp)
  exact this
/-! ### the reference's lengths -/
theorem spec_search (n : Int) (hn : 0 ≤ n) : ∀ (m : Nat) (lo hi : Int), (hi - lo).toNat ≤ m → 0 ≤ lo → lo < hi → hi ≤ 2147483648 → lo * lo ≤ n → n < hi * hi → ∃ r, Ev (fun k => spec_l14Root.l0 k n lo hi) r ∧ isq n r := by
  intro m
  induction m with
  | zero => intro lo hi h1 h2 h3; omega
  | succ m ih =>
    intro lo hi h1 h2 h3 h4 h5 h6
    have w0 : wrap64 (hi - lo) = hi - lo := wrap_in (by omega) (by omega)
    by_cases hlt : hi - lo > 1
    · have e : Int.tdiv (wrap64 (lo + hi)) 2 = (lo + hi) / 2 := by
        rw [wrap_in (x := lo + hi) (by omega) (by omega), Int.tdiv_eq_ediv_of_nonneg (by omega)]
      generalize hm : (lo + hi) / 2 = mid at e
      have b1 : lo < mid ∧ mid < hi := by omega
      have b2 : mid * mid ≤ 2147483648 * 2147483648 := mul_self_mono (by omega) (by omega)
      have b3 : 0 ≤ mid * mid := Int.mul_nonneg (by omega) (by omega)
      have w1 : wrap64 mid = mid := wrap_in (by omega) (by omega)
      have w2 : wrap64 (mid * mid) = mid * mid := wrap_in (by omega) (by omega)
      by_cases hc : mid * mid ≤ n
      · obtain ⟨r, hr, hq⟩ := ih mid hi (by omega) (by omega) (by omega) h4 hc h6
        refine ⟨r, ev_step (fun k => ?_) hr, hq⟩
        simp only [spec_l14Root.l0]
        rw [w0, e, w1, w2, if_pos hlt, if_pos hc]
      · obtain ⟨r, hr, hq⟩ := ih lo mid (by omega) (by omega) (by omega) (by omega) h5 (by omega)
        refine ⟨r, ev_step (fun k => ?_) hr, hq⟩
        simp only [spec_l14Root.l0]
        rw [w0, e, w1, w2, if_pos hlt, if_neg hc]
    · have e : hi = lo + 1 := by omega
      subst e
      exact ⟨lo, ev_end (fun k => by simp only [spec_l14Root.l0]; rw [w0, if_neg hlt]), h2, h5, h6⟩
theorem spec_root (n : Int) (hn : 0 ≤ n) (hn2 : n ≤ 4000000000000000000) : ∃ r, Ev (fun k => spec_l14Root.f k n) r ∧ isq n r := by
  unfold spec_l14Root.f
  exact spec_search n hn 2147483648 0 2147483648 (by omega) (by omega) (by omega) (by omega) (by omega) (by omega)
theorem sq_nonneg (a : Int) : 0 ≤ a * a := by
  rcases Int.le_total 0 a with h | h
  · exact Int.mul_nonneg h h
  · exact Int.mul_nonneg_of_nonpos_of_nonpos h h
theorem line_down {a b g : Int} (ha : -1000000000 ≤ a ∧ a ≤ 1000000000) (hb : -1000000000 ≤ b ∧ b ≤ 1000000000) (hg : 1 ≤ g ∧ g ≤ 256) : ∃ r, isq (a * a + b * b) r ∧ Ev (fun k => spec_l14Line.f k a b g false) (r / g) := by
  have m1 := mul_bound (a := a) (b := a) (A := 1000000000) (B := 1000000000) ha.1 ha.2 ha.1 ha.2
  have m2 := mul_bound (a := b) (b := b) (A := 1000000000) (B := 1000000000) hb.1 hb.2 hb.1 hb.2
  have p1 := sq_nonneg a
  have p2 := sq_nonneg b
  obtain ⟨r, hr, hq⟩ := spec_root (a * a + b * b) (by omega) (by omega)
  refine ⟨r, hq, ?_⟩
  have r0 : r < 2000000000 := sq_lt hq.1 (by have := hq.2.1; omega) (by omega)
  have x0 : 0 ≤ r / g ∧ r / g ≤ r := ⟨Int.ediv_nonneg hq.1 (by omega), Int.ediv_le_self _ hq.1⟩
  unfold spec_l14Line.f
  rw [wrap_in (x := a * a) (by omega) (by omega), wrap_in (x := b * b) (by omega) (by omega), wrap_in (x := a * a + b * b) (by omega) (by omega)]
  refine ev_bind hr (ev_if_neg (by simp) (ev_if_neg (by omega) ?_))
  rw [Int.tdiv_eq_ediv_of_nonneg hq.1, wrap_in (by omega) (by omega)]
  exact ev_now fun _ => rfl
theorem line_up {a b g : Int} (ha : -1000000000 ≤ a ∧ a ≤ 1000000000) (hb : -1000000000 ≤ b ∧ b ≤ 1000000000) (hg : 1 ≤ g ∧ g ≤ 256) : ∃ u, iup (a * a + b * b) u ∧ u ≤ 2000000001 ∧ Ev (fun k => spec_l14Line.f k a b g true) ((u + g - 1) / g) := by
  have m1 := mul_bound (a := a) (b := a) (A := 1000000000) (B := 1000000000) ha.1 ha.2 ha.1 ha.2
  have m2 := mul_bound (a := b) (b := b) (A := 1000000000) (B := 1000000000) hb.1 hb.2 hb.1 hb.2
  have p1 := sq_nonneg a
  have p2 := sq_nonneg b
  obtain ⟨r, hr, hq⟩ := spec_root (a * a + b * b) (by omega) (by omega)
  have r0 : r < 2000000000 := sq_lt hq.1 (by have := hq.2.1; omega) (by omega)
  have h0 := hq.1
  have hrr := mul_self_mono h0 (show r ≤ 2000000000 by omega)
  have hrn := sq_nonneg r
  refine ⟨_, iup_of hq, by split <;> omega, ?_⟩
  unfold spec_l14Line.f
  rw [wrap_in (x := a * a) (by omega) (by omega), wrap_in (x := b * b) (by omega) (by omega), wrap_in (x := a * a + b * b) (by omega) (by omega)]
  refine ev_bind hr (ev_if_pos rfl ?_)
  rw [wrap_in (x := r * r) (by omega) (by omega), wrap_in (x := r + 1) (by omega) (by omega)]
  by_cases hc : r * r < a * a + b * b
  · simp only [if_pos hc]
    have x0 : 0 ≤ (r + 1 + g - 1) / g ∧ (r + 1 + g - 1) / g ≤ r + 1 + g - 1 := ⟨Int.ediv_nonneg (by omega) (by omega), Int.ediv_le_self _ (by omega)⟩
    rw [if_neg (show ¬ g = 0 by omega), wrap_in (x := r + 1 + g) (by omega) (by omega), wrap_in (x := r + 1 + g - 1) (by omega) (by omega), Int.tdiv_eq_ediv_of_nonneg (by omega), wrap_in (by omega) (by omega)]
    exact ev_now fun _ => rfl
  · simp only [if_neg hc]
    have x0 : 0 ≤ (r + g - 1) / g ∧ (r + g - 1) / g ≤ r + g - 1 := ⟨Int.ediv_nonneg (by omega) (by omega), Int.ediv_le_self _ (by omega)⟩
    rw [if_neg (show ¬ g = 0 by omega), wrap_in (x := r + g) (by omega) (by omega), wrap_in (x := r + g - 1) (by omega) (by omega), Int.tdiv_eq_ediv_of_nonneg (by omega), wrap_in (by omega) (by omega)]
    exact ev_now fun _ => rfl
/-- Half of it over half as much: the same, rounded up. -/
theorem ceil_half {S Q u v q : Int} (hq : 0 < q) (hS : S = 4 * Q) (hu : iup S u) (hv : iup Q v) : (u + 2 * q - 1) / (2 * q) = (v + q - 1) / q := by
  obtain ⟨a0, a1, a2⟩ := ceil_least hu (g := 2 * q) (by omega)
  obtain ⟨b0, b1, b2⟩ := ceil_least hv (g := q) hq
  generalize (u + 2 * q - 1) / (2 * q) = s at *
  generalize (v + q - 1) / q = t at *
  have e : ∀ x : Int, (2 * q * x) * (2 * q * x) = 4 * ((q * x) * (q * x)) := fun x => by grind
  have e1 := e s
  have e2 := e t
  have c1 := a2 t b0 (by omega)
  have c2 := b2 s a0 (by omega)
  omega
theorem spec_round {c d p : Int} (h : okp c d p) (X Y : Nat → Int) (hXY : ∀ j : Nat, (j : Int) < p → part c d p j (X j) (Y j)) : ∀ (m i : Nat) (lo up : Int), (p.toNat - i) = m → (i : Int) ≤ p → 0 ≤ lo → lo ≤ 3000000000 * i → 0 ≤ up → up ≤ 6000002000 * i →
    Ev (fun k => spec_RoachLength.l0 k p lo up (p * p) (i : Int) c d) (lo + ((List.range' i m).map X).sum, up + ((List.range' i m).map Y).sum, 0) := by
  intro m
  induction m with
  | zero =>
    intro i lo up h1 h2 h3 h4 h5 h6
    obtain ⟨_, _, hp⟩ := h
    refine ev_end fun k => ?_
    simp only [spec_RoachLength.l0]
    rw [if_neg (by omega)]
    simp
  | succ m ih =>
    intro i lo up h1 h2 h3 h4 h5 h6
    have hi : (i : Int) < p := by omega
    obtain ⟨r, u, v, q1, q2, q3, hx, hy⟩ := hXY i hi
    have hk := h
    obtain ⟨hc, hd, hp⟩ := hk
    have pb := pp_bound hp
    obtain ⟨_, n1, m1⟩ := sqr_ss h (m := p - 2 * i - 1) (by omega)
    obtain ⟨_, n2, m2⟩ := sqr_ss h (m := p - 2 * i) (by omega)
    obtain ⟨_, n3, m3⟩ := sqr_ss h (m := p - 2 * i - 2) (by omega)
    have g1 := mul_bound (a := 100 * c) (b := p) (A := 200000) (B := 16) (by omega) (by omega) (by omega) (by omega)
    have g2 := mul_bound (a := 50 * c) (b := p) (A := 200000) (B := 16) (by omega) (by omega) (by omega) (by omega)
    have g3 := mul_bound (a := 4 * d) (b := p - 2 * i - 1) (A := 2000) (B := 16) (by omega) (by omega) (by omega) (by omega)
    have g4 := mul_bound (a := 200 * d) (b := p - 2 * i) (A := 100000) (B := 16) (by omega) (by omega) (by omega) (by omega)
    have g5 := mul_bound (a := 200 * d) (b := p - 2 * i - 2) (A := 100000) (B := 16) (by omega) (by omega) (by omega) (by omega)
    have g6 := mul_bound (a := (i : Int) + 1) (b := p - i - 1) (A := 16) (B := 16) (by omega) (by omega) (by omega) (by omega)
    have g7 := mul_bound (a := (i : Int)) (b := p - i) (A := 16) (B := 16) (by omega) (by omega) (by omega) (by omega)
    have er : ((i : Int) + 1) * (p - i - 1) - i * (p - i) = p - 2 * i - 1 := by grind
    obtain ⟨r', s1, ev1⟩ := line_down (a := 100 * c * p) (b := 100 * (4 * d * (p - 2 * i - 1))) (g := p * p) (by omega) (by omega) (by omega)
    obtain ⟨u', s2, b2, ev2⟩ := line_up (a := 50 * c * p) (b := 200 * d * (p - 2 * i)) (g := p * p) (by omega) (by omega) (by omega)
    obtain ⟨v', s3, b3, ev3⟩ := line_up (a := 50 * c * p) (b := 200 * d * (p - 2 * i - 2)) (g := p * p) (by omega) (by omega) (by omega)
    have f1 : 100 * c * p * (100 * c * p) + 100 * (4 * d * (p - 2 * i - 1)) * (100 * (4 * d * (p - 2 * i - 1))) = SS c d p (p - 2 * i - 1) := by unfold SS; grind
    have f2 : SS c d p (p - 2 * i) = 4 * (50 * c * p * (50 * c * p) + 200 * d * (p - 2 * i) * (200 * d * (p - 2 * i))) := by unfold SS; grind
    have f3 : SS c d p (p - 2 * i - 2) = 4 * (50 * c * p * (50 * c * p) + 200 * d * (p - 2 * i - 2) * (200 * d * (p - 2 * i - 2))) := by unfold SS; grind
    rw [f1] at s1
    have t1 : r' = r := isq_unique s1 q1
    have t2 := ceil_half (q := p * p) (by omega) f2 q2 s2
    have t3 := ceil_half (q := p * p) (by omega) f3 q3 s3
    rw [pb.2.2] at hy
    rw [t2, t3] at hy
    rw [t1, ← hx] at ev1
    have r0 : 0 ≤ r ∧ r ≤ 3000000000 := ⟨q1.1, by have : r < 3000000000 := sq_lt q1.1 (by have := q1.2.1; omega) (by omega)
                                                  omega⟩
    have x0 : 0 ≤ r / (p * p) ∧ r / (p * p) ≤ r := ⟨Int.ediv_nonneg r0.1 (by omega), Int.ediv_le_self _ r0.1⟩
    have y1 : 0 ≤ (u' + p * p - 1) / (p * p) ∧ (u' + p * p - 1) / (p * p) ≤ u' + p * p - 1 := ⟨Int.ediv_nonneg (by have := s2.1; omega) (by omega), Int.ediv_le_self _ (by have := s2.1; omega)⟩
    have y2 : 0 ≤ (v' + p * p - 1) / (p * p) ∧ (v' + p * p - 1) / (p * p) ≤ v' + p * p - 1 := ⟨Int.ediv_nonneg (by have := s3.1; omega) (by omega), Int.ediv_le_self _ (by have := s3.1; omega)⟩
    rw [List.range'_succ, List.map_cons, List.map_cons, List.sum_cons, List.sum_cons, ← Int.add_assoc, ← Int.add_assoc]
    have hnext := ih (i + 1) (lo + X i) (up + Y i) (by omega) (by omega) (by omega) (by omega) (by omega) (by omega)
    refine ev_step (f := fun k => (spec_l14Line.f k (100 * c * p) (100 * (4 * d * (p - 2 * i - 1))) (p * p) false).bind fun t118 => ((spec_l14Line.f k (50 * c * p) (200 * d * (p - 2 * i)) (p * p) true).bind fun t119 => ((spec_l14Line.f k (50 * c * p) (200 * d * (p - 2 * i - 2)) (p * p) true).bind fun t120 =>
      (spec_RoachLength.l0 k p (wrap64 (lo + t118)) (wrap64 ((wrap64 (up + t119)) + t120)) (p * p) ((i + 1 : Nat) : Int) c d)))) (fun k => ?_) ?_
    · simp only [spec_RoachLength.l0]
      rw [if_pos hi, wrap_in (x := 100 * c) (by omega) (by omega), wrap_in (x := 100 * c * p) (by omega) (by omega), wrap_in (x := 4 * d) (by omega) (by omega), wrap_in (x := (i : Int) + 1) (by omega) (by omega), wrap_in (x := p - (i : Int)) (by omega) (by omega),
        wrap_in (x := p - (i : Int) - 1) (by omega) (by omega), wrap_in (x := ((i : Int) + 1) * (p - i - 1)) (by omega) (by omega), wrap_in (x := (i : Int) * (p - i)) (by omega) (by omega), er, wrap_in (x := p - 2 * (i : Int) - 1) (by omega) (by omega),
        wrap_in (x := 4 * d * (p - 2 * i - 1)) (by omega) (by omega), wrap_in (x := 100 * (4 * d * (p - 2 * i - 1))) (by omega) (by omega), wrap_in (x := 50 * c) (by omega) (by omega), wrap_in (x := 50 * c * p) (by omega) (by omega), wrap_in (x := 200 * d) (by omega) (by omega),
        wrap_in (x := 2 * (i : Int)) (by omega) (by omega), wrap_in (x := p - 2 * (i : Int)) (by omega) (by omega), wrap_in (x := p - 2 * (i : Int) - 2) (by omega) (by omega), wrap_in (x := 200 * d * (p - 2 * i)) (by omega) (by omega), wrap_in (x := 200 * d * (p - 2 * i - 2)) (by omega) (by omega)]
      rfl
    · refine ev_bind ev1 (ev_bind ev2 (ev_bind ev3 ?_))
      rw [wrap_in (x := lo + X i) (by omega) (by omega), wrap_in (x := up + _) (by omega) (by omega), wrap_in (x := up + _ + _) (by omega) (by omega), Int.add_assoc, ← hy]
      exact hnext
theorem FnExactRoachLength : Say.FnExactRoachLength := by
  intro c d p _ _ _
  apply Ev.rounds
  unfold laws_FnExactRoachLength.f laws_toRoach.f
  have both : ∃ r : Int × Int × Int, Ev (fun k => spec_RoachLength.f k c d p) r ∧ Ev (fun k => impl_RoachLength.f k c d p) r := by
    by_cases h1 : 1 ≤ c ∧ c ≤ 2000 ∧ 0 ≤ d ∧ d ≤ 500
    · by_cases h2 : 1 ≤ p ∧ p ≤ 16
      · have h : okp c d p := ⟨⟨h1.1, h1.2.1⟩, h1.2.2, h2⟩
        obtain ⟨X, Y, hXY, hev⟩ := impl_len c d p h
        refine ⟨_, ?_, hev⟩
        have pb := pp_bound h2
        have hs := spec_round h X Y hXY p.toNat 0 0 0 (by omega) (by omega) (by omega) (by omega) (by omega) (by omega)
        unfold spec_RoachLength.f spec_l14Code.f
        simp only [specOk, specIn, h1, h2, and_self, decide_true, Option.bind_some, if_true]
        rw [wrap_in (x := p * p) (by omega) (by omega)]
        exact ev_eq hs (by simp)
      · refine ⟨(0, 0, 2), ?_, ?_⟩
        · unfold spec_RoachLength.f spec_l14Code.f
          simp only [specOk, specIn, h1, h2, and_self, decide_true, decide_false, Option.bind_some, if_true, if_false, Bool.false_eq_true]
          exact ev_now fun _ => rfl
        · unfold impl_RoachLength.f
          simp only [implOk, implIn, h1, h2, and_self, decide_true, decide_false, Option.bind_some, if_true, if_false, Bool.false_eq_true]
          exact ev_now fun _ => rfl
    · refine ⟨(0, 0, 1), ?_, ?_⟩
      · unfold spec_RoachLength.f spec_l14Code.f
        simp only [specOk, h1, decide_false, Option.bind_some, if_false, Bool.false_eq_true]
        exact ev_now fun _ => rfl
      · unfold impl_RoachLength.f
        simp only [implOk, h1, decide_false, Option.bind_some, if_false, Bool.false_eq_true]
        exact ev_now fun _ => rfl
  obtain ⟨r, h1, h2⟩ := both
  refine ev_some (ev_bind h1 (ev_some (ev_bind h2 ?_)))
  simp only [if_true]
  exact ev_now fun _ => rfl
end Go.Proofs.Ytlddapidlobpnaa.Pure
