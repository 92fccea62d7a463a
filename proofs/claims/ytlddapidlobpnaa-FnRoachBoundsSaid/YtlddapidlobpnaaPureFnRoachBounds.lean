import Derived.Test.YtlddapidlobpnaaSayFnRoachBounds
import Derived.Test.YtlddapidlobpnaaPlain
namespace Go.Proofs.Ytlddapidlobpnaa.Pure
open Go.RowKit Go.Proofs.Ytlddapidlobpnaa.PFnRoachBounds Go.Proofs.Ytlddapidlobpnaa.Plain Go.Proofs.YtlddapidlobpnaaW.PrintWords
set_option linter.unusedVariables false
set_option linter.unusedSimpArgs false
theorem implOk (a b : Int) : impl_ValidRoach.f a b = some (decide (1 ≤ a ∧ a ≤ 2000 ∧ 0 ≤ b ∧ b ≤ 500)) := by
  unfold impl_ValidRoach.f impl_within.f
  by_cases h1 : a ≥ 1 <;> by_cases h2 : a ≤ 2000 <;> by_cases h3 : b ≥ 0 <;> by_cases h4 : b ≤ 500 <;> simp [h1, h2, h3, h4] <;> omega
theorem implIn (n a b : Int) : impl_within.f n a b = some (decide (a ≤ n ∧ n ≤ b)) := by
  unfold impl_within.f
  by_cases h1 : n ≥ a <;> by_cases h2 : n ≤ b <;> simp [h1, h2] <;> omega
/-! ### drawn numbers -/
def bytes (l : List Int) : Prop := ∀ x ∈ l, 0 ≤ x ∧ x ≤ 255
theorem bytes_of {l : List Int} (h : ∀ x ∈ l, (Lit.int .u8 x).wf = true) : bytes l := fun x hx => wf_u8 (h x hx)
theorem rd_byte {l : List Int} (h : bytes l) (i : Int) (h0 : 0 ≤ i) (h1 : i < l.length) : 0 ≤ rd l i ∧ rd l i ≤ 255 := by
  obtain ⟨n, rfl⟩ := Int.eq_ofNat_of_zero_le h0
  have hn : n < l.length := by omega
  unfold rd
  rw [getD_nat, List.getD_eq_getElem?_getD, List.getElem?_eq_getElem hn]
  exact h _ (List.getElem_mem hn)
theorem and255 (x : Int) : 0 ≤ wrap64 (Go.bits .and .u64 (IntKind.u64.wrap x / 1099511627776) 255) ∧ wrap64 (Go.bits .and .u64 (IntKind.u64.wrap x / 1099511627776) 255) ≤ 255 := by
  have e : IntKind.u64.wrap x = x % 18446744073709551616 := by simp [IntKind.wrap, IntKind.bits, IntKind.signed]
  have hb : ∀ y : Int, 0 ≤ y → y < 16777216 → Go.bits .and .u64 y 255 = y % 256 := by
    intro y h0 h1
    exact Go.bits_mask .u64 24 (by decide) (fun n h0 h1 => by
      have : n < 16777216 := h1
      simp [IntKind.wrap, IntKind.bits, IntKind.signed]; omega) 8 (by decide) y h0 h1
  rw [e, hb _ (by omega) (by omega)]
  unfold wrap64
  omega
theorem next_ok {l : List Int} (h : bytes l) (a s : Int) (h0 : 0 ≤ a) (h1 : a ≤ 1000000000000000) : ∃ v s', spec_l00Src_next.f l a s = some (v, a + 1, s') ∧ 0 ≤ v ∧ v ≤ 255 := by
  unfold spec_l00Src_next.f
  rw [wrap_in (x := a + 1) (by omega) (by omega)]
  by_cases c1 : a < (l.length : Int)
  · rw [if_pos c1, if_pos h0]
    have hr := rd_byte h a h0 c1
    rw [if_pos (show a + 1 ≤ (l.length : Int) by omega)]
    exact ⟨_, _, rfl, by rw [wrap_in (by omega) (by omega)]; exact hr.1, by rw [wrap_in (by omega) (by omega)]; exact hr.2⟩
  · rw [if_neg c1]
    by_cases c2 : a + 1 ≤ (l.length : Int)
    · rw [if_pos c2]
      exact ⟨_, _, rfl, by omega, by omega⟩
    · rw [if_neg c2]
      exact ⟨_, _, rfl, (and255 _).1, (and255 _).2⟩
theorem pick_ok {l : List Int} (h : bytes l) (a s n : Int) (h0 : 0 ≤ a) (h1 : a ≤ 1000000000) : ∃ v a' s', spec_l00Src_pick.f l a s n = some (v, a', s') ∧ 0 ≤ v ∧ (v < n ∨ v = 0) ∧ a ≤ a' ∧ a' ≤ a + 2 := by
  unfold spec_l00Src_pick.f
  by_cases c : n ≤ 1
  · rw [if_pos c]
    exact ⟨0, a, s, rfl, by omega, .inr rfl, by omega, by omega⟩
  · rw [if_neg c]
    obtain ⟨v, s1, e1, b1, b2⟩ := next_ok h a s h0 (by omega)
    rw [e1]
    simp only [Option.bind_some]
    by_cases c2 : n > 200
    · rw [if_pos c2]
      obtain ⟨v2, s2, e2, d1, d2⟩ := next_ok h (a + 1) s1 (by omega) (by omega)
      rw [e2]
      simp only [Option.bind_some]
      rw [if_neg (by omega), wrap_in (x := v * 256) (by omega) (by omega), wrap_in (x := v * 256 + v2) (by omega) (by omega)]
      have m1 := Int.tmod_nonneg n (show 0 ≤ v * 256 + v2 by omega)
      have m2 := Int.tmod_lt_of_pos (v * 256 + v2) (show 0 < n by omega)
      exact ⟨_, _, _, rfl, m1, .inl m2, by omega, by omega⟩
    · rw [if_neg c2, if_neg (by omega)]
      have m1 := Int.tmod_nonneg n b1
      have m2 := Int.tmod_lt_of_pos v (show 0 < n by omega)
      exact ⟨_, _, _, rfl, m1, .inl m2, by omega, by omega⟩
theorem a2At_ok {l : List Int} (h : bytes l) (i n : Int) (h0 : 0 ≤ i) (hn : 1 ≤ n) : ∃ v, laws_a2At.f l i n = some v ∧ 0 ≤ v ∧ v < n := by
  unfold laws_a2At.f
  by_cases c : i ≥ (l.length : Int)
  · rw [if_pos c]; exact ⟨0, rfl, by omega, by omega⟩
  · have hr := rd_byte h i h0 (by omega)
    rw [if_neg c, if_neg (by omega), if_pos h0, if_pos (by omega), if_neg (by omega), wrap_in (by omega) (by omega)]
    exact ⟨_, rfl, Int.tmod_nonneg n hr.1, Int.tmod_lt_of_pos _ (by omega)⟩
theorem a2Long_eq (l m : List Int) : laws_a2Long.f l m = some (decide (l.length > 3000 ∨ m.length > 3000)) := by
  unfold laws_a2Long.f
  by_cases c : (l.length : Int) > 3000
  · rw [if_pos c]; congr 1; symm; rw [decide_eq_true_eq]; left; omega
  · rw [if_neg c]; congr 1
    rw [decide_eq_decide]; omega
theorem a2Roach_ok {l : List Int} (h : bytes l) : ∃ c d, spec_A2Roach.f l = some (c, d) ∧ 10 ≤ c ∧ c ≤ 1500 ∧ 0 ≤ d ∧ d ≤ 119 := by
  unfold spec_A2Roach.f spec_l00From.f
  simp only [Option.bind_some]
  obtain ⟨v, a1, s1, e1, b1, b2, b3, b4⟩ := pick_ok h 0 0 150 (by omega) (by omega)
  rw [e1]
  simp only [Option.bind_some]
  obtain ⟨v2, a2, s2, e2, d1, d2, d3, d4⟩ := pick_ok h a1 s1 120 (by omega) (by omega)
  rw [e2]
  simp only [Option.bind_some]
  rw [wrap_in (x := 1 + v) (by omega) (by omega), wrap_in (by omega) (by omega)]
  exact ⟨_, _, rfl, by omega, by omega, by omega, by omega⟩
/-! ### square roots -/
def isq (n r : Int) : Prop := 0 ≤ r ∧ r * r ≤ n ∧ n < (r + 1) * (r + 1)
theorem sq_lt {a b : Int} (ha : 0 ≤ a) (h : a * a < b * b) (hb : 0 ≤ b) : a < b := by
  rcases Int.lt_or_le a b with h1 | h1
  · exact h1
  · have : b * b ≤ a * a := Int.mul_le_mul h1 h1 hb ha
    omega
theorem sq_le {a b : Int} (ha : 0 ≤ a) (h : a * a ≤ b * b) (hb : 0 ≤ b) : a ≤ b := by
  rcases Int.lt_or_le b a with h1 | h1
  · have h2 : b * b < a * a := by
      have h3 : b * b ≤ b * a := Int.mul_le_mul_of_nonneg_left (by omega) hb
      have h4 : b * a < a * a := Int.mul_lt_mul_of_pos_right h1 (by omega)
      omega
    omega
  · exact h1
theorem mul_self_mono {a b : Int} (ha : 0 ≤ a) (h : a ≤ b) : a * a ≤ b * b := Int.mul_le_mul h h ha (by omega)
theorem isq_unique {n r s : Int} (h1 : isq n r) (h2 : isq n s) : r = s := by
  have a1 : r < s + 1 := sq_lt h1.1 (by have := h1.2.1; have := h2.2.2; omega) (by have := h2.1; omega)
  have a2 : s < r + 1 := sq_lt h2.1 (by have := h2.2.1; have := h1.2.2; omega) (by have := h1.1; omega)
  omega
theorem root_search (n : Int) (hn : 0 ≤ n) (hn2 : n ≤ 8000000000000000000) : ∀ (m : Nat) (lo hi : Int), (hi - lo).toNat ≤ m → 0 ≤ lo → lo ≤ hi → hi ≤ 3000000000 → lo * lo ≤ n → n < (hi + 1) * (hi + 1) → ∃ r, Ev (fun k => impl_rootDown.l0 k n lo hi) r ∧ isq n r := by
  intro m
  induction m with
  | zero =>
    intro lo hi h1 h2 h3 h4 h5 h6
    obtain rfl : lo = hi := by omega
    exact ⟨lo, ev_end (fun k => by simp only [impl_rootDown.l0]; rw [if_neg (by omega)]), h2, h5, h6⟩
  | succ m ih =>
    intro lo hi h1 h2 h3 h4 h5 h6
    by_cases hlt : lo < hi
    · have e : Int.tdiv (wrap64 (wrap64 (lo + hi) + 1)) 2 = (lo + hi + 1) / 2 := by
        rw [wrap_in (x := lo + hi) (by omega) (by omega), wrap_in (by omega) (by omega), Int.tdiv_eq_ediv_of_nonneg (by omega)]
      generalize hm : (lo + hi + 1) / 2 = mid at e
      have b1 : lo < mid ∧ mid ≤ hi := by omega
      have b2 : mid * mid ≤ 3000000000 * 3000000000 := mul_self_mono (by omega) (by omega)
      have b3 : 0 ≤ mid * mid := Int.mul_nonneg (by omega) (by omega)
      have w1 : wrap64 mid = mid := wrap_in (by omega) (by omega)
      have w2 : wrap64 (mid * mid) = mid * mid := wrap_in (by omega) (by omega)
      have w3 : wrap64 (mid - 1) = mid - 1 := wrap_in (by omega) (by omega)
      by_cases hc : mid * mid ≤ n
      · obtain ⟨r, hr, hq⟩ := ih mid hi (by omega) (by omega) (by omega) h4 hc h6
        refine ⟨r, ev_step (fun k => ?_) hr, hq⟩
        simp only [impl_rootDown.l0]
        rw [e, w1, w2, if_pos hlt, if_pos hc]
      · obtain ⟨r, hr, hq⟩ := ih lo (mid - 1) (by omega) (by omega) (by omega) (by omega) h5 (by have : mid - 1 + 1 = mid := by omega
                                                                                                 rw [this]; omega)
        refine ⟨r, ev_step (fun k => ?_) hr, hq⟩
        simp only [impl_rootDown.l0]
        rw [e, w1, w2, w3, if_pos hlt, if_neg hc]
    · obtain rfl : lo = hi := by omega
      exact ⟨lo, ev_end (fun k => by simp only [impl_rootDown.l0]; rw [if_neg (by omega)]), h2, h5, h6⟩
theorem root_down (n : Int) (hn : 0 ≤ n) (hn2 : n ≤ 8000000000000000000) : ∃ r, Ev (fun k => impl_rootDown.f k n) r ∧ isq n r := by
  unfold impl_rootDown.f
  exact root_search n hn hn2 3000000000 0 3000000000 (by omega) (by omega) (by omega) (by omega) (by omega) (by omega)
/-- The root, rounded up: the least number whose square is not below n. -/
def iup (n u : Int) : Prop := 0 ≤ u ∧ n ≤ u * u ∧ ∀ s, 0 ≤ s → n ≤ s * s → u ≤ s
theorem iup_of {n r : Int} (h : isq n r) : iup n (if r * r < n then r + 1 else r) := by
  obtain ⟨h1, h2, h3⟩ := h
  split
  · refine ⟨by omega, by omega, fun s hs hn => ?_⟩
    have : r < s := sq_lt h1 (by omega) hs
    omega
  · refine ⟨h1, by omega, fun s hs hn => sq_le h1 (by omega) hs⟩
theorem iup_unique {n u v : Int} (h1 : iup n u) (h2 : iup n v) : u = v := by
  have := h1.2.2 v h2.1 h2.2.1
  have := h2.2.2 u h1.1 h1.2.1
  omega
theorem root_up (n : Int) (hn : 0 ≤ n) (hn2 : n ≤ 8000000000000000000) : ∃ u, Ev (fun k => impl_rootUp.f k n) u ∧ iup n u ∧ u ≤ 2828427125 := by
  obtain ⟨r, hr, hq⟩ := root_down n hn hn2
  have hb : r ≤ 2828427124 := by
    have : r < 2828427125 := sq_lt hq.1 (by have := hq.2.1; omega) (by omega)
    omega
  have h0 := hq.1
  have hrr := mul_self_mono h0 hb
  have hrn : 0 ≤ r * r := Int.mul_nonneg h0 h0
  refine ⟨_, ?_, iup_of hq, by split <;> omega⟩
  unfold impl_rootUp.f
  refine ev_bind hr ?_
  rw [wrap_in (x := r * r) (by omega) (by omega), wrap_in (x := r + 1) (by omega) (by omega)]
  by_cases h : r * r < n
  · simp only [h, if_true]; exact ev_now fun _ => rfl
  · simp only [h, if_false]; exact ev_now fun _ => rfl
/-- A quotient, rounded up: the least t with g * t not below. -/
theorem ceil_least {S u g : Int} (h : iup S u) (hg : 0 < g) : 0 ≤ (u + g - 1) / g ∧ S ≤ (g * ((u + g - 1) / g)) * (g * ((u + g - 1) / g)) ∧ ∀ s, 0 ≤ s → S ≤ (g * s) * (g * s) → (u + g - 1) / g ≤ s := by
  obtain ⟨h0, h1, h2⟩ := h
  have e := Int.mul_ediv_add_emod (u + g - 1) g
  have m1 := Int.emod_nonneg (u + g - 1) (show g ≠ 0 by omega)
  have m2 := Int.emod_lt_of_pos (u + g - 1) hg
  generalize (u + g - 1) / g = t at *
  generalize (u + g - 1) % g = m at *
  have hu : u ≤ g * t := by omega
  have ht : 0 ≤ t := by
    rcases Int.lt_or_le t 0 with h | h
    · have : g * t ≤ g * (-1) := Int.mul_le_mul_of_nonneg_left (by omega) (by omega)
      omega
    · exact h
  refine ⟨ht, Int.le_trans h1 (mul_self_mono h0 hu), fun s hs hS => ?_⟩
  have h3 := h2 (g * s) (Int.mul_nonneg (by omega) hs) hS
  rcases Int.lt_or_le s t with h | h
  · have : g * s ≤ g * (t - 1) := Int.mul_le_mul_of_nonneg_left (by omega) (by omega)
    have e2 : g * (t - 1) = g * t - g := by rw [Int.mul_sub]; omega
    omega
  · exact h
/-! ### the lengths -/
def SS (c d p m : Int) : Int := 10000 * (c * c * p * p + 16 * d * d * m * m)
def okp (c d p : Int) : Prop := (1 ≤ c ∧ c ≤ 2000) ∧ (0 ≤ d ∧ d ≤ 500) ∧ (1 ≤ p ∧ p ≤ 16)
theorem ss_form (c d p m : Int) : SS c d p m = (100 * c * p) * (100 * c * p) + (400 * d * m) * (400 * d * m) := by unfold SS; grind
theorem sqr_ss {c d p m : Int} (h : okp c d p) (hm : -16 ≤ m ∧ m ≤ 16) : sqr c d p m = SS c d p m ∧ 0 ≤ SS c d p m ∧ SS c d p m ≤ 8000000000000000000 := by
  obtain ⟨h1, h2, h3⟩ := h
  have a1 := mul_bound (a := c) (b := c) (A := 2000) (B := 2000) (by omega) (by omega) (by omega) (by omega)
  have a2 := mul_bound (a := c * c) (b := p) (A := 2000 * 2000) (B := 16) (by omega) (by omega) (by omega) (by omega)
  have a3 := mul_bound (a := c * c * p) (b := p) (A := 2000 * 2000 * 16) (B := 16) (by omega) (by omega) (by omega) (by omega)
  have b1 := mul_bound (a := 16 * d) (b := d) (A := 16 * 500) (B := 500) (by omega) (by omega) (by omega) (by omega)
  have b2 := mul_bound (a := 16 * d * d) (b := m) (A := 16 * 500 * 500) (B := 16) (by omega) (by omega) (by omega) (by omega)
  have b3 := mul_bound (a := 16 * d * d * m) (b := m) (A := 16 * 500 * 500 * 16) (B := 16) (by omega) (by omega) (by omega) (by omega)
  have nn : 0 ≤ SS c d p m := by
    rw [ss_form]
    have q1 : 0 ≤ (100 * c * p) * (100 * c * p) := by
      rcases Int.le_total 0 (100 * c * p) with h | h
      · exact Int.mul_nonneg h h
      · exact Int.mul_nonneg_of_nonpos_of_nonpos h h
    have q2 : 0 ≤ (400 * d * m) * (400 * d * m) := by
      rcases Int.le_total 0 (400 * d * m) with h | h
      · exact Int.mul_nonneg h h
      · exact Int.mul_nonneg_of_nonpos_of_nonpos h h
    omega
  refine ⟨?_, nn, by unfold SS; omega⟩
  unfold sqr SS
  rw [wrap_in (x := c * c) (by omega) (by omega), wrap_in (x := c * c * p) (by omega) (by omega), wrap_in (x := c * c * p * p) (by omega) (by omega), wrap_in (x := 16 * d) (by omega) (by omega), wrap_in (x := 16 * d * d) (by omega) (by omega),
    wrap_in (x := 16 * d * d * m) (by omega) (by omega), wrap_in (x := 16 * d * d * m * m) (by omega) (by omega), wrap_in (x := c * c * p * p + _) (by omega) (by omega), wrap_in (by omega) (by omega)]
/-- One part of the edge: what is added below and above. -/
def part (c d p : Int) (i : Nat) (x y : Int) : Prop := ∃ r u v, isq (SS c d p (p - 2 * i - 1)) r ∧ iup (SS c d p (p - 2 * i)) u ∧ iup (SS c d p (p - 2 * i - 2)) v ∧
  x = r / (p * p) ∧ y = (u + 2 * p * p - 1) / (2 * p * p) + (v + 2 * p * p - 1) / (2 * p * p)
theorem part_unique {c d p : Int} {i : Nat} {x y x' y' : Int} (h : part c d p i x y) (h' : part c d p i x' y') : x = x' ∧ y = y' := by
  obtain ⟨r, u, v, h1, h2, h3, rfl, rfl⟩ := h
  obtain ⟨r', u', v', h1', h2', h3', rfl, rfl⟩ := h'
  rw [isq_unique h1 h1', iup_unique h2 h2', iup_unique h3 h3']
  exact ⟨rfl, rfl⟩
theorem pp_bound {p : Int} (h : 1 ≤ p ∧ p ≤ 16) : 1 ≤ p * p ∧ p * p ≤ 256 ∧ 2 * p * p = 2 * (p * p) := by
  have h1 := mul_self_mono (show (0 : Int) ≤ 1 by omega) h.1
  have h2 := mul_self_mono (show (0 : Int) ≤ p by omega) h.2
  exact ⟨by omega, by omega, Int.mul_assoc ..⟩
theorem ceil_ev {u g : Int} (hu : 0 ≤ u ∧ u ≤ 3000000000) (hg : 1 ≤ g ∧ g ≤ 1000) : impl_ceilDiv.f u g = some ((u + g - 1) / g) := by
  unfold impl_ceilDiv.f
  have h1 : 0 ≤ (u + g - 1) / g := Int.ediv_nonneg (by omega) (by omega)
  have h2 : (u + g - 1) / g ≤ u + g - 1 := Int.ediv_le_self _ (by omega)
  rw [if_neg (by omega), wrap_in (x := u + g) (by omega) (by omega), wrap_in (x := u + g - 1) (by omega) (by omega), Int.tdiv_eq_ediv_of_nonneg (by omega), wrap_in (by omega) (by omega)]
/-- What the loop adds up, from part i on. -/
theorem impl_round {c d p : Int} (h : okp c d p) : ∀ (m i : Nat) (lo up : Int), (p.toNat - i) = m → (i : Int) ≤ p → 0 ≤ lo → lo ≤ 3000000000 * i → 0 ≤ up → up ≤ 6000002000 * i →
    ∃ (X Y : Nat → Int), (∀ j, i ≤ j → (j : Int) < p → part c d p j (X j) (Y j)) ∧ Ev (fun k => impl_RoachLength.l0 k p lo up (i : Int) c d) (lo + ((List.range' i m).map X).sum, up + ((List.range' i m).map Y).sum, 0) := by
  intro m
  induction m with
  | zero =>
    intro i lo up h1 h2 h3 h4 h5 h6
    obtain ⟨_, _, hp⟩ := h
    refine ⟨fun _ => 0, fun _ => 0, fun j h1 h2 => by omega, ?_⟩
    refine ev_end fun k => ?_
    simp only [impl_RoachLength.l0]
    rw [if_neg (by omega)]
    simp
  | succ m ih =>
    intro i lo up h1 h2 h3 h4 h5 h6
    have hk := h
    obtain ⟨_, _, hp⟩ := hk
    have pb := pp_bound hp
    obtain ⟨e1, n1, m1⟩ := sqr_ss h (m := p - 2 * i - 1) (by omega)
    obtain ⟨e2, n2, m2⟩ := sqr_ss h (m := p - 2 * i) (by omega)
    obtain ⟨e3, n3, m3⟩ := sqr_ss h (m := p - 2 * i - 2) (by omega)
    obtain ⟨r, hr, hq⟩ := root_down _ n1 m1
    obtain ⟨u, hu, hu2, hu3⟩ := root_up _ n2 m2
    obtain ⟨v, hv, hv2, hv3⟩ := root_up _ n3 m3
    have r0 : 0 ≤ r ∧ r ≤ 3000000000 := ⟨hq.1, by have : r < 3000000000 := sq_lt hq.1 (by have := hq.2.1; omega) (by omega)
                                                  omega⟩
    have x0 : 0 ≤ r / (p * p) ∧ r / (p * p) ≤ r := ⟨Int.ediv_nonneg r0.1 (by omega), Int.ediv_le_self _ r0.1⟩
    have y1 : 0 ≤ (u + 2 * p * p - 1) / (2 * p * p) ∧ (u + 2 * p * p - 1) / (2 * p * p) ≤ u + 2 * p * p - 1 := ⟨Int.ediv_nonneg (by have := hu2.1; omega) (by omega), Int.ediv_le_self _ (by have := hu2.1; omega)⟩
    have y2 : 0 ≤ (v + 2 * p * p - 1) / (2 * p * p) ∧ (v + 2 * p * p - 1) / (2 * p * p) ≤ v + 2 * p * p - 1 := ⟨Int.ediv_nonneg (by have := hv2.1; omega) (by omega), Int.ediv_le_self _ (by have := hv2.1; omega)⟩
    have hu0 := hu2.1
    have hv0 := hv2.1
    obtain ⟨X, Y, hXY, hev⟩ := ih (i + 1) (lo + r / (p * p)) (up + ((u + 2 * p * p - 1) / (2 * p * p) + (v + 2 * p * p - 1) / (2 * p * p))) (by omega) (by omega) (by omega) (by omega) (by omega) (by omega)
    refine ⟨fun j => if j = i then r / (p * p) else X j, fun j => if j = i then (u + 2 * p * p - 1) / (2 * p * p) + (v + 2 * p * p - 1) / (2 * p * p) else Y j, fun j hj hj2 => ?_, ?_⟩
    · by_cases hji : j = i
      · subst hji
        simp only [if_true]
        exact ⟨r, u, v, hq, hu2, hv2, rfl, rfl⟩
      · simp only [if_neg hji]
        exact hXY j (by omega) hj2
    · have hX : ((List.range' (i + 1) m).map (fun j => if j = i then r / (p * p) else X j)) = (List.range' (i + 1) m).map X := by
        apply List.map_congr_left; intro j hj; rw [List.mem_range'_1] at hj; rw [if_neg (by omega)]
      have hY : ((List.range' (i + 1) m).map (fun j => if j = i then (u + 2 * p * p - 1) / (2 * p * p) + (v + 2 * p * p - 1) / (2 * p * p) else Y j)) = (List.range' (i + 1) m).map Y := by
        apply List.map_congr_left; intro j hj; rw [List.mem_range'_1] at hj; rw [if_neg (by omega)]
      rw [List.range'_succ, List.map_cons, List.map_cons, List.sum_cons, List.sum_cons, hX, hY]
      simp only [if_true]
      rw [← Int.add_assoc, ← Int.add_assoc]
      refine ev_step (f := fun k => (impl_rootDown.f k (SS c d p (p - 2 * i - 1))).bind fun t1 => (if p * p = 0 then none else ((impl_rootUp.f k (SS c d p (p - 2 * i))).bind fun t2 =>
        ((impl_ceilDiv.f t2 (2 * p * p)).bind fun t3 => ((impl_rootUp.f k (SS c d p (p - 2 * i - 2))).bind fun t4 => ((impl_ceilDiv.f t4 (2 * p * p)).bind fun t5 =>
        impl_RoachLength.l0 k p (wrap64 (lo + wrap64 (Int.tdiv t1 (p * p)))) (wrap64 (up + wrap64 (t3 + t5))) ((i + 1 : Nat) : Int) c d)))))) (fun k => ?_) ?_
      · simp only [impl_RoachLength.l0]
        rw [if_pos (by omega), wrap_in (x := 2 * (i : Int)) (by omega) (by omega), wrap_in (x := p - 2 * (i : Int)) (by omega) (by omega), wrap_in (x := p - 2 * (i : Int) - 1) (by omega) (by omega), wrap_in (x := p - 2 * (i : Int) - 2) (by omega) (by omega),
          wrap_in (x := p * p) (by omega) (by omega), wrap_in (x := 2 * p) (by omega) (by omega), wrap_in (x := 2 * p * p) (by omega) (by omega), succ_cast i (by omega), e1, e2, e3]
      · refine ev_bind hr (ev_if_neg (by omega) (ev_bind hu ?_))
        rw [ceil_ev ⟨hu0, by omega⟩ (by omega)]
        refine ev_some (ev_bind hv ?_)
        rw [ceil_ev ⟨hv0, by omega⟩ (by omega)]
        refine ev_some ?_
        rw [Int.tdiv_eq_ediv_of_nonneg r0.1, wrap_in (x := r / (p * p)) (by omega) (by omega), wrap_in (x := lo + r / (p * p)) (by omega) (by omega), wrap_in (x := (u + 2 * p * p - 1) / (2 * p * p) + _) (by omega) (by omega), wrap_in (x := up + _) (by omega) (by omega)]
        exact hev
theorem impl_len (c d p : Int) (h : okp c d p) : ∃ (X Y : Nat → Int), (∀ j : Nat, (j : Int) < p → part c d p j (X j) (Y j)) ∧ Ev (fun k => impl_RoachLength.f k c d p) (((List.range' 0 p.toNat).map X).sum, ((List.range' 0 p.toNat).map Y).sum, 0) := by
  obtain ⟨X, Y, h1, h2⟩ := impl_round h p.toNat 0 0 0 (by omega) (by have := h.2.2; omega) (by omega) (by omega) (by omega) (by omega)
  refine ⟨X, Y, fun j hj => h1 j (by omega) hj, ?_⟩
  unfold impl_RoachLength.f
  obtain ⟨k1, k2, k3⟩ := h
  simp only [implOk, implIn, k1, k2, k3, and_self, decide_true, Option.bind_some, if_true]
  have := ev_eq h2 (r' := (((List.range' 0 p.toNat).map X).sum, ((List.range' 0 p.toNat).map Y).sum, 0)) (by simp)
  exact this
theorem sq_nonneg (a : Int) : 0 ≤ a * a := by
  rcases Int.le_total 0 a with h | h
  · exact Int.mul_nonneg h h
  · exact Int.mul_nonneg_of_nonpos_of_nonpos h h
/-- What holds of each part. -/
theorem part_facts {c d p : Int} {j : Nat} {x y : Int} (h : okp c d p) (hj : (j : Int) < p) (hp : part c d p j x y) : x ≤ y ∧ 100 * c ≤ p * y ∧ p * x ≤ 100 * c + 400 * d ∧ 100 * c / p ≤ x := by
  obtain ⟨r, u, v, q1, q2, q3, rfl, rfl⟩ := hp
  obtain ⟨hc, hd, hp⟩ := h
  have pb := pp_bound hp
  rw [pb.2.2]
  have f1 := ss_form c d p (p - 2 * j - 1)
  have f2 := ss_form c d p (p - 2 * j)
  have f3 := ss_form c d p (p - 2 * j - 2)
  have cp0 : 0 ≤ 100 * c * p := Int.mul_nonneg (by omega) (by omega)
  have z1 := sq_nonneg (400 * d * (p - 2 * j - 1))
  have z2 := sq_nonneg (400 * d * (p - 2 * j))
  have z3 := sq_nonneg (400 * d * (p - 2 * j - 2))
  -- the roots and the chord
  have r1 : 100 * c * p < r + 1 := sq_lt cp0 (by have := q1.2.2; omega) (by have := q1.1; omega)
  have u1 : 100 * c * p ≤ u := sq_le cp0 (by have := q2.2.1; omega) q2.1
  have v1 : 100 * c * p ≤ v := sq_le cp0 (by have := q3.2.1; omega) q3.1
  have r2 : r ≤ 100 * c * p + 400 * d * p := by
    have m1 : 0 ≤ 400 * d * p := Int.mul_nonneg (by omega) (by omega)
    refine sq_le q1.1 ?_ (by omega)
    have k1 := mul_bound (a := p - 2 * j - 1) (b := p - 2 * j - 1) (A := p) (B := p) (by omega) (by omega) (by omega) (by omega)
    have k2 : (400 * d * (p - 2 * j - 1)) * (400 * d * (p - 2 * j - 1)) ≤ (400 * d * p) * (400 * d * p) := by
      have e1 : (400 * d * (p - 2 * j - 1)) * (400 * d * (p - 2 * j - 1)) = (400 * d) * (400 * d) * ((p - 2 * j - 1) * (p - 2 * j - 1)) := by grind
      have e2 : (400 * d * p) * (400 * d * p) = (400 * d) * (400 * d) * (p * p) := by grind
      rw [e1, e2]
      exact Int.mul_le_mul_of_nonneg_left k1.2 (sq_nonneg _)
    have k3 : (100 * c * p + 400 * d * p) * (100 * c * p + 400 * d * p) = (100 * c * p) * (100 * c * p) + (400 * d * p) * (400 * d * p) + 2 * ((100 * c * p) * (400 * d * p)) := by grind
    have k4 : 0 ≤ (100 * c * p) * (400 * d * p) := Int.mul_nonneg cp0 m1
    have := q1.2.1
    omega
  -- the middle is no longer than the mean of both sides
  have r3 : 2 * r ≤ u + v := by
    have hu := q2.2.1
    have hv := q3.2.1
    have hr := q1.2.1
    have u0 := q2.1
    have v0 := q3.1
    have huv : 0 ≤ u * v := Int.mul_nonneg u0 v0
    have key : (100 * c * p) * (100 * c * p) + (400 * d) * (400 * d) * ((p - 2 * j) * (p - 2 * j - 2)) ≤ u * v := by
      rcases Int.lt_or_le ((100 * c * p) * (100 * c * p) + (400 * d) * (400 * d) * ((p - 2 * j) * (p - 2 * j - 2))) 0 with hneg | hpos
      · omega
      · refine sq_le hpos ?_ huv
        have m1 : SS c d p (p - 2 * j) * SS c d p (p - 2 * j - 2) ≤ (u * u) * (v * v) := Int.mul_le_mul hu hv (by rw [f3]; have := sq_nonneg (100 * c * p); omega) (sq_nonneg u)
        have m2 : (u * v) * (u * v) = (u * u) * (v * v) := by grind
        have m3 : 0 ≤ ((100 * c * p) * (400 * d)) * ((100 * c * p) * (400 * d)) := sq_nonneg _
        rw [m2]
        refine Int.le_trans ?_ m1
        rw [f2, f3]
        generalize 100 * c * p = A at *
        generalize 400 * d = B at *
        generalize p - 2 * (j : Int) = m at *
        grind
    refine sq_le (by have := q1.1; omega) ?_ (by omega)
    have e1 : (2 * r) * (2 * r) = 4 * (r * r) := by grind
    have e2 : (u + v) * (u + v) = u * u + v * v + 2 * (u * v) := by grind
    have e3 : 4 * SS c d p (p - 2 * j - 1) = SS c d p (p - 2 * j) + SS c d p (p - 2 * j - 2) + 2 * ((100 * c * p) * (100 * c * p) + (400 * d) * (400 * d) * ((p - 2 * j) * (p - 2 * j - 2))) := by
      rw [f1, f2, f3]
      grind
    rw [e1, e2]
    omega
  have hg : 0 < p * p := by omega
  generalize hgq : p * p = g at *
  have d1 := Int.mul_ediv_add_emod r g
  have d2 := Int.emod_nonneg r (show g ≠ 0 by omega)
  have d3 := Int.emod_lt_of_pos r hg
  have c1 := Int.mul_ediv_add_emod (u + 2 * g - 1) (2 * g)
  have c2 := Int.emod_lt_of_pos (u + 2 * g - 1) (show 0 < 2 * g by omega)
  have c3 := Int.mul_ediv_add_emod (v + 2 * g - 1) (2 * g)
  have c4 := Int.emod_lt_of_pos (v + 2 * g - 1) (show 0 < 2 * g by omega)
  have lowx : 100 * c / p ≤ r / g := by
    rw [← hgq]
    have e : 100 * c / p = (100 * c * p) / (p * p) := by rw [Int.mul_ediv_mul_of_pos_left _ _ (by omega)]
    rw [e]
    exact Int.ediv_le_ediv (by omega) (by omega)
  generalize hX : r / g = x at *
  generalize hs : (u + 2 * g - 1) / (2 * g) = s at *
  generalize ht : (v + 2 * g - 1) / (2 * g) = t at *
  have a1 : 2 * g * s = 2 * (g * s) := Int.mul_assoc ..
  have a2 : 2 * g * t = 2 * (g * t) := Int.mul_assoc ..
  have a3 : g * (s + t) = g * s + g * t := Int.mul_add ..
  refine ⟨?_, ?_, ?_, lowx⟩
  · have : g * x ≤ g * (s + t) := by omega
    exact Int.le_of_mul_le_mul_left this hg
  · have h1 : 100 * c * p ≤ g * (s + t) := by omega
    have h2 : p * (100 * c) ≤ p * (p * (s + t)) := by
      have e1 : p * (p * (s + t)) = g * (s + t) := by rw [← hgq]; grind
      have e2 : p * (100 * c) = 100 * c * p := Int.mul_comm ..
      omega
    exact Int.le_of_mul_le_mul_left h2 (by omega)
  · have h1 : g * x ≤ 100 * c * p + 400 * d * p := by omega
    have h2 : p * (p * x) ≤ p * (100 * c + 400 * d) := by
      have e1 : p * (p * x) = g * x := by rw [← hgq]; grind
      have e2 : p * (100 * c + 400 * d) = 100 * c * p + 400 * d * p := by grind
      omega
    exact Int.le_of_mul_le_mul_left h2 (by omega)
theorem sum_ge (f : Nat → Int) (q K : Int) : ∀ (n i : Nat), (∀ j, i ≤ j → j < i + n → K ≤ q * f j) → K * n ≤ q * ((List.range' i n).map f).sum := by
  intro n
  induction n with
  | zero => intro i _; simp
  | succ n ih =>
    intro i h
    have h1 := h i (by omega) (by omega)
    have h2 := ih (i + 1) (fun j hj hj2 => h j (by omega) (by omega))
    rw [List.range'_succ, List.map_cons, List.sum_cons, Int.mul_add]
    have e : K * ((n + 1 : Nat) : Int) = K * n + K := by rw [Int.natCast_add, Int.mul_add]; simp
    omega
theorem sum_le (f : Nat → Int) (q K : Int) : ∀ (n i : Nat), (∀ j, i ≤ j → j < i + n → q * f j ≤ K) → q * ((List.range' i n).map f).sum ≤ K * n := by
  intro n
  induction n with
  | zero => intro i _; simp
  | succ n ih =>
    intro i h
    have h1 := h i (by omega) (by omega)
    have h2 := ih (i + 1) (fun j hj hj2 => h j (by omega) (by omega))
    rw [List.range'_succ, List.map_cons, List.sum_cons, Int.mul_add]
    have e : K * ((n + 1 : Nat) : Int) = K * n + K := by rw [Int.natCast_add, Int.mul_add]; simp
    omega
theorem sum_mono (f g : Nat → Int) : ∀ (n i : Nat), (∀ j, i ≤ j → j < i + n → f j ≤ g j) → ((List.range' i n).map f).sum ≤ ((List.range' i n).map g).sum := by
  intro n
  induction n with
  | zero => intro i _; simp
  | succ n ih =>
    intro i h
    have h1 := h i (by omega) (by omega)
    have h2 := ih (i + 1) (fun j hj hj2 => h j (by omega) (by omega))
    rw [List.range'_succ, List.map_cons, List.sum_cons, List.map_cons, List.sum_cons]
    omega
/-- The bounds: told of any roach. -/
theorem bounds_ev (c d p : Int) (h : okp c d p) : ∃ lo up : Int, Ev (fun k => impl_RoachLength.f k c d p) (lo, up, 0) ∧ 0 ≤ lo ∧ lo ≤ up ∧ up ≤ 1000000000000 ∧ lo ≤ 100 * c + 400 * d ∧ 100 * c ≤ lo + p ∧ 100 * c ≤ up := by
  obtain ⟨X, Y, hXY, hev⟩ := impl_len c d p h
  have hf : ∀ j, 0 ≤ j → j < 0 + p.toNat → X j ≤ Y j ∧ 100 * c ≤ p * Y j ∧ p * X j ≤ 100 * c + 400 * d ∧ 100 * c / p ≤ X j := fun j _ hj => part_facts h (by omega) (hXY j (by omega))
  have hYb : ∀ j, 0 ≤ j → j < 0 + p.toNat → 1 * Y j ≤ 6000002000 := by
    intro j _ hj
    obtain ⟨r, u, v, q1, q2, q3, hx, hy⟩ := hXY j (by omega)
    obtain ⟨_, n2, m2⟩ := sqr_ss h (m := p - 2 * j) (by have := h.2.2; omega)
    obtain ⟨_, n3, m3⟩ := sqr_ss h (m := p - 2 * j - 2) (by have := h.2.2; omega)
    have pb := pp_bound h.2.2
    have u1 : u ≤ 3000000000 := q2.2.2 3000000000 (by omega) (by omega)
    have v1 : v ≤ 3000000000 := q3.2.2 3000000000 (by omega) (by omega)
    have u0 := q2.1
    have v0 := q3.1
    have y1 : (u + 2 * p * p - 1) / (2 * p * p) ≤ u + 2 * p * p - 1 := Int.ediv_le_self _ (by omega)
    have y2 : (v + 2 * p * p - 1) / (2 * p * p) ≤ v + 2 * p * p - 1 := Int.ediv_le_self _ (by omega)
    omega
  have h1 := sum_mono X Y p.toNat 0 (fun j a b => (hf j a b).1)
  have h2 := sum_ge Y p (100 * c) p.toNat 0 (fun j a b => (hf j a b).2.1)
  have h3 := sum_le X p (100 * c + 400 * d) p.toNat 0 (fun j a b => (hf j a b).2.2.1)
  have h4 := sum_ge X 1 (100 * c / p) p.toNat 0 (fun j a b => by have := (hf j a b).2.2.2; omega)
  have h5 := sum_le Y 1 6000002000 p.toNat 0 hYb
  obtain ⟨hc, hd, hp⟩ := h
  have ep : ((p.toNat : Nat) : Int) = p := by omega
  rw [ep] at h2 h3 h4 h5
  generalize ((List.range' 0 p.toNat).map X).sum = lo at *
  generalize ((List.range' 0 p.toNat).map Y).sum = up at *
  have e1 := Int.mul_ediv_add_emod (100 * c) p
  have e2 := Int.emod_lt_of_pos (100 * c) (show 0 < p by omega)
  have e3 : 0 ≤ 100 * c / p := Int.ediv_nonneg (by omega) (by omega)
  have e4 : 0 ≤ 100 * c / p * p := Int.mul_nonneg e3 (by omega)
  have e5 : 100 * c / p * p = p * (100 * c / p) := Int.mul_comm ..
  have g2 : 100 * c ≤ up := by
    have : p * (100 * c) ≤ p * up := by rw [Int.mul_comm p (100 * c)]; exact h2
    exact Int.le_of_mul_le_mul_left this (by omega)
  have g3 : lo ≤ 100 * c + 400 * d := by
    have : p * lo ≤ p * (100 * c + 400 * d) := by rw [Int.mul_comm p (100 * c + 400 * d)]; exact h3
    exact Int.le_of_mul_le_mul_left this (by omega)
  exact ⟨lo, up, hev, by omega, h1, by omega, g3, by omega, g2⟩
theorem battens (most depth : Int) (hm : 1 ≤ most ∧ most ≤ 500) (hd : 0 ≤ depth ∧ depth ≤ 500) (c : Int) : ∀ (m : Nat) (n : Int), 0 ≤ n → n ≤ 500 → (500 - n).toNat = m → (n = 0 ∨ most * n * n < depth) →
    ∃ r : Int, Ev (fun k => impl_BattensFor.l0 k most n c depth) (r, 0) ∧ 0 ≤ r ∧ r ≤ 500 ∧ depth ≤ most * (r + 1) * (r + 1) ∧ (r = 0 ∨ most * r * r < depth) := by
  intro m
  induction m with
  | zero =>
    intro n h0 h1 h2 hn
    obtain rfl : n = 500 := by omega
    refine ⟨500, ev_end (fun k => ?_), by omega, by omega, by omega, hn⟩
    simp only [impl_BattensFor.l0]
    rw [wrap_in (x := 500 + 1) (by omega) (by omega), wrap_in (x := most * (500 + 1)) (by omega) (by omega), wrap_in (x := most * (500 + 1) * (500 + 1)) (by omega) (by omega), if_neg (by omega)]
  | succ m ih =>
    intro n h0 h1 h2 hn
    have a1 : 0 ≤ most * (n + 1) ∧ most * (n + 1) ≤ 500 * 501 := ⟨Int.mul_nonneg (by omega) (by omega), Int.mul_le_mul (by omega) (by omega) (by omega) (by omega)⟩
    have a2 : 0 ≤ most * (n + 1) * (n + 1) ∧ most * (n + 1) * (n + 1) ≤ 500 * 501 * 501 := ⟨Int.mul_nonneg a1.1 (by omega), Int.mul_le_mul a1.2 (by omega) (by omega) (by omega)⟩
    have w1 := wrap_in (x := n + 1) (by omega) (by omega)
    have w2 := wrap_in (x := most * (n + 1)) (by omega) (by omega)
    have w3 := wrap_in (x := most * (n + 1) * (n + 1)) (by omega) (by omega)
    by_cases h : most * (n + 1) * (n + 1) < depth
    · obtain ⟨r, hr2, h3⟩ := ih (n + 1) (by omega) (by omega) (by omega) (.inr h)
      refine ⟨r, ev_step (fun k => ?_) hr2, h3⟩
      simp only [impl_BattensFor.l0]; rw [w1, w2, w3, if_pos h]
    · refine ⟨n, ev_end (fun k => ?_), h0, h1, by omega, hn⟩
      simp only [impl_BattensFor.l0]; rw [w1, w2, w3, if_neg (by omega)]
theorem FnRoachBounds : Say.FnRoachBounds := by
  intro l m hl hm
  have bl := bytes_of hl.2
  have bm := bytes_of hm.2
  apply Ev.rounds
  unfold laws_FnRoachBounds.f
  rw [a2Long_eq]
  by_cases hlong : l.length > 3000 ∨ m.length > 3000
  · exact ev_some (ev_if_pos (by simp [hlong]) (ev_now fun _ => rfl))
  refine ev_some (ev_if_neg (by simp [hlong]) ?_)
  obtain ⟨c, d, e1, c1, c2, d1, d2⟩ := a2Roach_ok bl
  rw [e1]
  refine ev_some ?_
  obtain ⟨q, e2, t1, t2⟩ := a2At_ok bm 0 16 (by omega) (by omega)
  rw [e2]
  refine ev_some ?_
  show Ev (fun n => (impl_RoachLength.f n c d (wrap64 (1 + q))).bind _) true
  rw [wrap_in (x := 1 + q) (by omega) (by omega)]
  have hk : okp c d (1 + q) := ⟨by omega, by omega, by omega⟩
  obtain ⟨lo, up, hev, g0, g1, g2, g3, g4, g5⟩ := bounds_ev c d (1 + q) hk
  refine ev_bind hev (ev_if_pos rfl ?_)
  refine ev_if_neg (show ¬ lo > up by omega) ?_
  refine ev_if_neg ?_ (ev_if_neg ?_ ?_)
  · try simp only
    rw [wrap_in (x := 100 * c) (by omega) (by omega), wrap_in (x := 400 * d) (by omega) (by omega), wrap_in (by omega) (by omega)]
    omega
  · try simp only
    rw [wrap_in (x := lo + (1 + q)) (by omega) (by omega), wrap_in (x := 100 * c) (by omega) (by omega)]
    omega
  · try simp only
    rw [wrap_in (x := 100 * c) (by omega) (by omega), decide_eq_false (show ¬ up < 100 * c by omega)]
    have hk0 : okp c 0 (1 + q) := ⟨by omega, by omega, by omega⟩
    obtain ⟨lo0, up0, hev0, s0, s1, s2, s3, s4, s5⟩ := bounds_ev c 0 (1 + q) hk0
    refine ev_step (fun k => by simp only [laws_FnRoachBounds.j0, Bool.false_eq_true, if_false]; rfl) (ev_bind hev0 (ev_if_pos rfl ?_))
    refine ev_if_neg (show ¬ lo0 > up0 by omega) ?_
    refine ev_if_neg ?_ (ev_if_neg ?_ ?_)
    · try simp only
      rw [wrap_in (x := 100 * c) (by omega) (by omega)]; omega
    · try simp only
      rw [wrap_in (x := 100 * c) (by omega) (by omega)]; omega
    · try simp only
      rw [wrap_in (x := lo + (1 + q)) (by omega) (by omega), decide_eq_false (show ¬ lo + (1 + q) < lo0 by omega)]
      obtain ⟨w, e3, w1, w2⟩ := a2At_ok bm 1 40 (by omega) (by omega)
      refine ev_step (fun k => by simp only [laws_FnRoachBounds.j1, Bool.false_eq_true, if_false, e3, Option.bind_some]; rfl) ?_
      rw [wrap_in (x := 1 + w) (by omega) (by omega)]
      obtain ⟨r, hr, r1, r2, r3, r4⟩ := battens (1 + w) d (by omega) (by omega) c 500 0 (by omega) (by omega) (by omega) (.inl rfl)
      have hb : Ev (fun k => impl_BattensFor.f k c d (1 + w)) (r, 0) := by
        unfold impl_BattensFor.f
        have k1 : 1 ≤ c ∧ c ≤ 2000 ∧ 0 ≤ d ∧ d ≤ 500 := by omega
        have k2 : 1 ≤ 1 + w ∧ 1 + w ≤ 500 := by omega
        simp only [implOk, implIn, Option.bind_some, k1, k2, and_self, decide_true, if_true]
        exact hr
      have a1 : 0 ≤ (1 + w) * (r + 1) ∧ (1 + w) * (r + 1) ≤ 500 * 501 := ⟨Int.mul_nonneg (by omega) (by omega), Int.mul_le_mul (by omega) (by omega) (by omega) (by omega)⟩
      have a2 : 0 ≤ (1 + w) * (r + 1) * (r + 1) ∧ (1 + w) * (r + 1) * (r + 1) ≤ 500 * 501 * 501 := ⟨Int.mul_nonneg a1.1 (by omega), Int.mul_le_mul a1.2 (by omega) (by omega) (by omega)⟩
      have a3 : 0 ≤ (1 + w) * r ∧ (1 + w) * r ≤ 500 * 501 := ⟨Int.mul_nonneg (by omega) (by omega), Int.mul_le_mul (by omega) (by omega) (by omega) (by omega)⟩
      have a4 : 0 ≤ (1 + w) * r * r ∧ (1 + w) * r * r ≤ 500 * 501 * 501 := ⟨Int.mul_nonneg a3.1 (by omega), Int.mul_le_mul a3.2 (by omega) (by omega) (by omega)⟩
      refine ev_bind hb (ev_if_pos rfl ?_)
      refine ev_if_pos (show r ≥ 0 by omega) ?_
      refine ev_if_pos (show r ≤ 500 by omega) ?_
      refine ev_if_pos ?_ ?_
      · try simp only
        rw [wrap_in (x := r + 1) (by omega) (by omega), wrap_in (x := (1 + w) * (r + 1)) (by omega) (by omega), wrap_in (by omega) (by omega)]
        omega
      · try simp only
        by_cases hr0 : r = 0
        · exact ev_if_pos hr0 (ev_now fun _ => rfl)
        · refine ev_if_neg hr0 (ev_now fun _ => ?_)
          rw [wrap_in (x := (1 + w) * r) (by omega) (by omega), wrap_in (by omega) (by omega)]
          simp
          omega
end Go.Proofs.Ytlddapidlobpnaa.Pure
