import Derived.Test.YtlddapidlobpnaaSayFnRoaches
import Derived.Test.YtlddapidlobpnaaPlain
namespace Go.Proofs.Ytlddapidlobpnaa.Pure
open Go.RowKit Go.Proofs.Ytlddapidlobpnaa.PFnRoaches Go.Proofs.Ytlddapidlobpnaa.Plain Go.Proofs.YtlddapidlobpnaaW.PrintWords
set_option linter.unusedVariables false
set_option linter.unusedSimpArgs false
theorem frac {n d : Int} (h0 : -9223372036854775807 ≤ n) (h1 : n ≤ 9223372036854775807) (h2 : 0 < d) (h3 : d ≤ 9223372036854775807) : Ev (fun k => impl_fraction.f k n d) (lowest n d) := by
  have := fraction_ev impl_gcd.l0 impl_gcd.j0 impl_gcd.f impl_fraction.f (fun _ _ _ => by simp only [impl_gcd.l0]) (fun _ _ _ => by simp only [impl_gcd.j0]) (fun _ _ _ => rfl) (fun _ _ _ => rfl) (n := n) (d := d) h0 h1 (by omega) (by omega) h3
  rwa [if_neg (by omega)] at this
theorem implIn (n a b : Int) : impl_within.f n a b = some (decide (a ≤ n ∧ n ≤ b)) := by
  unfold impl_within.f
  by_cases h1 : n ≥ a <;> by_cases h2 : n ≤ b <;> simp [h1, h2] <;> omega
theorem implOk (a b : Int) : impl_ValidRoach.f a b = some (decide ((1 ≤ a ∧ a ≤ 2000) ∧ (0 ≤ b ∧ b ≤ 500))) := by
  unfold impl_ValidRoach.f
  rw [implIn, implIn]
  by_cases h1 : 1 ≤ a ∧ a ≤ 2000
  · simp [h1]
  · simp [h1]
/-! ### drawn numbers -/
def bytes (l : List Int) : Prop := ∀ x ∈ l, 0 ≤ x ∧ x ≤ 255
theorem bytes_of {l : List Int} (h : ∀ x ∈ l, (Lit.int .u8 x).wf = true) : bytes l := fun x hx => wf_u8 (h x hx)
theorem rd_byte {l : List Int} (h : bytes l) (i : Int) (h0 : 0 ≤ i) (h1 : i < l.length) : 0 ≤ rd l i ∧ rd l i ≤ 255 := by
  obtain ⟨n, rfl⟩ := Int.eq_ofNat_of_zero_le h0
  have hn : n < l.length := by omega
  unfold rd
  rw [getD_nat, List.getD_eq_getElem?_getD, List.getElem?_eq_getElem hn]
  exact h _ (List.getElem_mem hn)
theorem and255 (x : Int) : 0 ≤ wrap64 (Go.bits .and .u64 (IntKind.u64.wrap x / 1099511627776) 255) ∧ wrap64 (Go.bits .and .u64 (IntKind.u64.wrap x / 1099511627776) 255) ≤ 255 := by
  have e : IntKind.u64.wrap x = x % 18446744073709551616 := by simp [IntKind.wrap, IntKind.bits, IntKind.signed]
  have hb : ∀ y : Int, 0 ≤ y → y < 16777216 → Go.bits .and .u64 y 255 = y % 256 := by
    intro y h0 h1
    exact Go.bits_mask .u64 24 (by decide) (fun n h0 h1 => by
      have : n < 16777216 := h1
      simp [IntKind.wrap, IntKind.bits, IntKind.signed]; omega) 8 (by decide) y h0 h1
  rw [e, hb _ (by omega) (by omega)]
  unfold wrap64
  omega
theorem next_ok {l : List Int} (h : bytes l) (a s : Int) (h0 : 0 ≤ a) (h1 : a ≤ 1000000000000000) : ∃ v s', spec_l00Src_next.f l a s = some (v, a + 1, s') ∧ 0 ≤ v ∧ v ≤ 255 := by
  unfold spec_l00Src_next.f
  rw [wrap_in (x := a + 1) (by omega) (by omega)]
  by_cases c1 : a < (l.length : Int)
  · rw [if_pos c1, if_pos h0]
    have hr := rd_byte h a h0 c1
    rw [if_pos (show a + 1 ≤ (l.length : Int) by omega)]
    exact ⟨_, _, rfl, by rw [wrap_in (by omega) (by omega)]; exact hr.1, by rw [wrap_in (by omega) (by omega)]; exact hr.2⟩
  · rw [if_neg c1]
    by_cases c2 : a + 1 ≤ (l.length : Int)
    · rw [if_pos c2]
      exact ⟨_, _, rfl, by omega, by omega⟩
    · rw [if_neg c2]
      exact ⟨_, _, rfl, (and255 _).1, (and255 _).2⟩
theorem pick_ok {l : List Int} (h : bytes l) (a s n : Int) (h0 : 0 ≤ a) (h1 : a ≤ 1000000000) : ∃ v a' s', spec_l00Src_pick.f l a s n = some (v, a', s') ∧ 0 ≤ v ∧ (v < n ∨ v = 0) ∧ a ≤ a' ∧ a' ≤ a + 2 := by
  unfold spec_l00Src_pick.f
  by_cases c : n ≤ 1
  · rw [if_pos c]
    exact ⟨0, a, s, rfl, by omega, .inr rfl, by omega, by omega⟩
  · rw [if_neg c]
    obtain ⟨v, s1, e1, b1, b2⟩ := next_ok h a s h0 (by omega)
    rw [e1]
    simp only [Option.bind_some]
    by_cases c2 : n > 200
    · rw [if_pos c2]
      obtain ⟨v2, s2, e2, d1, d2⟩ := next_ok h (a + 1) s1 (by omega) (by omega)
      rw [e2]
      simp only [Option.bind_some]
      rw [if_neg (by omega), wrap_in (x := v * 256) (by omega) (by omega), wrap_in (x := v * 256 + v2) (by omega) (by omega)]
      have m1 := Int.tmod_nonneg n (show 0 ≤ v * 256 + v2 by omega)
      have m2 := Int.tmod_lt_of_pos (v * 256 + v2) (show 0 < n by omega)
      exact ⟨_, _, _, rfl, m1, .inl m2, by omega, by omega⟩
    · rw [if_neg c2, if_neg (by omega)]
      have m1 := Int.tmod_nonneg n b1
      have m2 := Int.tmod_lt_of_pos v (show 0 < n by omega)
      exact ⟨_, _, _, rfl, m1, .inl m2, by omega, by omega⟩
theorem a2At_ok {l : List Int} (h : bytes l) (i n : Int) (h0 : 0 ≤ i) (hn : 1 ≤ n) : ∃ v, laws_a2At.f l i n = some v ∧ 0 ≤ v ∧ v < n := by
  unfold laws_a2At.f
  by_cases c : i ≥ (l.length : Int)
  · rw [if_pos c]; exact ⟨0, rfl, by omega, by omega⟩
  · have hr := rd_byte h i h0 (by omega)
    rw [if_neg c, if_neg (by omega), if_pos h0, if_pos (by omega), if_neg (by omega), wrap_in (by omega) (by omega)]
    exact ⟨_, rfl, Int.tmod_nonneg n hr.1, Int.tmod_lt_of_pos _ (by omega)⟩
theorem a2Long_eq (l m : List Int) : laws_a2Long.f l m = some (decide (l.length > 3000 ∨ m.length > 3000)) := by
  unfold laws_a2Long.f
  by_cases c : (l.length : Int) > 3000
  · rw [if_pos c]; congr 1; symm; rw [decide_eq_true_eq]; left; omega
  · rw [if_neg c]; congr 1
    rw [decide_eq_decide]; omega
theorem a2Roach_ok {l : List Int} (h : bytes l) : ∃ c d, spec_A2Roach.f l = some (c, d) ∧ 10 ≤ c ∧ c ≤ 1500 ∧ 0 ≤ d ∧ d ≤ 119 := by
  unfold spec_A2Roach.f spec_l00From.f
  simp only [Option.bind_some]
  obtain ⟨v, a1, s1, e1, b1, b2, b3, b4⟩ := pick_ok h 0 0 150 (by omega) (by omega)
  rw [e1]
  simp only [Option.bind_some]
  obtain ⟨v2, a2, s2, e2, d1, d2, d3, d4⟩ := pick_ok h a1 s1 120 (by omega) (by omega)
  rw [e2]
  simp only [Option.bind_some]
  rw [wrap_in (x := 1 + v) (by omega) (by omega), wrap_in (by omega) (by omega)]
  exact ⟨_, _, rfl, by omega, by omega, by omega, by omega⟩
theorem height_ev (a b c : Int) (h : 1 ≤ a ∧ a ≤ 2000) (hb : 0 ≤ b ∧ b ≤ 500) (h2 : 0 ≤ c ∧ c ≤ a) : Ev (fun k => impl_RoachHeight.f k a b c) ((lowest (4 * b * c * (a - c)) (a * a)).1, (lowest (4 * b * c * (a - c)) (a * a)).2, 0) := by
  have p1 : 0 ≤ 4 * b * c ∧ 4 * b * c ≤ 2000 * 2000 := ⟨Int.mul_nonneg (by omega) h2.1, Int.mul_le_mul (by omega) (by omega) h2.1 (by omega)⟩
  have p2 : 0 ≤ 4 * b * c * (a - c) ∧ 4 * b * c * (a - c) ≤ 2000 * 2000 * 2000 := ⟨Int.mul_nonneg p1.1 (by omega), Int.mul_le_mul p1.2 (by omega) (by omega) (by omega)⟩
  have p3 : a * a ≤ 2000 * 2000 := Int.mul_le_mul h.2 h.2 (by omega) (by omega)
  have p4 : 1 * 1 ≤ a * a := Int.mul_le_mul h.1 h.1 (by omega) (by omega)
  unfold impl_RoachHeight.f
  simp only [implOk, implIn, Option.bind_some, h, hb, h2, and_self, decide_true, if_true]
  rw [wrap_in (x := 4 * b) (by omega) (by omega), wrap_in (x := 4 * b * c) (by omega) (by omega), wrap_in (x := a - c) (by omega) (by omega), wrap_in (x := 4 * b * c * (a - c)) (by omega) (by omega), wrap_in (x := a * a) (by omega) (by omega)]
  exact ev_bind (frac (by omega) (by omega) (by omega) (by omega)) (ev_now fun _ => rfl)
theorem area_ev (a b : Int) (h : 1 ≤ a ∧ a ≤ 2000) (hb : 0 ≤ b ∧ b ≤ 500) : Ev (fun k => impl_RoachArea.f k a b) ((lowest (2 * a * b) 3).1, (lowest (2 * a * b) 3).2, 0) := by
  have hp : 0 ≤ a * b ∧ a * b ≤ 2000 * 500 := ⟨Int.mul_nonneg (by omega) hb.1, Int.mul_le_mul h.2 hb.2 hb.1 (by omega)⟩
  have e : 2 * a * b = 2 * (a * b) := Int.mul_assoc ..
  unfold impl_RoachArea.f
  simp only [implOk, Option.bind_some, h, hb, and_self, decide_true, if_true]
  rw [wrap_in (x := 2 * a) (by omega) (by omega), wrap_in (x := 2 * a * b) (by omega) (by omega)]
  exact ev_bind (frac (by omega) (by omega) (by omega) (by omega)) (ev_now fun _ => rfl)
theorem curve_ev (a b : Int) (h : 1 ≤ a ∧ a ≤ 2000) (hb : 0 ≤ b ∧ b ≤ 500) : Ev (fun k => impl_SameCurve.f k a b a) (b, 1, 0) := by
  have p1 : 0 ≤ b * a ∧ b * a ≤ 500 * 2000 := ⟨Int.mul_nonneg hb.1 (by omega), Int.mul_le_mul hb.2 h.2 (by omega) (by omega)⟩
  have p2 : 0 ≤ b * a * a ∧ b * a * a ≤ 500 * 2000 * 2000 := ⟨Int.mul_nonneg p1.1 (by omega), Int.mul_le_mul p1.2 h.2 (by omega) (by omega)⟩
  have p3 : a * a ≤ 2000 * 2000 := Int.mul_le_mul h.2 h.2 (by omega) (by omega)
  have p4 : 1 * 1 ≤ a * a := Int.mul_le_mul h.1 h.1 (by omega) (by omega)
  have hin : 1 ≤ a ∧ a ≤ 2000 := h
  unfold impl_SameCurve.f
  simp only [implOk, implIn, Option.bind_some, h, hb, and_self, decide_true, if_true]
  rw [wrap_in (x := b * a) (by omega) (by omega), wrap_in (x := b * a * a) (by omega) (by omega), wrap_in (x := a * a) (by omega) (by omega)]
  have hl : lowest (b * a * a) (a * a) = (b, 1) := by
    have e : b * a * a = b * (a * a) := Int.mul_assoc ..
    have hg : Int.gcd (b * (a * a)) (a * a) = (a * a).natAbs := Int.gcd_eq_natAbs_right (Int.dvd_mul_left ..)
    unfold lowest
    rw [e, hg, Int.natAbs_of_nonneg (by omega), Int.mul_ediv_cancel _ (by omega), Int.ediv_self (by omega)]
  have := frac (n := b * a * a) (d := a * a) (by omega) (by omega) (by omega) (by omega)
  rw [hl] at this
  exact ev_bind this (ev_now fun _ => rfl)
def pf (b n : Int) (i : Nat) : S45 := ⟨(lowest (4 * b * i * (n - i)) (n * n)).1, (lowest (4 * b * i * (n - i)) (n * n)).2⟩
theorem pbound (b n : Int) (i : Nat) (h : 0 ≤ b ∧ b ≤ 500) (h2 : 1 ≤ n ∧ n ≤ 16) (hi : (i : Int) ≤ n) : (0 ≤ 4 * b * i ∧ 4 * b * i ≤ 2000 * 16) ∧ (0 ≤ 4 * b * i * (n - i) ∧ 4 * b * i * (n - i) ≤ 2000 * 16 * 16) ∧ (1 ≤ n * n ∧ n * n ≤ 16 * 16) := by
  have p1 : 0 ≤ 4 * b * i ∧ 4 * b * i ≤ 2000 * 16 := ⟨Int.mul_nonneg (by omega) (by omega), Int.mul_le_mul (by omega) (by omega) (by omega) (by omega)⟩
  have p2 : 0 ≤ 4 * b * i * (n - i) ∧ 4 * b * i * (n - i) ≤ 2000 * 16 * 16 := ⟨Int.mul_nonneg p1.1 (by omega), Int.mul_le_mul p1.2 (by omega) (by omega) (by omega)⟩
  have p3 : n * n ≤ 16 * 16 := Int.mul_le_mul h2.2 h2.2 (by omega) (by omega)
  have p4 : 1 * 1 ≤ n * n := Int.mul_le_mul h2.1 h2.1 (by omega) (by omega)
  exact ⟨p1, p2, by omega, p3⟩
theorem points_ev (a b : Int) (m : Nat) (h : 1 ≤ a ∧ a ≤ 2000) (hb : 0 ≤ b ∧ b ≤ 500) (h2 : 1 ≤ (m : Int) ∧ (m : Int) ≤ 16) : Ev (fun k => impl_RoachPoints.f k a b m) ((List.range (m + 1)).map (pf b m), 0) := by
  unfold impl_RoachPoints.f
  simp only [implOk, implIn, Option.bind_some, h, hb, h2, and_self, decide_true, if_true]
  refine loop_up' (fun k i => impl_RoachPoints.l0 k (m : Int) ((List.range i).map (pf b m)) (i : Int) a b) (m + 1) _ (fun _ => True) (fun i hi _ => .inl ⟨trivial, fun hn => ?_⟩) (fun _ => ev_end fun k => ?_) _ 0 rfl (by omega) trivial
  · obtain ⟨p1, p2, p3⟩ := pbound b m i hb h2 (by omega)
    refine ev_step (f := fun k => (impl_fraction.f k (4 * b * (i : Int) * ((m : Int) - i)) ((m : Int) * m)).bind fun bt135 => (if ((List.range i).map (pf b m)).length < 8796093022208 then (impl_RoachPoints.l0 k (m : Int) (((List.range i).map (pf b m)) ++ [(⟨bt135.1, bt135.2⟩ : S45)]) ((i + 1 : Nat) : Int) a b) else (none))) (fun k => ?_) (ev_bind (frac (by omega) (by omega) (by omega) (by omega)) (ev_if_pos (by simp; omega) ?_))
    · show impl_RoachPoints.l0 (k + 1) _ _ _ _ _ = _
      simp only [impl_RoachPoints.l0]
      rw [if_pos (by omega), wrap_in (x := 4 * b) (by omega) (by omega), wrap_in (x := 4 * b * _) (by omega) (by omega), wrap_in (x := (m : Int) - _) (by omega) (by omega), wrap_in (x := 4 * b * _ * _) (by omega) (by omega), wrap_in (x := (m : Int) * _) (by omega) (by omega), succ_cast i (by omega)]
    · have e : (List.range i).map (pf b m) ++ [(⟨(lowest (4 * b * (i : Int) * ((m : Int) - i)) ((m : Int) * m)).1, (lowest (4 * b * (i : Int) * ((m : Int) - i)) ((m : Int) * m)).2⟩ : S45)] = (List.range (i + 1)).map (pf b m) := by simp [List.range_succ, pf]
      rw [e]
      exact hn
  · show impl_RoachPoints.l0 (k + 1) _ _ _ _ _ = _
    simp only [impl_RoachPoints.l0]
    rw [if_neg (by omega)]
theorem depth_ev (a b : Int) (h : 1 ≤ a ∧ a ≤ 2000) (hb : 0 ≤ b ∧ b ≤ 1000000) : Ev (fun k => impl_DepthForArea.f k a b) (if (3 * b + 2 * a - 1) / (2 * a) > 500 then (0, 3) else ((3 * b + 2 * a - 1) / (2 * a), 0)) := by
  unfold impl_DepthForArea.f
  simp only [implIn, Option.bind_some, h, hb, and_self, decide_true, if_true, Bool.not_true]
  refine ev_end (fun k => ?_)
  simp only [impl_DepthForArea.j0, impl_ceilDiv.f]
  have hd : 0 ≤ (3 * b + 2 * a - 1) / (2 * a) ∧ (3 * b + 2 * a - 1) / (2 * a) ≤ 3 * b + 2 * a - 1 := ⟨Int.ediv_nonneg (by omega) (by omega), Int.ediv_le_self _ (by omega)⟩
  rw [wrap_in (x := 2 * a) (by omega) (by omega), wrap_in (x := 3 * b) (by omega) (by omega), wrap_in (x := 3 * b + 2 * a) (by omega) (by omega), wrap_in (x := 3 * b + 2 * a - 1) (by omega) (by omega), Int.tdiv_eq_ediv_of_nonneg (by omega), wrap_in (by omega) (by omega)]
  simp only [Bool.false_eq_true, if_false]
  rw [if_neg (by omega)]
  simp only [Option.bind_some]
  split <;> rfl
theorem FnRoaches : Say.FnRoaches := by
  intro l m hl hm
  have bl := bytes_of hl.2
  have bm := bytes_of hm.2
  apply Ev.rounds
  unfold laws_FnRoaches.f
  rw [a2Long_eq]
  by_cases hlong : l.length > 3000 ∨ m.length > 3000
  · exact ev_some (ev_if_pos (by simp [hlong]) (ev_now fun _ => rfl))
  refine ev_some (ev_if_neg (by simp [hlong]) ?_)
  obtain ⟨c, d, e1, c1, c2, d1, d2⟩ := a2Roach_ok bl
  rw [e1]
  refine ev_some ?_
  show Ev (fun n => (laws_a2At.f m 0 (wrap64 (c + 1))).bind _) true
  rw [wrap_in (x := c + 1) (by omega) (by omega)]
  obtain ⟨t, e2, t1, t2⟩ := a2At_ok bm 0 (c + 1) (by omega) (by omega)
  rw [e2]
  refine ev_some ?_
  have hc : 1 ≤ c ∧ c ≤ 2000 := by omega
  have hd : 0 ≤ d ∧ d ≤ 500 := by omega
  have H1 := height_ev c d t hc hd (by omega)
  have H2 := height_ev c d (c - t) hc hd (by omega)
  have es : 4 * d * (c - t) * (c - (c - t)) = 4 * d * t * (c - t) := by grind
  rw [es] at H2
  have H3 := area_ev c d hc hd
  have p3 : c * c ≤ 2000 * 2000 := Int.mul_le_mul hc.2 hc.2 (by omega) (by omega)
  have p4 : 1 * 1 ≤ c * c := Int.mul_le_mul hc.1 hc.1 (by omega) (by omega)
  have p5 : 0 ≤ 4 * d * t ∧ 4 * d * t ≤ 2000 * 2000 := ⟨Int.mul_nonneg (by omega) (by omega), Int.mul_le_mul (by omega) (by omega) (by omega) (by omega)⟩
  have p6 : 0 ≤ 4 * d * t * (c - t) ∧ 4 * d * t * (c - t) ≤ 2000 * 2000 * 2000 := ⟨Int.mul_nonneg p5.1 (by omega), Int.mul_le_mul p5.2 (by omega) (by omega) (by omega)⟩
  have lb := lowest_bound (n := 4 * d * t * (c - t)) (d := c * c) (by omega) (B := 8000000000) (by omega) (by omega) (by omega)
  have lx := lowest_cross (n := 4 * d * t * (c - t)) (d := c * c) (by omega)
  have hnum0 : 0 ≤ (lowest (4 * d * t * (c - t)) (c * c)).1 := Int.ediv_nonneg p6.1 (by omega)
  generalize lowest (4 * d * t * (c - t)) (c * c) = f at *
  obtain ⟨fn, fd⟩ := f
  simp only at *
  -- the height is not above the depth
  have hq : 4 * t * (c - t) ≤ c * c := by
    have : 0 ≤ (c - 2 * t) * (c - 2 * t) := by
      rcases Int.le_total 0 (c - 2 * t) with h | h
      · exact Int.mul_nonneg h h
      · exact Int.mul_nonneg_of_nonpos_of_nonpos h h
    grind
  have hle : fn ≤ d * fd := by
    have h1 : 4 * d * t * (c - t) * fd ≤ d * (c * c) * fd := by
      have h2 : 4 * d * t * (c - t) = d * (4 * t * (c - t)) := by grind
      rw [h2]
      exact Int.mul_le_mul_of_nonneg_right (Int.mul_le_mul_of_nonneg_left hq hd.1) (by omega)
    have h3 : fn * (c * c) ≤ d * fd * (c * c) := by grind
    exact Int.le_of_mul_le_mul_right h3 (by omega)
  have hfd : fd ≤ 4000000 := by omega
  have b1 : 0 ≤ d * fd ∧ d * fd ≤ 500 * 4000000 := ⟨Int.mul_nonneg hd.1 (by omega), Int.mul_le_mul hd.2 hfd (by omega) (by omega)⟩
  refine ev_bind H1 ?_
  show Ev (fun n => (impl_RoachHeight.f n c d (wrap64 (c - t))).bind _) true
  rw [wrap_in (x := c - t) (by omega) (by omega)]
  refine ev_bind H2 (ev_bind H3 (ev_if_pos rfl (ev_if_pos rfl (ev_if_neg (by simp) (ev_if_neg (by simp only; omega) (ev_if_neg (by simp only; omega) (ev_if_neg (by simp only; rw [wrap_in (by omega) (by omega)]; omega) (ev_if_pos rfl ?_))))))))
  have q1 : 0 ≤ c * d ∧ c * d ≤ 2000 * 500 := ⟨Int.mul_nonneg (by omega) hd.1, Int.mul_le_mul hc.2 hd.2 hd.1 (by omega)⟩
  have q2 : 2 * c * d = 2 * (c * d) := Int.mul_assoc ..
  have lb2 := lowest_bound (n := 2 * c * d) (d := 3) (by omega) (B := 2000000) (by omega) (by omega) (by omega)
  have lx2 := lowest_cross (n := 2 * c * d) (d := 3) (by omega)
  generalize lowest (2 * c * d) 3 = g at *
  obtain ⟨gn, gd⟩ := g
  simp only at *
  refine ev_if_neg (by omega) ?_
  have q3 : 0 ≤ 2 * c * d * gd ∧ 2 * c * d * gd ≤ 2000000 * 3 := ⟨Int.mul_nonneg (by omega) (by omega), Int.mul_le_mul (by omega) (by omega) (by omega) (by omega)⟩
  rw [wrap_in (x := 3 * gn) (by omega) (by omega), wrap_in (x := 2 * c) (by omega) (by omega), wrap_in (x := 2 * c * d) (by omega) (by omega), wrap_in (x := 2 * c * d * gd) (by omega) (by omega)]
  have e3 : (3 * gn != 2 * c * d * gd) = false := by
    rw [bne_eq_false_iff_eq]; omega
  rw [e3]
  refine ev_step (fun k => by simp only [laws_FnRoaches.j0, Bool.false_eq_true, if_false]; rfl) ?_
  obtain ⟨q, e4, s1, s2⟩ := a2At_ok bm 1 16 (by omega) (by omega)
  rw [e4]
  refine ev_some ?_
  show Ev (fun n => (impl_RoachPoints.f n c d (wrap64 (1 + q))).bind _) true
  obtain ⟨n, hn⟩ := Int.eq_ofNat_of_zero_le (show 0 ≤ 1 + q by omega)
  rw [wrap_in (x := 1 + q) (by omega) (by omega), hn]
  have hn16 : 1 ≤ (n : Int) ∧ (n : Int) ≤ 16 := by omega
  refine ev_bind (points_ev c d n hc hd hn16) (ev_if_pos rfl ?_)
  have e5 : ((((List.range (n + 1)).map (pf d n)).length : Int) != wrap64 ((n : Int) + 1)) = false := by
    rw [wrap_in (by omega) (by omega), bne_eq_false_iff_eq]; simp
  simp only [e5]
  refine ev_step (fun k => by simp only [laws_FnRoaches.j1, Bool.false_eq_true, if_false]; rfl) ?_
  have hlen : ((List.range (n + 1)).map (pf d n)).length = n + 1 := by simp
  have hrd : ∀ i : Nat, i < n + 1 → rd_T45 ((List.range (n + 1)).map (pf d n)) (i : Int) = pf d n i := by
    intro i hi
    unfold rd_T45
    rw [getD_nat, List.getD_eq_getElem?_getD, List.getElem?_eq_getElem (by simpa using hi)]
    simp
  refine loop_up' (fun k i => laws_FnRoaches.l0 k m (n : Int) ((List.range (n + 1)).map (pf d n)) (i : Int) c d) (n + 1) true (fun _ => True) (fun i hi _ => .inl ⟨trivial, fun hnext => ?_⟩) (fun _ => ?_) _ 0 rfl (by omega) trivial
  · obtain ⟨r1, r2, r3⟩ := pbound d n i hd hn16 (by omega)
    have lb3 := lowest_bound (n := 4 * d * i * (n - i)) (d := (n : Int) * n) (by omega) (B := 512000) (by omega) (by omega) (by omega)
    have lx3 := lowest_cross (n := 4 * d * i * (n - i)) (d := (n : Int) * n) (by omega)
    have hsym : pf d n (n - i) = pf d n i := by
      have e : ((n - i : Nat) : Int) = (n : Int) - i := by omega
      unfold pf
      rw [e]
      have e6 : 4 * d * ((n : Int) - i) * (n - (n - i)) = 4 * d * i * (n - i) := by grind
      rw [e6]
    have ei : wrap64 (wrap64 ((((List.range (n + 1)).map (pf d n)).length : Int) - 1) - (i : Int)) = ((n - i : Nat) : Int) := by
      rw [hlen, wrap_in (x := ((n + 1 : Nat) : Int) - 1) (by omega) (by omega), wrap_in (by omega) (by omega)]; omega
    have hpn : (pf d n i).f0 = (lowest (4 * d * i * (n - i)) (n * n)).1 := rfl
    have hpd : (pf d n i).f1 = (lowest (4 * d * i * (n - i)) (n * n)).2 := rfl
    refine ev_step (fun k => ?_) hnext
    show laws_FnRoaches.l0 (k + 1) _ _ _ _ _ _ = _
    simp only [laws_FnRoaches.l0]
    rw [ei, hrd i hi, hrd (n - i) (by omega), hsym, if_pos (by rw [hlen]; omega), if_pos (by omega), if_pos (by omega), if_pos (by rw [hlen]; omega), if_neg (by simp)]
    rw [hpn, hpd]
    generalize lowest (4 * d * i * (n - i)) ((n : Int) * n) = z at *
    obtain ⟨zn, zd⟩ := z
    simp only at *
    have v1 := mul_bound (a := zn) (b := (n : Int)) (A := 512000) (B := 16) (by omega) (by omega) (by omega) (by omega)
    have v2 := mul_bound (a := zn * n) (b := (n : Int)) (A := 512000 * 16) (B := 16) (by omega) (by omega) (by omega) (by omega)
    have v3 := mul_bound (a := 4 * d * i * (n - i)) (b := zd) (A := 512000) (B := 256) (by omega) (by omega) (by omega) (by omega)
    rw [if_neg (by omega), wrap_in (x := zn * n) (by omega) (by omega), wrap_in (x := zn * n * n) (by omega) (by omega), wrap_in (x := 4 * d) (by omega) (by omega), wrap_in (x := 4 * d * _) (by omega) (by omega), wrap_in (x := (n : Int) - i) (by omega) (by omega),
      wrap_in (x := 4 * d * i * (n - i)) (by omega) (by omega), wrap_in (x := 4 * d * i * (n - i) * zd) (by omega) (by omega), if_pos (by rw [Int.mul_assoc]; exact lx3), succ_cast i (by omega)]
  · obtain ⟨w, e6, w1, w2⟩ := a2At_ok bm 2 250 (by omega) (by omega)
    refine ev_step (fun k => by
      show laws_FnRoaches.l0 (k + 1) _ _ _ _ _ _ = _
      simp only [laws_FnRoaches.l0]
      rw [if_neg (by rw [hlen]; omega), e6, Option.bind_some, wrap_in (x := w * 100) (by omega) (by omega)]) ?_
    have hdep := depth_ev c (w * 100) hc (by omega)
    have hb1 := Int.mul_ediv_add_emod (3 * (w * 100) + 2 * c - 1) (2 * c)
    have hb2 := Int.emod_nonneg (3 * (w * 100) + 2 * c - 1) (show 2 * c ≠ 0 by omega)
    have hb3 := Int.emod_lt_of_pos (3 * (w * 100) + 2 * c - 1) (show 0 < 2 * c by omega)
    have hb4 : 0 ≤ (3 * (w * 100) + 2 * c - 1) / (2 * c) := Int.ediv_nonneg (by omega) (by omega)
    generalize (3 * (w * 100) + 2 * c - 1) / (2 * c) = x at *
    generalize (3 * (w * 100) + 2 * c - 1) % (2 * c) = y at *
    have tail : ∀ P : Prop, [Decidable P] → ¬ P → Ev (fun k => (if P then (some false) else ((impl_SameCurve.f k c d c).bind fun bt => (if bt.2.2 = 0 then (if bt.1 = d then (some (bt.2.1 == 1)) else (some false)) else (some false))))) true := by
      intro P _ hP
      exact ev_if_neg hP (ev_bind (curve_ev c d hc hd) (ev_if_pos rfl (ev_if_pos rfl (ev_now fun _ => rfl))))
    have x1 : 2 * c * (x - 1) = 2 * c * x - 2 * c := by rw [Int.mul_sub]; omega
    refine ev_bind hdep ?_
    by_cases hx : x > 500
    · rw [if_pos hx]
      refine ev_if_neg (by simp) (ev_if_pos rfl (tail _ ?_))
      have : 2 * c * 501 ≤ 2 * c * x := Int.mul_le_mul_of_nonneg_left (by omega) (by omega)
      rw [wrap_in (x := 2 * c) (by omega) (by omega), wrap_in (x := 2 * c * 500) (by omega) (by omega), wrap_in (x := 3 * _) (by omega) (by omega)]
      omega
    · rw [if_neg hx]
      have x2 : 0 ≤ 2 * c * x ∧ 2 * c * x ≤ 4000 * 500 := ⟨Int.mul_nonneg (by omega) hb4, Int.mul_le_mul (by omega) (by omega) hb4 (by omega)⟩
      refine ev_if_pos rfl (ev_if_neg (by simp only; omega) (ev_if_neg (by simp only; omega) (ev_if_neg ?_ ?_)))
      · simp only
        rw [wrap_in (x := 2 * c) (by omega) (by omega), wrap_in (x := 2 * c * x) (by omega) (by omega), wrap_in (x := 3 * _) (by omega) (by omega)]
        omega
      · by_cases h0 : x > 0
        · refine ev_if_pos h0 (tail _ ?_)
          rw [wrap_in (x := 2 * c) (by omega) (by omega), wrap_in (x := x - 1) (by omega) (by omega), wrap_in (x := 2 * c * (x - 1)) (by omega) (by omega), wrap_in (x := 3 * _) (by omega) (by omega)]
          omega
        · exact ev_if_neg h0 (ev_bind (curve_ev c d hc hd) (ev_if_pos rfl (ev_if_pos rfl (ev_now fun _ => rfl))))
end Go.Proofs.Ytlddapidlobpnaa.Pure
