import Derived.Test.YtchngbjpjbahiaaSayFnSailWidths
import Derived.Test.YtchngbjpjbahiaaPlain
namespace Go.Proofs.Ytchngbjpjbahiaa.Pure
open Go.RowKit Go.Proofs.Ytchngbjpjbahiaa.PSailw Go.Proofs.Ytchngbjpjbahiaa.Plain Go.Proofs.YtchngbjpjbahiaaW.PrintWords
set_option linter.unusedVariables false
set_option linter.unusedSimpArgs false
open Go.Proofs.YtchngbjpjbahiaaW.PrintMore
/-! ### loops over lists -/
theorem mem_getD {α : Type} (l : List α) (z : α) (i : Nat) (h : i < l.length) : l.getD i z ∈ l := by
  rw [List.getD_eq_getElem?_getD, List.getElem?_eq_getElem h]; exact List.getElem_mem h
theorem all_loop {α : Type} (z : α) (p : α → Bool) (T : Nat → α → Option Bool) (F : Nat → Int → Option Bool) (l : List α) (hl : l.length < 9223372036854775807) (hT : ∀ x ∈ l, Ev (fun k => T k x) (p x))
    (hF : ∀ k x5, F (k + 1) x5 = if x5 < (l.length : Int) then (if 0 ≤ x5 then (if x5 < (l.length : Int) then ((T k (l.getD x5.toNat z)).bind fun t => (if t = true then (F k (wrap64 (x5 + 1))) else (some false))) else (none)) else (none)) else (some true)) :
    Ev (fun k => F k 0) (l.all p) := by
  refine loop_up' (fun k i => F k (i : Int)) l.length (l.all p) (fun i => (l.take i).all p = true) (fun i hi hI => ?_) (fun hI => ?_) l.length 0 (by omega) (by omega) (by simp)
  · have hm := hT _ (mem_getD l z i hi)
    cases hp : p (l.getD i z) with
    | true =>
      refine .inl ⟨?_, fun h => ?_⟩
      · rw [List.take_succ_eq_append_getElem hi, List.all_append, hI]
        rw [List.getD_eq_getElem?_getD, List.getElem?_eq_getElem hi] at hp
        simpa using hp
      · refine ev_step (fun k => hF k i) (ev_if_pos (by omega) (ev_if_pos (by omega) (ev_if_pos (by omega) ?_)))
        rw [Int.toNat_natCast]
        refine ev_bind hm (ev_if_pos hp ?_)
        rw [succ_cast i (by omega)]
        exact h
    | false =>
      refine .inr ?_
      refine ev_step (fun k => hF k i) (ev_if_pos (by omega) (ev_if_pos (by omega) (ev_if_pos (by omega) ?_)))
      rw [Int.toNat_natCast]
      refine ev_bind hm (ev_if_neg (by rw [hp]; decide) (ev_now fun _ => ?_))
      have : l.all p = false := by
        cases hq : l.all p with
        | false => rfl
        | true => rw [List.all_eq_true.mp hq _ (mem_getD l z i hi)] at hp; cases hp
      rw [this]
  · refine ev_end (fun k => ?_)
    show F (k + 1) _ = _
    rw [hF, if_neg (by omega)]
    simpa using hI.symm
theorem copyT_loop {α β : Type} (z : α) (zb : β) (f : α → β) (T : Nat → α → Option β) (F : Nat → List β → Int → Option (List β)) (l : List α) (hl : l.length < 9223372036854775807) (hT : ∀ x ∈ l, Ev (fun k => T k x) (f x))
    (hF : ∀ k x3 x4, F (k + 1) x3 x4 = if x4 < (l.length : Int) then (if 0 ≤ x4 then ((T k (l.getD x4.toNat z)).bind fun t => (if x4 < (x3.length : Int) then (F k (x3.set x4.toNat t) (wrap64 (x4 + 1))) else (none))) else (none)) else (some x3)) :
    Ev (fun k => F k (List.replicate l.length zb) 0) (l.map f) := by
  have h := loop_up' (fun k i => F k ((l.take i).map f ++ List.replicate (l.length - i) zb) (i : Int)) l.length (l.map f) (fun _ => True) (fun i hi _ => .inl ⟨trivial, fun h => by
    refine ev_step (fun k => hF k _ i) (ev_if_pos (by omega) (ev_if_pos (by omega) ?_))
    rw [Int.toNat_natCast]
    refine ev_bind (hT _ (mem_getD l z i hi)) (ev_if_pos (by simp; omega) ?_)
    have e : List.replicate (l.length - i) zb = zb :: List.replicate (l.length - (i + 1)) zb := by
      rw [← List.replicate_succ]; congr 1; omega
    rw [e, set_next _ _ _ _ (by simp; omega), succ_cast i (by omega)]
    have e2 : (l.take (i + 1)).map f = (l.take i).map f ++ [f (l.getD i z)] := by
      rw [List.take_succ_eq_append_getElem hi, List.map_append]
      simp [List.getD_eq_getElem?_getD, List.getElem?_eq_getElem hi]
    rw [← e2]
    exact h⟩) (fun _ => by
    refine ev_end (fun k => ?_)
    show F (k + 1) _ _ = _
    rw [hF, if_neg (by omega)]
    simp) l.length 0 (by omega) (by omega) trivial
  simpa using h
/-! ### drawn numbers -/
def bytes (l : List Int) : Prop := ∀ x ∈ l, 0 ≤ x ∧ x ≤ 255
theorem bytes_of {l : List Int} (h : ∀ x ∈ l, (Lit.int .u8 x).wf = true) : bytes l := fun x hx => wf_u8 (h x hx)
theorem rd_byte {l : List Int} (h : bytes l) (i : Int) (h0 : 0 ≤ i) (h1 : i < l.length) : 0 ≤ rd l i ∧ rd l i ≤ 255 := by
  obtain ⟨n, rfl⟩ := Int.eq_ofNat_of_zero_le h0
  have hn : n < l.length := by omega
  unfold rd
  rw [getD_nat, List.getD_eq_getElem?_getD, List.getElem?_eq_getElem hn]
  exact h _ (List.getElem_mem hn)
theorem and255 (x : Int) : 0 ≤ wrap64 (Go.bits .and .u64 (IntKind.u64.wrap x / 1099511627776) 255) ∧ wrap64 (Go.bits .and .u64 (IntKind.u64.wrap x / 1099511627776) 255) ≤ 255 := by
  have e : IntKind.u64.wrap x = x % 18446744073709551616 := by simp [IntKind.wrap, IntKind.bits, IntKind.signed]
  have hb : ∀ y : Int, 0 ≤ y → y < 16777216 → Go.bits .and .u64 y 255 = y % 256 := by
    intro y h0 h1
    exact Go.bits_mask .u64 24 (by decide) (fun n h0 h1 => by
      have : n < 16777216 := h1
      simp [IntKind.wrap, IntKind.bits, IntKind.signed]; omega) 8 (by decide) y h0 h1
  rw [e, hb _ (by omega) (by omega)]
  unfold wrap64
  omega
theorem next_ok {l : List Int} (h : bytes l) (a s : Int) (h0 : 0 ≤ a) (h1 : a ≤ 1000000000000000) : ∃ v s', spec_l00Src_next.f l a s = some (v, a + 1, s') ∧ 0 ≤ v ∧ v ≤ 255 := by
  unfold spec_l00Src_next.f
  rw [wrap_in (x := a + 1) (by omega) (by omega)]
  by_cases c1 : a < (l.length : Int)
  · rw [if_pos c1, if_pos h0]
    have hr := rd_byte h a h0 c1
    rw [if_pos (show a + 1 ≤ (l.length : Int) by omega)]
    exact ⟨_, _, rfl, by rw [wrap_in (by omega) (by omega)]; exact hr.1, by rw [wrap_in (by omega) (by omega)]; exact hr.2⟩
  · rw [if_neg c1]
    by_cases c2 : a + 1 ≤ (l.length : Int)
    · rw [if_pos c2]
      exact ⟨_, _, rfl, by omega, by omega⟩
    · rw [if_neg c2]
      exact ⟨_, _, rfl, (and255 _).1, (and255 _).2⟩
theorem pick_ok {l : List Int} (h : bytes l) (a s n : Int) (h0 : 0 ≤ a) (h1 : a ≤ 1000000000) : ∃ v a' s', spec_l00Src_pick.f l a s n = some (v, a', s') ∧ 0 ≤ v ∧ (v < n ∨ v = 0) ∧ a ≤ a' ∧ a' ≤ a + 2 := by
  unfold spec_l00Src_pick.f
  by_cases c : n ≤ 1
  · rw [if_pos c]
    exact ⟨0, a, s, rfl, by omega, .inr rfl, by omega, by omega⟩
  · rw [if_neg c]
    obtain ⟨v, s1, e1, b1, b2⟩ := next_ok h a s h0 (by omega)
    rw [e1]
    simp only [Option.bind_some]
    by_cases c2 : n > 200
    · rw [if_pos c2]
      obtain ⟨v2, s2, e2, d1, d2⟩ := next_ok h (a + 1) s1 (by omega) (by omega)
      rw [e2]
      simp only [Option.bind_some]
      rw [if_neg (by omega), wrap_in (x := v * 256) (by omega) (by omega), wrap_in (x := v * 256 + v2) (by omega) (by omega)]
      have m1 := Int.tmod_nonneg n (show 0 ≤ v * 256 + v2 by omega)
      have m2 := Int.tmod_lt_of_pos (v * 256 + v2) (show 0 < n by omega)
      exact ⟨_, _, _, rfl, m1, .inl m2, by omega, by omega⟩
    · rw [if_neg c2, if_neg (by omega)]
      have m1 := Int.tmod_nonneg n b1
      have m2 := Int.tmod_lt_of_pos v (show 0 < n by omega)
      exact ⟨_, _, _, rfl, m1, .inl m2, by omega, by omega⟩
theorem cast_ne {a : Int} (h : a ≠ 0) : (a : Rat) ≠ 0 := by simpa using h
theorem cast_inj {a b : Int} (h : (a : Rat) = (b : Rat)) : a = b := by simpa using h
def frq (q : Rat) : Int × Int := (q.num, (q.den : Int))
theorem frq_val (q : Rat) : q * ((q.den : Int) : Rat) = ((q.num : Int) : Rat) := by
  have e : q = (q.num : Rat) / ((q.den : Int) : Rat) := by
    conv => lhs; rw [← Rat.num_divInt_den q]
    exact Rat.divInt_eq_div _ _
  have h0 : ((q.den : Int) : Rat) ≠ 0 := cast_ne (by have := q.den_nz; omega)
  generalize ((q.den : Int) : Rat) = d at *
  generalize ((q.num : Int) : Rat) = n at *
  grind
theorem frq_cop (q : Rat) : Int.gcd q.num (q.den : Int) = 1 := by simpa [Int.gcd] using q.reduced
theorem frq_mk {q : Rat} {a b : Int} (hb : 0 < b) (hc : Int.gcd a b = 1) (h : q * (b : Rat) = (a : Rat)) : frq q = (a, b) := by
  have hv := frq_val q
  have hd : (q.den : Int) ≠ 0 := by have := q.den_nz; omega
  have e : a * (q.den : Int) = q.num * b := by
    apply cast_inj
    simp only [Rat.intCast_mul]
    rw [← h, ← hv]; grind
  have h1 : (q.den : Int) ∣ b := by
    have h1 : (q.den : Int).natAbs ∣ q.num.natAbs * b.natAbs := by rw [← Int.natAbs_mul, ← e, Int.natAbs_mul]; exact Nat.dvd_mul_left ..
    exact Int.natAbs_dvd_natAbs.1 (Nat.Coprime.dvd_of_dvd_mul_left (Nat.Coprime.symm (frq_cop q)) h1)
  have h2 : b ∣ (q.den : Int) := by
    have h1 : b.natAbs ∣ a.natAbs * (q.den : Int).natAbs := by rw [← Int.natAbs_mul, e, Int.natAbs_mul]; exact Nat.dvd_mul_left ..
    exact Int.natAbs_dvd_natAbs.1 (Nat.Coprime.dvd_of_dvd_mul_left (Nat.Coprime.symm hc) h1)
  have e2 : b = (q.den : Int) := Int.dvd_antisymm (by omega) (by omega) h2 h1
  have e3 : a = q.num := by
    rw [← e2] at e
    exact Int.eq_of_mul_eq_mul_right (by omega) e
  unfold frq
  rw [← e2, e3]
/-- a value over a common denominator -/
theorem frq_dvd {q : Rat} {a b : Int} (hb : b ≠ 0) (h : q * (b : Rat) = (a : Rat)) : ∃ t : Int, t ≠ 0 ∧ a = q.num * t ∧ b = (q.den : Int) * t := by
  have hv := frq_val q
  have hd : (q.den : Int) ≠ 0 := by have := q.den_nz; omega
  have e : a * (q.den : Int) = q.num * b := by
    apply cast_inj
    simp only [Rat.intCast_mul]
    rw [← h, ← hv]; grind
  have hdv : (q.den : Int) ∣ b := by
    have h1 : (q.den : Int).natAbs ∣ q.num.natAbs * b.natAbs := by rw [← Int.natAbs_mul, ← e, Int.natAbs_mul]; exact Nat.dvd_mul_left ..
    exact Int.natAbs_dvd_natAbs.1 (Nat.Coprime.dvd_of_dvd_mul_left (Nat.Coprime.symm (frq_cop q)) h1)
  obtain ⟨t, ht⟩ := hdv
  refine ⟨t, fun h0 => hb (by rw [ht, h0]; simp), ?_, ht⟩
  rw [ht] at e
  have : a * (q.den : Int) = (q.num * t) * (q.den : Int) := by rw [e]; grind
  exact Int.eq_of_mul_eq_mul_right hd this
theorem natAbs_le_mul {a t : Int} (ht : t ≠ 0) : a.natAbs ≤ (a * t).natAbs := by
  rw [Int.natAbs_mul]; exact Nat.le_mul_of_pos_right _ (by omega)
theorem frq_bound {q : Rat} {a b : Int} (hb : b ≠ 0) (h : q * (b : Rat) = (a : Rat)) : q.num.natAbs ≤ a.natAbs ∧ q.den ≤ b.natAbs := by
  obtain ⟨t, h0, h1, h2⟩ := frq_dvd hb h
  refine ⟨by rw [h1]; exact natAbs_le_mul h0, ?_⟩
  rw [h2]
  have := natAbs_le_mul (a := (q.den : Int)) h0
  simpa using this
theorem frq_lowest {q : Rat} {a b : Int} (hb : 0 < b) (h : q * (b : Rat) = (a : Rat)) : frq q = (a / (Int.gcd a b : Int), b / (Int.gcd a b : Int)) := by
  obtain ⟨t, h0, h1, h2⟩ := frq_dvd (by omega) h
  have ht : 0 < t := by
    have : 0 < (q.den : Int) := by have := q.den_nz; omega
    rw [h2] at hb
    exact Int.pos_of_mul_pos_right hb (by omega)
  have hg : (Int.gcd a b : Int) = t := by
    rw [h1, h2, Int.gcd_mul_right, frq_cop]; omega
  rw [hg]
  unfold frq
  rw [h1, h2, Int.mul_ediv_cancel _ (by omega), Int.mul_ediv_cancel _ (by omega)]
theorem frq_mul {p q X Y : Rat} (hX : X * ((q.den : Int) : Rat) = (p.num : Rat)) (hY : Y * ((p.den : Int) : Rat) = (q.num : Rat)) : frq (p * q) = ((frq X).1 * (frq Y).1, (frq X).2 * (frq Y).2) := by
  have hp := p.den_nz
  have hq := q.den_nz
  obtain ⟨t, t0, x1, x2⟩ := frq_dvd (q := X) (a := p.num) (b := (q.den : Int)) (by omega) hX
  obtain ⟨u, u0, y1, y2⟩ := frq_dvd (q := Y) (a := q.num) (b := (p.den : Int)) (by omega) hY
  have hx := X.den_nz
  have hy := Y.den_nz
  refine frq_mk (Int.mul_pos (by show 0 < (X.den : Int); omega) (by show 0 < (Y.den : Int); omega)) ?_ ?_
  · show Nat.gcd (X.num * Y.num).natAbs ((X.den : Int) * (Y.den : Int)).natAbs = 1
    rw [Int.natAbs_mul, Int.natAbs_mul]
    have d1 : X.num.natAbs ∣ p.num.natAbs := by rw [x1, Int.natAbs_mul]; exact Nat.dvd_mul_right ..
    have d2 : Y.num.natAbs ∣ q.num.natAbs := by rw [y1, Int.natAbs_mul]; exact Nat.dvd_mul_right ..
    have d3 : X.den ∣ q.den := by
      have : (X.den : Int).natAbs ∣ (q.den : Int).natAbs := by rw [x2, Int.natAbs_mul]; exact Nat.dvd_mul_right ..
      simpa using this
    have d4 : Y.den ∣ p.den := by
      have : (Y.den : Int).natAbs ∣ (p.den : Int).natAbs := by rw [y2, Int.natAbs_mul]; exact Nat.dvd_mul_right ..
      simpa using this
    have c1 : Nat.Coprime X.num.natAbs X.den := X.reduced
    have c2 : Nat.Coprime Y.num.natAbs Y.den := Y.reduced
    have c3 : Nat.Coprime X.num.natAbs Y.den := Nat.Coprime.coprime_dvd_left d1 (Nat.Coprime.coprime_dvd_right d4 p.reduced)
    have c4 : Nat.Coprime Y.num.natAbs X.den := Nat.Coprime.coprime_dvd_left d2 (Nat.Coprime.coprime_dvd_right d3 q.reduced)
    exact Nat.Coprime.mul_right (Nat.Coprime.mul_left c1 c4) (Nat.Coprime.mul_left c3 c2)
  · have v1 := frq_val X
    have v2 := frq_val Y
    have vp := frq_val p
    have vq := frq_val q
    have z1 : ((p.den : Int) : Rat) ≠ 0 := cast_ne (by omega)
    have z2 : ((q.den : Int) : Rat) ≠ 0 := cast_ne (by omega)
    simp only [frq, Rat.intCast_mul]
    generalize ((p.den : Int) : Rat) = pd at *
    generalize ((q.den : Int) : Rat) = qd at *
    generalize ((X.den : Int) : Rat) = xd at *
    generalize ((Y.den : Int) : Rat) = yd at *
    generalize (p.num : Rat) = pn at *
    generalize (q.num : Rat) = qn at *
    generalize (X.num : Rat) = xn at *
    generalize (Y.num : Rat) = yn at *
    have e : p * q = X * Y := by
      have h1 : p * q * (pd * qd) = X * Y * (pd * qd) := by grind
      have h2 : pd * qd ≠ 0 := by grind
      grind
    rw [e]; grind
def lcN (p q : Rat) : Int := p.num * ((q.den : Int) / (Int.gcd p.den q.den : Int)) + q.num * ((p.den : Int) / (Int.gcd p.den q.den : Int))
def lcD (p q : Rat) : Int := (p.den : Int) / (Int.gcd p.den q.den : Int) * (q.den : Int)
theorem frq_add (p q : Rat) : 0 < lcD p q ∧ (p + q) * (lcD p q : Rat) = (lcN p q : Rat) := by
  have hp := p.den_nz
  have hq := q.den_nz
  have hg : (Int.gcd (p.den : Int) (q.den : Int) : Int) ≠ 0 := by
    intro h
    have := Int.gcd_eq_zero_iff.1 (show Int.gcd (p.den : Int) (q.den : Int) = 0 by omega)
    omega
  obtain ⟨a, ha⟩ : (Int.gcd (p.den : Int) (q.den : Int) : Int) ∣ (p.den : Int) := Int.gcd_dvd_left ..
  obtain ⟨b, hb⟩ : (Int.gcd (p.den : Int) (q.den : Int) : Int) ∣ (q.den : Int) := Int.gcd_dvd_right ..
  have e1 : (p.den : Int) / (Int.gcd (p.den : Int) (q.den : Int) : Int) = a := Int.ediv_eq_of_eq_mul_right hg ha
  have e2 : (q.den : Int) / (Int.gcd (p.den : Int) (q.den : Int) : Int) = b := Int.ediv_eq_of_eq_mul_right hg hb
  have vp := frq_val p
  have vq := frq_val q
  unfold lcD lcN
  rw [e1, e2]
  generalize hG : (Int.gcd (p.den : Int) (q.den : Int) : Int) = g at *
  have hgp : 0 < g := by omega
  constructor
  · have : 0 < a := Int.pos_of_mul_pos_right (a := g) (by omega) hgp
    exact Int.mul_pos this (by omega)
  · rw [ha] at vp
    rw [hb] at vq ⊢
    simp only [Rat.intCast_mul, Rat.intCast_add] at *
    rw [← vp, ← vq]; grind
theorem lcD_dvd (p q : Rat) {z : Int} (h1 : (p.den : Int) ∣ z) (h2 : (q.den : Int) ∣ z) : lcD p q ∣ z := by
  have hp := p.den_nz
  have hq := q.den_nz
  have hg : (Int.gcd (p.den : Int) (q.den : Int) : Int) ≠ 0 := by
    intro h
    have := Int.gcd_eq_zero_iff.1 (show Int.gcd (p.den : Int) (q.den : Int) = 0 by omega)
    omega
  have h3 : lcD p q = (Nat.lcm p.den q.den : Nat) := by
    unfold lcD
    have hgn : Int.gcd (p.den : Int) (q.den : Int) = Nat.gcd p.den q.den := rfl
    rw [hgn]
    obtain ⟨a, ha⟩ : Nat.gcd p.den q.den ∣ p.den := Nat.gcd_dvd_left ..
    have hgp : 0 < Nat.gcd p.den q.den := Nat.gcd_pos_of_pos_left _ (by omega)
    have hx : p.den / Nat.gcd p.den q.den = a := Nat.div_eq_of_eq_mul_right hgp ha
    have hl : Nat.lcm p.den q.den = a * q.den := by
      unfold Nat.lcm
      conv => lhs; lhs; rw [ha]
      rw [Nat.mul_assoc, Nat.mul_div_cancel_left _ hgp]
    rw [hl, show ((p.den : Int) / (Nat.gcd p.den q.den : Int)) = ((p.den / Nat.gcd p.den q.den : Nat) : Int) from rfl, hx]
    simp
  rw [h3]
  have h4 : Nat.lcm p.den q.den ∣ z.natAbs := Nat.lcm_dvd (by simpa using Int.natAbs_dvd_natAbs.2 h1) (by simpa using Int.natAbs_dvd_natAbs.2 h2)
  exact Int.natAbs_dvd_natAbs.1 (by simpa using h4)
theorem lcN_bound {p q : Rat} {a b P : Int} (hP : P ≠ 0) (h1 : (p.den : Int) ∣ b * P) (h2 : (q.den : Int) ∣ b * P) (hb : b ≠ 0) (h : (p + q) * (P : Rat) = (a : Rat)) : (lcN p q).natAbs ≤ a.natAbs * b.natAbs ∧ (lcD p q).natAbs ≤ b.natAbs * P.natAbs := by
  obtain ⟨h3, h4⟩ := frq_add p q
  have hd : (lcD p q).natAbs ≤ (b * P).natAbs := Nat.le_of_dvd (by rw [Int.natAbs_mul]; exact Nat.mul_pos (by omega) (by omega)) (Int.natAbs_dvd_natAbs.2 (lcD_dvd p q h1 h2))
  rw [Int.natAbs_mul] at hd
  refine ⟨?_, hd⟩
  have e : lcN p q * P = a * lcD p q := by
    apply cast_inj
    simp only [Rat.intCast_mul]
    rw [← h, ← h4]; grind
  have e2 : (lcN p q).natAbs * P.natAbs = a.natAbs * (lcD p q).natAbs := by rw [← Int.natAbs_mul, e, Int.natAbs_mul]
  have e3 : (lcN p q).natAbs * P.natAbs ≤ (a.natAbs * b.natAbs) * P.natAbs := by
    rw [e2, Nat.mul_assoc]; exact Nat.mul_le_mul_left _ hd
  exact Nat.le_of_mul_le_mul_right e3 (by omega)
theorem wrap_self {x : Int} (h : x.natAbs ≤ 9223372036854775807) : wrap64 x = x := by unfold wrap64; omega
theorem gcdE {n d : Int} (hn : n.natAbs ≤ 9223372036854775807) (hd : 0 ≤ d) : Ev (fun k => impl_gcd.f k n d) (Int.gcd n d : Int) :=
  gcdj_ev impl_gcd.l0 impl_gcd.j0 impl_gcd.f (fun _ _ _ => by simp only [impl_gcd.l0]) (fun _ _ _ => by simp only [impl_gcd.j0]) (fun _ _ _ => rfl) (by omega) hd
theorem fracJ {n d : Int} (hn : n.natAbs ≤ 9223372036854775807) (hd : 0 < d) (hd' : d.natAbs ≤ 9223372036854775807) : Ev (fun k => (impl_gcd.f k n d).bind fun t => (if t = 0 then (none) else (some (wrap64 (Int.tdiv n t), wrap64 (Int.tdiv d t))))) (lowest n d) := by
  have hg : (Int.gcd n d : Int) ≠ 0 := by have := gcd_pos (n := n) hd; omega
  obtain ⟨b1, b2, b3, b4⟩ := lowest_bound (n := n) (d := d) hd (B := 9223372036854775807) (by omega) (by omega) (by omega)
  refine (ev_bind (gcdE hn (by omega)) (ev_if_neg hg (ev_now fun _ => ?_)))
  rw [tdiv_gcd_left, tdiv_gcd_right]
  rw [wrap_in (x := n / (Int.gcd n d : Int)) (by unfold lowest at b1; omega) (by unfold lowest at b2; omega), wrap_in (x := d / (Int.gcd n d : Int)) (by unfold lowest at b3; omega) (by unfold lowest at b4; omega)]
  rfl
theorem fracE {n d : Int} (hn : n.natAbs ≤ 9223372036854775807) (hd : d ≠ 0) (hd' : d.natAbs ≤ 9223372036854775807) : Ev (fun k => impl_fraction.f k n d) (if d < 0 then lowest (-n) (-d) else lowest n d) := by
  unfold impl_fraction.f
  by_cases h : d < 0
  · rw [if_pos h]
    refine ev_if_pos h ?_
    rw [wrap_self (x := -n) (by omega), wrap_self (x := -d) (by omega)]
    exact fracJ (by omega) (by omega) (by omega)
  · rw [if_neg h]
    exact ev_if_neg h (fracJ hn (by omega) hd')
theorem fracQ {q : Rat} {n d : Int} (h : q * (d : Rat) = (n : Rat)) (hn : n.natAbs ≤ 9223372036854775807) (hd : d ≠ 0) (hd' : d.natAbs ≤ 9223372036854775807) : Ev (fun k => impl_fraction.f k n d) (frq q) := by
  refine ev_eq (fracE hn hd hd') ?_
  split
  · rename_i h0
    rw [frq_lowest (q := q) (a := -n) (b := -d) (by omega) (by simp only [Rat.intCast_neg]; grind)]
    rfl
  · rw [frq_lowest (q := q) (a := n) (b := d) (by omega) h]
    rfl
theorem adE {p q : Rat} (h1 : p.num.natAbs ≤ 9223372036854775807) (h2 : p.den ≤ 9223372036854775807) (h3 : q.num.natAbs ≤ 9223372036854775807) (h4 : q.den ≤ 9223372036854775807) (h5 : (lcN p q).natAbs ≤ 9223372036854775807) (h6 : (lcD p q).natAbs ≤ 9223372036854775807) : Ev (fun k => impl_addFractions.f k (frq p).1 (frq p).2 (frq q).1 (frq q).2) (frq (p + q)) := by
  have hp := p.den_nz
  have hq := q.den_nz
  obtain ⟨hd, hv⟩ := frq_add p q
  refine ev_bind (gcdE (n := (p.den : Int)) (d := (q.den : Int)) (by simpa using h2) (by omega)) ?_
  have hg : (Int.gcd (p.den : Int) (q.den : Int) : Int) ≠ 0 := by
    intro h
    have := Int.gcd_eq_zero_iff.1 (show Int.gcd (p.den : Int) (q.den : Int) = 0 by omega)
    omega
  have e1 : Int.tdiv (q.den : Int) (Int.gcd (p.den : Int) (q.den : Int) : Int) = (q.den : Int) / (Int.gcd (p.den : Int) (q.den : Int) : Int) := Int.tdiv_eq_ediv_of_nonneg (by omega)
  have e2 : Int.tdiv (p.den : Int) (Int.gcd (p.den : Int) (q.den : Int) : Int) = (p.den : Int) / (Int.gcd (p.den : Int) (q.den : Int) : Int) := Int.tdiv_eq_ediv_of_nonneg (by omega)
  have b1 : (q.den : Int) / (Int.gcd (p.den : Int) (q.den : Int) : Int) ≤ (q.den : Int) := Int.ediv_le_self _ (by omega)
  have b2 : (p.den : Int) / (Int.gcd (p.den : Int) (q.den : Int) : Int) ≤ (p.den : Int) := Int.ediv_le_self _ (by omega)
  have b3 : 0 ≤ (q.den : Int) / (Int.gcd (p.den : Int) (q.den : Int) : Int) := Int.ediv_nonneg (by omega) (by omega)
  have b4 : 0 ≤ (p.den : Int) / (Int.gcd (p.den : Int) (q.den : Int) : Int) := Int.ediv_nonneg (by omega) (by omega)
  refine ev_if_neg hg ?_
  show Ev (fun k => (impl_fraction.f k (wrap64 (wrap64 (p.num * wrap64 (Int.tdiv (q.den : Int) (Int.gcd (p.den : Int) (q.den : Int) : Int))) + wrap64 (q.num * wrap64 (Int.tdiv (p.den : Int) (Int.gcd (p.den : Int) (q.den : Int) : Int))))) (wrap64 (wrap64 (Int.tdiv (p.den : Int) (Int.gcd (p.den : Int) (q.den : Int) : Int)) * (q.den : Int)))).bind fun bt => some (bt.1, bt.2)) _
  rw [e1, e2, wrap_self (x := (q.den : Int) / _) (by omega), wrap_self (x := (p.den : Int) / _) (by omega)]
  have e3 : wrap64 (wrap64 (p.num * ((q.den : Int) / (Int.gcd (p.den : Int) (q.den : Int) : Int))) + wrap64 (q.num * ((p.den : Int) / (Int.gcd (p.den : Int) (q.den : Int) : Int)))) = lcN p q := by
    have : lcN p q = p.num * ((q.den : Int) / (Int.gcd (p.den : Int) (q.den : Int) : Int)) + q.num * ((p.den : Int) / (Int.gcd (p.den : Int) (q.den : Int) : Int)) := rfl
    rw [this] at h5 ⊢
    generalize p.num * ((q.den : Int) / (Int.gcd (p.den : Int) (q.den : Int) : Int)) = u at *
    generalize q.num * ((p.den : Int) / (Int.gcd (p.den : Int) (q.den : Int) : Int)) = v at *
    unfold wrap64; omega
  have e4 : wrap64 ((p.den : Int) / (Int.gcd (p.den : Int) (q.den : Int) : Int) * (q.den : Int)) = lcD p q := by
    rw [show (p.den : Int) / (Int.gcd (p.den : Int) (q.den : Int) : Int) * (q.den : Int) = lcD p q from rfl]
    exact wrap_self h6
  rw [e3, e4]
  refine ev_bind (f := fun _ (bt : Int × Int) => some (bt.1, bt.2)) (fracQ hv h5 (Int.ne_of_gt hd) h6) (ev_now fun _ => ?_)
  rfl
theorem sgcdE {n d : Int} (hn : n.natAbs ≤ 9223372036854775807) (h0 : 0 ≤ n) (hd : 0 ≤ d) : Ev (fun k => spec_l00Gcd.f k n d) (Int.gcd n d : Int) :=
  gcd_ev spec_l00Gcd.l0 (fun _ _ _ => rfl) n d h0 hd
theorem makeQ {q : Rat} {n d : Int} (h : q * (d : Rat) = (n : Rat)) (hn : n.natAbs ≤ 9223372036854775807) (hd : 0 < d) (hd' : d.natAbs ≤ 9223372036854775807) : Ev (fun k => spec_l01Make.f k n d) (frq q) := by
  refine ev_eq (make_ev spec_l00Gcd.l0 (fun _ _ _ => rfl) spec_l01Make.f (fun _ _ _ => rfl) (n := n) (d := d) (by omega) (by omega) hd (by omega)) ?_
  rw [frq_lowest hd h]
  rfl
theorem sumE {p q : Rat} (h1 : p.num.natAbs ≤ 9223372036854775807) (h2 : p.den ≤ 9223372036854775807) (h3 : q.num.natAbs ≤ 9223372036854775807) (h4 : q.den ≤ 9223372036854775807) (h5 : (lcN p q).natAbs ≤ 9223372036854775807) (h6 : (lcD p q).natAbs ≤ 9223372036854775807) : Ev (fun k => spec_l13Sum.f k (frq p).1 (frq p).2 (frq q).1 (frq q).2) (frq (p + q)) := by
  have hp := p.den_nz
  have hq := q.den_nz
  obtain ⟨hd, hv⟩ := frq_add p q
  refine ev_bind (sgcdE (n := (p.den : Int)) (d := (q.den : Int)) (by simpa using h2) (by omega) (by omega)) ?_
  have hg : (Int.gcd (p.den : Int) (q.den : Int) : Int) ≠ 0 := by
    intro h
    have := Int.gcd_eq_zero_iff.1 (show Int.gcd (p.den : Int) (q.den : Int) = 0 by omega)
    omega
  have e1 : Int.tdiv (q.den : Int) (Int.gcd (p.den : Int) (q.den : Int) : Int) = (q.den : Int) / (Int.gcd (p.den : Int) (q.den : Int) : Int) := Int.tdiv_eq_ediv_of_nonneg (by omega)
  have e2 : Int.tdiv (p.den : Int) (Int.gcd (p.den : Int) (q.den : Int) : Int) = (p.den : Int) / (Int.gcd (p.den : Int) (q.den : Int) : Int) := Int.tdiv_eq_ediv_of_nonneg (by omega)
  have b1 : (q.den : Int) / (Int.gcd (p.den : Int) (q.den : Int) : Int) ≤ (q.den : Int) := Int.ediv_le_self _ (by omega)
  have b2 : (p.den : Int) / (Int.gcd (p.den : Int) (q.den : Int) : Int) ≤ (p.den : Int) := Int.ediv_le_self _ (by omega)
  have b3 : 0 ≤ (q.den : Int) / (Int.gcd (p.den : Int) (q.den : Int) : Int) := Int.ediv_nonneg (by omega) (by omega)
  have b4 : 0 ≤ (p.den : Int) / (Int.gcd (p.den : Int) (q.den : Int) : Int) := Int.ediv_nonneg (by omega) (by omega)
  refine ev_if_neg hg ?_
  show Ev (fun k => (spec_l01Make.f k (wrap64 (wrap64 (p.num * wrap64 (Int.tdiv (q.den : Int) (Int.gcd (p.den : Int) (q.den : Int) : Int))) + wrap64 (q.num * wrap64 (Int.tdiv (p.den : Int) (Int.gcd (p.den : Int) (q.den : Int) : Int))))) (wrap64 (wrap64 (Int.tdiv (p.den : Int) (Int.gcd (p.den : Int) (q.den : Int) : Int)) * (q.den : Int)))).bind fun bt => some (bt.1, bt.2)) _
  rw [e1, e2, wrap_self (x := (q.den : Int) / _) (by omega), wrap_self (x := (p.den : Int) / _) (by omega)]
  have e3 : wrap64 (wrap64 (p.num * ((q.den : Int) / (Int.gcd (p.den : Int) (q.den : Int) : Int))) + wrap64 (q.num * ((p.den : Int) / (Int.gcd (p.den : Int) (q.den : Int) : Int)))) = lcN p q := by
    have : lcN p q = p.num * ((q.den : Int) / (Int.gcd (p.den : Int) (q.den : Int) : Int)) + q.num * ((p.den : Int) / (Int.gcd (p.den : Int) (q.den : Int) : Int)) := rfl
    rw [this] at h5 ⊢
    generalize p.num * ((q.den : Int) / (Int.gcd (p.den : Int) (q.den : Int) : Int)) = u at *
    generalize q.num * ((p.den : Int) / (Int.gcd (p.den : Int) (q.den : Int) : Int)) = v at *
    unfold wrap64; omega
  have e4 : wrap64 ((p.den : Int) / (Int.gcd (p.den : Int) (q.den : Int) : Int) * (q.den : Int)) = lcD p q := by
    rw [show (p.den : Int) / (Int.gcd (p.den : Int) (q.den : Int) : Int) * (q.den : Int) = lcD p q from rfl]
    exact wrap_self h6
  rw [e3, e4]
  refine ev_bind (f := fun _ (bt : Int × Int) => some (bt.1, bt.2)) (makeQ hv h5 hd h6) (ev_now fun _ => ?_)
  rfl
theorem ev_succ {α : Type} {g : Nat → Option α} {r : α} (h : Ev (fun k => g (k + 1)) r) : Ev g r := ev_step (f := fun k => g (k + 1)) (fun _ => rfl) h
/-! ### fractions compared -/
theorem u64w {x : Int} (h0 : 0 ≤ x) (h1 : x < 18446744073709551616) : IntKind.u64.wrap x = x := by
  show (if (false && decide (x % 2 ^ 64 ≥ 2 ^ 63)) = true then x % 2 ^ 64 - 2 ^ 64 else x % 2 ^ 64) = x
  simp only [Bool.false_and, Bool.false_eq_true, if_false]
  omega
theorem and_low {a : Int} (h0 : 0 ≤ a) (h1 : a < 4294967296) : Go.bits .and .u64 a 4294967295 = a := by
  obtain ⟨n, rfl⟩ : ∃ n : Nat, a = (n : Int) := ⟨a.toNat, by omega⟩
  have e1 : (BitVec.ofInt 64 (n : Int)).toNat = n := by rw [BitVec.ofInt_natCast, BitVec.toNat_ofNat]; exact Nat.mod_eq_of_lt (by omega)
  show IntKind.u64.wrap ((((BitVec.ofInt 64 (n : Int)) &&& (BitVec.ofInt 64 (4294967295 : Int))).toNat : Nat) : Int) = (n : Int)
  rw [BitVec.toNat_and, e1, show (BitVec.ofInt 64 (4294967295 : Int)).toNat = 2 ^ 32 - 1 from by decide, Nat.and_two_pow_sub_one_eq_mod, Nat.mod_eq_of_lt (by omega)]
  exact u64w (by omega) (by omega)
theorem mul_lt64 {a b : Int} (h0 : 0 ≤ a) (h1 : a < 4294967296) (h2 : 0 ≤ b) (h3 : b < 4294967296) : 0 ≤ a * b ∧ a * b < 18446744073709551616 := by
  refine ⟨Int.mul_nonneg h0 h2, ?_⟩
  have : a * b ≤ 4294967295 * 4294967295 := Int.mul_le_mul (by omega) (by omega) h2 (by omega)
  omega
theorem mulE {a b : Int} (h0 : 0 ≤ a) (h1 : a < 4294967296) (h2 : 0 ≤ b) (h3 : b < 4294967296) : bits_Mul64.f a b = some (0, a * b) := by
  obtain ⟨m1, m2⟩ := mul_lt64 h0 h1 h2 h3
  have ea : a / 4294967296 = 0 := by omega
  have eb : b / 4294967296 = 0 := by omega
  have em : a * b / 4294967296 < 4294967296 := by omega
  have em0 : 0 ≤ a * b / 4294967296 := by omega
  unfold bits_Mul64.f
  rw [and_low h0 h1, and_low h2 h3, ea, eb]
  simp only [Int.zero_mul, Int.mul_zero, Int.zero_add, Int.add_zero]
  rw [u64w m1 m2, show IntKind.u64.wrap 0 = 0 from by decide]
  simp only [Int.zero_add, Int.add_zero]
  rw [u64w em0 (by omega), and_low em0 em, u64w em0 (by omega)]
  rw [show a * b / 4294967296 / 4294967296 = 0 from by omega]
  rfl
def sgn3 (n : Int) : Int := if n > 0 then 1 else if n < 0 then -1 else 0
theorem signE (n : Int) : impl_sign.f n = some (sgn3 n) := by
  unfold impl_sign.f sgn3
  split
  · rfl
  · split <;> rfl
def cmp3 (a b : Int) : Int := if a < b then -1 else if a > b then 1 else 0
theorem cmpI64 (a b : Int) : cmp_Compare_int64.f a b = some (cmp3 a b) := by
  unfold cmp_Compare_int64.f cmp_isNaN_int64.f cmp3
  simp only [bne_self_eq_false, Option.bind_some, Bool.false_eq_true, if_false]
  split
  · rfl
  · split <;> rfl
theorem cmpU64 (a b : Int) : cmp_Compare_uint64.f a b = some (cmp3 a b) := by
  unfold cmp_Compare_uint64.f cmp_isNaN_uint64.f cmp3
  simp only [bne_self_eq_false, Option.bind_some, Bool.false_eq_true, if_false]
  split
  · rfl
  · split <;> rfl
theorem orE (x y : Int) : Ev (fun k => cmp_Or_int.f k [x, y]) (if x = 0 then y else x) := by
  unfold cmp_Or_int.f
  refine ev_succ ?_
  simp only [cmp_Or_int.l0]
  have r0 : rd [x, y] 0 = x := rfl
  have r1 : rd [x, y] 1 = y := rfl
  have w0 : wrap64 ((0 : Int) + 1) = 1 := by unfold wrap64; omega
  have w1 : wrap64 ((1 : Int) + 1) = 2 := by unfold wrap64; omega
  rw [w0, r0]
  refine ev_if_pos (by simp) (ev_if_pos (by omega) (ev_if_pos (by simp) ?_))
  by_cases hx : x = 0
  · rw [if_pos hx]
    refine ev_if_pos hx (ev_succ ?_)
    simp only [cmp_Or_int.l0]
    rw [w1, r1]
    refine ev_if_pos (by simp) (ev_if_pos (by omega) (ev_if_pos (by simp) ?_))
    by_cases hy : y = 0
    · refine ev_if_pos hy (ev_succ ?_)
      simp only [cmp_Or_int.l0]
      rw [hy]
      exact ev_if_neg (by simp) (ev_now fun _ => rfl)
    · exact ev_if_neg hy (ev_now fun _ => rfl)
  · rw [if_neg hx]
    exact ev_if_neg hx (ev_now fun _ => rfl)
theorem sizeE {n : Int} (h : n.natAbs ≤ 1000000000) : impl_size.f n = some (n.natAbs : Int) := by
  unfold impl_size.f
  by_cases h0 : n < 0
  · rw [if_pos h0, wrap_in (by omega) (by omega), u64w (by omega) (by omega)]
    congr 1; omega
  · rw [if_neg h0, u64w (by omega) (by omega)]
    congr 1; omega
theorem prodE {a b c d : Int} (a0 : 0 ≤ a) (a1 : a < 4294967296) (b0 : 0 ≤ b) (b1 : b < 4294967296) (c0 : 0 ≤ c) (c1 : c < 4294967296) (d0 : 0 ≤ d) (d1 : d < 4294967296) : Ev (fun k => impl_compareProducts.f k a b c d) (cmp3 (a * b) (c * d)) := by
  unfold impl_compareProducts.f
  rw [mulE a0 a1 b0 b1, mulE c0 c1 d0 d1]
  simp only [Option.bind_some, cmpU64]
  refine ev_bind (orE _ _) (ev_now fun _ => ?_)
  rw [if_pos (show cmp3 0 0 = 0 from rfl)]
theorem cmpFr {n1 d1 n2 d2 : Int} (a1 : n1.natAbs ≤ 8000000) (b1 : 0 < d1) (c1 : d1 ≤ 8000000) (a2 : n2.natAbs ≤ 8000000) (b2 : 0 < d2) (c2 : d2 ≤ 8000000) :
    ∃ c, Ev (fun k => impl_compareFractions.f k n1 d1 n2 d2) c ∧ (c < 0 ↔ n1 * d2 < n2 * d1) ∧ (c > 0 ↔ n1 * d2 > n2 * d1) := by
  have hp := prodE (a := (n1.natAbs : Int)) (b := (d2.natAbs : Int)) (c := (n2.natAbs : Int)) (d := (d1.natAbs : Int)) (by omega) (by omega) (by omega) (by omega) (by omega) (by omega) (by omega) (by omega)
  refine ⟨if cmp3 (sgn3 n1) (sgn3 n2) = 0 then wrap64 (sgn3 n1 * cmp3 ((n1.natAbs : Int) * (d2.natAbs : Int)) ((n2.natAbs : Int) * (d1.natAbs : Int))) else cmp3 (sgn3 n1) (sgn3 n2), ?_, ?_⟩
  · unfold impl_compareFractions.f
    rw [signE, signE, sizeE (n := n1) (by omega), sizeE (n := d2) (by omega), sizeE (n := n2) (by omega), sizeE (n := d1) (by omega)]
    simp only [Option.bind_some, cmpI64]
    exact ev_bind hp (ev_bind (orE _ _) (ev_now fun _ => rfl))
  · have e1 : (d1.natAbs : Int) = d1 := by omega
    have e2 : (d2.natAbs : Int) = d2 := by omega
    rw [e1, e2]
    have s1 : (0 < n1 → 0 < n1 * d2) ∧ (n1 < 0 → n1 * d2 < 0) ∧ (n1 = 0 → n1 * d2 = 0) := ⟨fun h => Int.mul_pos h b2, fun h => Int.mul_neg_of_neg_of_pos h b2, fun h => by rw [h]; simp⟩
    have s2 : (0 < n2 → 0 < n2 * d1) ∧ (n2 < 0 → n2 * d1 < 0) ∧ (n2 = 0 → n2 * d1 = 0) := ⟨fun h => Int.mul_pos h b1, fun h => Int.mul_neg_of_neg_of_pos h b1, fun h => by rw [h]; simp⟩
    have t1 : (n1.natAbs : Int) * d2 = if n1 < 0 then -(n1 * d2) else n1 * d2 := by
      split
      · rw [show (n1.natAbs : Int) = -n1 from by omega, Int.neg_mul]
      · rw [show (n1.natAbs : Int) = n1 from by omega]
    have t2 : (n2.natAbs : Int) * d1 = if n2 < 0 then -(n2 * d1) else n2 * d1 := by
      split
      · rw [show (n2.natAbs : Int) = -n2 from by omega, Int.neg_mul]
      · rw [show (n2.natAbs : Int) = n2 from by omega]
    rw [t1, t2]
    generalize n1 * d2 = P at *
    generalize n2 * d1 = Q at *
    have w : ∀ x y : Int, wrap64 (1 * cmp3 x y) = cmp3 x y ∧ wrap64 (-1 * cmp3 x y) = -cmp3 x y ∧ wrap64 (0 * cmp3 x y) = 0 := fun x y => by
      unfold cmp3
      split
      · refine ⟨?_, ?_, ?_⟩ <;> (unfold wrap64; omega)
      · split
        · refine ⟨?_, ?_, ?_⟩ <;> (unfold wrap64; omega)
        · refine ⟨?_, ?_, ?_⟩ <;> (unfold wrap64; omega)
    rcases Int.lt_trichotomy n1 0 with h1 | h1 | h1
    · rw [show sgn3 n1 = -1 from by unfold sgn3; rw [if_neg (by omega), if_pos h1], if_pos h1]
      rcases Int.lt_trichotomy n2 0 with h2 | h2 | h2
      · rw [show sgn3 n2 = -1 from by unfold sgn3; rw [if_neg (by omega), if_pos h2], if_pos h2, if_pos (show cmp3 (-1) (-1) = 0 from rfl), (w _ _).2.1]
        unfold cmp3
        split
        · omega
        · split <;> omega
      · rw [show sgn3 n2 = 0 from by unfold sgn3; rw [if_neg (by omega), if_neg (by omega)], if_neg (show ¬ cmp3 (-1) 0 = 0 from by decide), show cmp3 (-1) 0 = -1 from rfl]
        have := s1.2.1 h1
        have := s2.2.2 h2
        omega
      · rw [show sgn3 n2 = 1 from by unfold sgn3; rw [if_pos h2], if_neg (show ¬ cmp3 (-1) 1 = 0 from by decide), show cmp3 (-1) 1 = -1 from rfl]
        have := s1.2.1 h1
        have := s2.1 h2
        omega
    · rw [show sgn3 n1 = 0 from by unfold sgn3; rw [if_neg (by omega), if_neg (by omega)]]
      rcases Int.lt_trichotomy n2 0 with h2 | h2 | h2
      · rw [show sgn3 n2 = -1 from by unfold sgn3; rw [if_neg (by omega), if_pos h2], if_neg (show ¬ cmp3 0 (-1) = 0 from by decide), show cmp3 0 (-1) = 1 from rfl]
        have := s1.2.2 h1
        have := s2.2.1 h2
        omega
      · rw [show sgn3 n2 = 0 from by unfold sgn3; rw [if_neg (by omega), if_neg (by omega)], if_pos (show cmp3 0 0 = 0 from rfl), (w _ _).2.2]
        have := s1.2.2 h1
        have := s2.2.2 h2
        omega
      · rw [show sgn3 n2 = 1 from by unfold sgn3; rw [if_pos h2], if_neg (show ¬ cmp3 0 1 = 0 from by decide), show cmp3 0 1 = -1 from rfl]
        have := s1.2.2 h1
        have := s2.1 h2
        omega
    · rw [show sgn3 n1 = 1 from by unfold sgn3; rw [if_pos h1], if_neg (show ¬ n1 < 0 from by omega)]
      rcases Int.lt_trichotomy n2 0 with h2 | h2 | h2
      · rw [show sgn3 n2 = -1 from by unfold sgn3; rw [if_neg (by omega), if_pos h2], if_neg (show ¬ cmp3 1 (-1) = 0 from by decide), show cmp3 1 (-1) = 1 from rfl]
        have := s1.1 h1
        have := s2.2.1 h2
        omega
      · rw [show sgn3 n2 = 0 from by unfold sgn3; rw [if_neg (by omega), if_neg (by omega)], if_neg (show ¬ cmp3 1 0 = 0 from by decide), show cmp3 1 0 = 1 from rfl]
        have := s1.1 h1
        have := s2.2.2 h2
        omega
      · rw [show sgn3 n2 = 1 from by unfold sgn3; rw [if_pos h2], if_neg (show ¬ n2 < 0 from by omega), if_pos (show cmp3 1 1 = 0 from rfl), (w _ _).1]
        unfold cmp3
        split
        · omega
        · split <;> omega
/-! ### least and greatest of a list of fractions -/
def fS (q : Rat) : S25 := ⟨q.num, (q.den : Int)⟩
def sm (q : Rat) : Prop := q.num.natAbs ≤ 8000000 ∧ q.den ≤ 2000
def mnI (L : List Rat) : Nat → Rat
  | 0 => L.getD 0 0
  | i + 1 => if L.getD i 0 < mnI L i then L.getD i 0 else mnI L i
def mxI (L : List Rat) : Nat → Rat
  | 0 => L.getD 0 0
  | i + 1 => if mxI L i < L.getD i 0 then L.getD i 0 else mxI L i
theorem mnI_one (L : List Rat) : mnI L 1 = L.getD 0 0 := by
  show (if L.getD 0 0 < L.getD 0 0 then L.getD 0 0 else L.getD 0 0) = _
  split <;> rfl
theorem mxI_one (L : List Rat) : mxI L 1 = L.getD 0 0 := by
  show (if L.getD 0 0 < L.getD 0 0 then L.getD 0 0 else L.getD 0 0) = _
  split <;> rfl
theorem mnI_mem (L : List Rat) : ∀ i, 1 ≤ i → ∃ j, j < i ∧ mnI L i = L.getD j 0
  | 0, h => by omega
  | 1, _ => ⟨0, by omega, mnI_one L⟩
  | i + 2, _ => by
    obtain ⟨j, h1, h2⟩ := mnI_mem L (i + 1) (by omega)
    unfold mnI
    split
    · exact ⟨i + 1, by omega, rfl⟩
    · exact ⟨j, by omega, h2⟩
theorem mxI_mem (L : List Rat) : ∀ i, 1 ≤ i → ∃ j, j < i ∧ mxI L i = L.getD j 0
  | 0, h => by omega
  | 1, _ => ⟨0, by omega, mxI_one L⟩
  | i + 2, _ => by
    obtain ⟨j, h1, h2⟩ := mxI_mem L (i + 1) (by omega)
    unfold mxI
    split
    · exact ⟨i + 1, by omega, rfl⟩
    · exact ⟨j, by omega, h2⟩
theorem mnI_le (L : List Rat) : ∀ i j, j < i → mnI L i ≤ L.getD j 0
  | 0, j, h => by omega
  | i + 1, j, h => by
    have ih := mnI_le L i j
    unfold mnI
    rcases Nat.lt_or_ge j i with h1 | h1
    · have := ih h1
      split
      · rename_i h2; exact Rat.le_trans (Rat.le_of_lt h2) this
      · exact this
    · obtain rfl : j = i := by omega
      split
      · exact Rat.le_refl
      · rename_i h2; exact Rat.not_lt.1 h2
theorem mxI_le (L : List Rat) : ∀ i j, j < i → L.getD j 0 ≤ mxI L i
  | 0, j, h => by omega
  | i + 1, j, h => by
    have ih := mxI_le L i j
    unfold mxI
    rcases Nat.lt_or_ge j i with h1 | h1
    · have := ih h1
      split
      · rename_i h2; exact Rat.le_trans this (Rat.le_of_lt h2)
      · exact this
    · obtain rfl : j = i := by omega
      split
      · exact Rat.le_refl
      · rename_i h2; exact Rat.not_lt.1 h2
theorem rdS {L : List Rat} {i : Nat} (h : i < L.length) : rd_T25 (L.map fS) (i : Int) = fS (L.getD i 0) := by
  show (L.map fS).getD (Int.toNat (i : Int)) z25 = _
  rw [Int.toNat_natCast, List.getD_eq_getElem?_getD, List.getElem?_map, List.getD_eq_getElem?_getD, List.getElem?_eq_getElem h]
  rfl
theorem getD_of {L : List Rat} (P : Rat → Prop) (hL : ∀ q ∈ L, P q) {i : Nat} (h : i < L.length) : P (L.getD i 0) := by
  rw [List.getD_eq_getElem?_getD, List.getElem?_eq_getElem h]
  exact hL _ (List.getElem_mem h)
theorem cmpQ {p q : Rat} (hp : sm p) (hq : sm q) : ∃ c, Ev (fun k => impl_compareFractions.f k p.num (p.den : Int) q.num (q.den : Int)) c ∧ (c < 0 ↔ p < q) ∧ (c > 0 ↔ q < p) := by
  have h1 := p.den_nz
  have h2 := q.den_nz
  obtain ⟨c, c1, c2, c3⟩ := cmpFr (n1 := p.num) (d1 := (p.den : Int)) (n2 := q.num) (d2 := (q.den : Int)) hp.1 (by omega) (by have := hp.2; omega) hq.1 (by omega) (by have := hq.2; omega)
  exact ⟨c, c1, by rw [c2, Rat.lt_iff], by rw [c3, Rat.lt_iff]⟩
theorem minE (L : List Rat) (h0 : 0 < L.length) (h1 : L.length ≤ 1000000) (hs : ∀ q ∈ L, sm q) : Ev (fun k => impl_Fraction_61.f k (L.map fS)) (frq (mnI L L.length)) := by
  unfold impl_Fraction_61.f
  rw [List.length_map]
  refine ev_if_neg (by omega) (ev_if_pos (by omega) ?_)
  have r0 : rd_T25 (L.map fS) 0 = fS (mnI L 1) := by rw [mnI_one]; exact rdS h0
  rw [r0]
  refine loop_up' (fun k i => impl_Fraction_61.l0 k (L.map fS) (i : Int) (mnI L i).num ((mnI L i).den : Int)) L.length _ (fun i => 1 ≤ i) (fun i hi hI => .inl ⟨by omega, fun hn => ?_⟩) (fun _ => ?_) _ 1 rfl (by omega) (by omega)
  · have hx := getD_of sm hs hi
    obtain ⟨j, j1, j2⟩ := mnI_mem L i hI
    have hm : sm (mnI L i) := by rw [j2]; exact getD_of sm hs (by omega)
    obtain ⟨c, c1, c2, _⟩ := cmpQ hx hm
    refine ev_succ ?_
    simp only [impl_Fraction_61.l0]
    rw [List.length_map, rdS hi, succ_cast i (by omega)]
    refine ev_if_pos (by omega) (ev_if_pos (by omega) (ev_bind c1 ?_))
    have e : mnI L (i + 1) = if L.getD i 0 < mnI L i then L.getD i 0 else mnI L i := rfl
    rw [e] at hn
    by_cases h : L.getD i 0 < mnI L i
    · rw [if_pos h] at hn
      exact ev_if_pos (c2.2 h) hn
    · rw [if_neg h] at hn
      exact ev_if_neg (fun h' => h (c2.1 h')) hn
  · refine ev_succ ?_
    simp only [impl_Fraction_61.l0]
    rw [List.length_map]
    exact ev_if_neg (by omega) (ev_now fun _ => rfl)
theorem maxE (L : List Rat) (h0 : 0 < L.length) (h1 : L.length ≤ 1000000) (hs : ∀ q ∈ L, sm q) : Ev (fun k => impl_Fraction_63.f k (L.map fS)) (frq (mxI L L.length)) := by
  unfold impl_Fraction_63.f
  rw [List.length_map]
  refine ev_if_neg (by omega) (ev_if_pos (by omega) ?_)
  have r0 : rd_T25 (L.map fS) 0 = fS (mxI L 1) := by rw [mxI_one]; exact rdS h0
  rw [r0]
  refine loop_up' (fun k i => impl_Fraction_63.l0 k (L.map fS) (i : Int) (mxI L i).num ((mxI L i).den : Int)) L.length _ (fun i => 1 ≤ i) (fun i hi hI => .inl ⟨by omega, fun hn => ?_⟩) (fun _ => ?_) _ 1 rfl (by omega) (by omega)
  · have hx := getD_of sm hs hi
    obtain ⟨j, j1, j2⟩ := mxI_mem L i hI
    have hm : sm (mxI L i) := by rw [j2]; exact getD_of sm hs (by omega)
    obtain ⟨c, c1, _, c2⟩ := cmpQ hx hm
    refine ev_succ ?_
    simp only [impl_Fraction_63.l0]
    rw [List.length_map, rdS hi, succ_cast i (by omega)]
    refine ev_if_pos (by omega) (ev_if_pos (by omega) (ev_bind c1 ?_))
    have e : mxI L (i + 1) = if mxI L i < L.getD i 0 then L.getD i 0 else mxI L i := rfl
    rw [e] at hn
    by_cases h : mxI L i < L.getD i 0
    · rw [if_pos h] at hn
      exact ev_if_pos (c2.2 h) hn
    · rw [if_neg h] at hn
      exact ev_if_neg (fun h' => h (c2.1 h')) hn
  · refine ev_succ ?_
    simp only [impl_Fraction_63.l0]
    rw [List.length_map]
    exact ev_if_neg (by omega) (ev_now fun _ => rfl)
theorem specIn (n a b : Int) : spec_l00In.f n a b = some (decide (a ≤ n ∧ n ≤ b)) := by
  unfold spec_l00In.f
  by_cases h1 : n ≥ a <;> by_cases h2 : n ≤ b <;> simp [h1, h2] <;> omega
theorem implIn (n a b : Int) : impl_within.f n a b = some (decide (a ≤ n ∧ n ≤ b)) := by
  unfold impl_within.f
  by_cases h1 : n ≥ a <;> by_cases h2 : n ≤ b <;> simp [h1, h2] <;> omega
/-! ### corners: the geometry -/
def crs (ax ay bx by_ cx cy : Int) : Int := (bx - ax) * (cy - ay) - (by_ - ay) * (cx - ax)
def inb (x : Int) : Prop := 0 ≤ x ∧ x ≤ 2000
theorem crs_bound {ax ay bx by_ cx cy : Int} (h1 : inb ax) (h2 : inb ay) (h3 : inb bx) (h4 : inb by_) (h5 : inb cx) (h6 : inb cy) : -8000000 ≤ crs ax ay bx by_ cx cy ∧ crs ax ay bx by_ cx cy ≤ 8000000 := by
  unfold inb at *
  have m1 := mul_bound (a := bx - ax) (b := cy - ay) (A := 2000) (B := 2000) (by omega) (by omega) (by omega) (by omega)
  have m2 := mul_bound (a := by_ - ay) (b := cx - ax) (A := 2000) (B := 2000) (by omega) (by omega) (by omega) (by omega)
  unfold crs
  omega
theorem specCross {ax ay bx by_ cx cy : Int} (h1 : inb ax) (h2 : inb ay) (h3 : inb bx) (h4 : inb by_) (h5 : inb cx) (h6 : inb cy) : spec_l13Cross.f ax ay bx by_ cx cy = some (crs ax ay bx by_ cx cy) := by
  have hb := crs_bound h1 h2 h3 h4 h5 h6
  unfold inb at *
  have m1 := mul_bound (a := bx - ax) (b := cy - ay) (A := 2000) (B := 2000) (by omega) (by omega) (by omega) (by omega)
  have m2 := mul_bound (a := by_ - ay) (b := cx - ax) (A := 2000) (B := 2000) (by omega) (by omega) (by omega) (by omega)
  unfold spec_l13Cross.f
  unfold crs at *
  rw [wrap_in (x := bx - ax) (by omega) (by omega), wrap_in (x := cy - ay) (by omega) (by omega), wrap_in (x := by_ - ay) (by omega) (by omega), wrap_in (x := cx - ax) (by omega) (by omega),
    wrap_in (x := (bx - ax) * (cy - ay)) (by omega) (by omega), wrap_in (x := (by_ - ay) * (cx - ax)) (by omega) (by omega), wrap_in (by omega) (by omega)]
theorem implTurn {ax ay bx by_ cx cy : Int} (h1 : inb ax) (h2 : inb ay) (h3 : inb bx) (h4 : inb by_) (h5 : inb cx) (h6 : inb cy) : impl_turnAt.f ax ay bx by_ cx cy = some (crs ax ay bx by_ cx cy) := by
  have hb := crs_bound h1 h2 h3 h4 h5 h6
  unfold inb at *
  have m1 := mul_bound (a := bx - ax) (b := cy - by_) (A := 2000) (B := 2000) (by omega) (by omega) (by omega) (by omega)
  have m2 := mul_bound (a := by_ - ay) (b := cx - bx) (A := 2000) (B := 2000) (by omega) (by omega) (by omega) (by omega)
  have e : (bx - ax) * (cy - by_) - (by_ - ay) * (cx - bx) = crs ax ay bx by_ cx cy := by unfold crs; grind
  unfold impl_turnAt.f
  rw [wrap_in (x := bx - ax) (by omega) (by omega), wrap_in (x := cy - by_) (by omega) (by omega), wrap_in (x := by_ - ay) (by omega) (by omega), wrap_in (x := cx - bx) (by omega) (by omega),
    wrap_in (x := (bx - ax) * (cy - by_)) (by omega) (by omega), wrap_in (x := (by_ - ay) * (cx - bx)) (by omega) (by omega), wrap_in (by omega) (by omega), e]
def btw (ax ay bx by_ cx cy : Int) : Bool := decide ((min ax bx ≤ cx ∧ cx ≤ max ax bx) ∧ (min ay by_ ≤ cy ∧ cy ≤ max ay by_))
def onb (ax ay bx by_ cx cy : Int) : Bool := decide (crs ax ay bx by_ cx cy = 0) && btw ax ay bx by_ cx cy
theorem spec_min (a b : Int) : spec_l00Min.f a b = some (min a b) := by unfold spec_l00Min.f; split <;> congr 1 <;> omega
theorem spec_max (a b : Int) : spec_l00Max.f a b = some (max a b) := by unfold spec_l00Max.f; split <;> congr 1 <;> omega
theorem mn_min (a b : Int) : mn a b = min a b := by unfold mn; split <;> omega
theorem mx_max (a b : Int) : mx a b = max a b := by unfold mx; split <;> omega
theorem specOn {ax ay bx by_ cx cy : Int} (h1 : inb ax) (h2 : inb ay) (h3 : inb bx) (h4 : inb by_) (h5 : inb cx) (h6 : inb cy) : spec_l13On.f ax ay bx by_ cx cy = some (onb ax ay bx by_ cx cy) := by
  unfold spec_l13On.f
  rw [specCross h1 h2 h3 h4 h5 h6]
  simp only [Option.bind_some, spec_min, spec_max, specIn]
  unfold onb btw
  by_cases h : crs ax ay bx by_ cx cy = 0
  · by_cases h' : min ax bx ≤ cx ∧ cx ≤ max ax bx
    · simp [h, h']
    · simp [h, h']
  · simp [h]
theorem implBetween (ax ay bx by_ cx cy : Int) : impl_between.f ax ay bx by_ cx cy = some (btw ax ay bx by_ cx cy) := by
  unfold impl_between.f
  simp only [Option.bind_some, mn_min, mx_max, implIn]
  unfold btw
  by_cases h' : min ax bx ≤ cx ∧ cx ≤ max ax bx
  · simp [h']
  · simp [h']
def opp (p q : Int) : Bool := decide (p < 0 ∧ q > 0 ∨ p > 0 ∧ q < 0)
def sid (ax ay bx by_ cx cy dx dy : Int) : Bool := opp (crs ax ay bx by_ cx cy) (crs ax ay bx by_ dx dy)
theorem specSides {ax ay bx by_ cx cy dx dy : Int} (h1 : inb ax) (h2 : inb ay) (h3 : inb bx) (h4 : inb by_) (h5 : inb cx) (h6 : inb cy) (h7 : inb dx) (h8 : inb dy) : spec_l13Sides.f ax ay bx by_ cx cy dx dy = some (sid ax ay bx by_ cx cy dx dy) := by
  unfold spec_l13Sides.f
  rw [specCross h1 h2 h3 h4 h5 h6, specCross h1 h2 h3 h4 h7 h8]
  simp only [Option.bind_some]
  unfold sid opp
  generalize crs ax ay bx by_ cx cy = p
  generalize crs ax ay bx by_ dx dy = q
  by_cases h : p < 0
  · by_cases h' : q > 0
    · simp [h, h']
    · have : ¬ p > 0 := by omega
      simp [h, h', this]
  · by_cases h' : p > 0
    · simp [h, h']
    · simp [h, h']
def mt (ax ay bx by_ cx cy dx dy : Int) : Bool := (onb ax ay bx by_ cx cy || onb ax ay bx by_ dx dy || onb cx cy dx dy ax ay || onb cx cy dx dy bx by_) || (sid ax ay bx by_ cx cy dx dy && sid cx cy dx dy ax ay bx by_)
theorem specMeet {ax ay bx by_ cx cy dx dy : Int} (h1 : inb ax) (h2 : inb ay) (h3 : inb bx) (h4 : inb by_) (h5 : inb cx) (h6 : inb cy) (h7 : inb dx) (h8 : inb dy) : Ev (fun k => spec_l13Meet.f k ax ay bx by_ cx cy dx dy) (mt ax ay bx by_ cx cy dx dy) := by
  have hj : ∀ t, Ev (fun k => spec_l13Meet.j0 k t ax ay bx by_ cx cy dx dy) (t || (sid ax ay bx by_ cx cy dx dy && sid cx cy dx dy ax ay bx by_)) := by
    intro t
    refine ev_end (fun k => ?_)
    simp only [spec_l13Meet.j0, specSides h1 h2 h3 h4 h5 h6 h7 h8, specSides h5 h6 h7 h8 h1 h2 h3 h4, Option.bind_some]
    cases t <;> cases sid ax ay bx by_ cx cy dx dy <;> simp
  unfold spec_l13Meet.f
  rw [specOn h1 h2 h3 h4 h5 h6, specOn h1 h2 h3 h4 h7 h8, specOn h5 h6 h7 h8 h1 h2, specOn h5 h6 h7 h8 h3 h4]
  simp only [Option.bind_some]
  unfold mt
  cases onb ax ay bx by_ cx cy
  · cases onb ax ay bx by_ dx dy
    · cases onb cx cy dx dy ax ay
      · simpa using hj (onb cx cy dx dy bx by_)
      · simpa using hj true
    · simpa using hj true
  · simpa using hj true
def sg (p : Int) : Int := if p > 0 then 1 else if p < 0 then -1 else 0
theorem implSign (p : Int) : impl_sign.f p = some (sg p) := by unfold impl_sign.f sg; split; rfl; split <;> rfl
theorem sg_opp (p q : Int) : decide (wrap64 (sg p * sg q) < 0) = opp p q := by
  have h1 : sg p = 1 ∧ p > 0 ∨ sg p = -1 ∧ p < 0 ∨ sg p = 0 ∧ p = 0 := by unfold sg; split; (left; omega); split <;> omega
  have h2 : sg q = 1 ∧ q > 0 ∨ sg q = -1 ∧ q < 0 ∨ sg q = 0 ∧ q = 0 := by unfold sg; split; (left; omega); split <;> omega
  unfold opp
  rw [Bool.eq_iff_iff]
  simp only [decide_eq_true_eq]
  rcases h1 with ⟨e1, h1⟩ | ⟨e1, h1⟩ | ⟨e1, h1⟩ <;> rcases h2 with ⟨e2, h2⟩ | ⟨e2, h2⟩ | ⟨e2, h2⟩ <;> rw [e1, e2] <;> (unfold wrap64) <;> omega
theorem implMeet {ax ay bx by_ cx cy dx dy : Int} (h1 : inb ax) (h2 : inb ay) (h3 : inb bx) (h4 : inb by_) (h5 : inb cx) (h6 : inb cy) (h7 : inb dx) (h8 : inb dy) : Ev (fun k => impl_edgesMeet.f k ax ay bx by_ cx cy dx dy) (mt ax ay bx by_ cx cy dx dy) := by
  have hj : ∀ (p q r s : Int) (t : Bool), Ev (fun k => impl_edgesMeet.j0 k p q r s t ax ay bx by_ cx cy dx dy) (t || ((decide (p = 0) && btw ax ay bx by_ cx cy) || (decide (q = 0) && btw ax ay bx by_ dx dy) || (decide (r = 0) && btw cx cy dx dy ax ay) || (decide (s = 0) && btw cx cy dx dy bx by_))) := by
    intro p q r s t
    refine ev_end (fun k => ?_)
    simp only [impl_edgesMeet.j0, implBetween, Option.bind_some]
    cases t
    · generalize btw ax ay bx by_ cx cy = b1
      generalize btw ax ay bx by_ dx dy = b2
      generalize btw cx cy dx dy ax ay = b3
      generalize btw cx cy dx dy bx by_ = b4
      by_cases hp : p = 0 <;> by_cases hq : q = 0 <;> by_cases hr : r = 0 <;> by_cases hs : s = 0 <;> simp only [hp, hq, hr, hs, if_true, if_false, decide_true, decide_false, Bool.true_and, Bool.false_and, Bool.false_or, Bool.or_false, Bool.false_eq_true] <;> cases b1 <;> cases b2 <;> cases b3 <;> simp
    · simp
  unfold impl_edgesMeet.f
  rw [implTurn h1 h2 h3 h4 h5 h6, implTurn h1 h2 h3 h4 h7 h8, implTurn h5 h6 h7 h8 h1 h2, implTurn h5 h6 h7 h8 h3 h4]
  simp only [Option.bind_some, implSign]
  unfold mt onb sid
  generalize crs ax ay bx by_ cx cy = p at *
  generalize crs ax ay bx by_ dx dy = q at *
  generalize crs cx cy dx dy ax ay = r at *
  generalize crs cx cy dx dy bx by_ = s at *
  have e1 := sg_opp p q
  have e2 := sg_opp r s
  by_cases hc : wrap64 (sg p * sg q) < 0
  · rw [decide_eq_true hc] at e1
    simp only [hc, if_true, ← e1, Bool.true_and]
    have := hj p q r s (decide (wrap64 (sg r * sg s) < 0))
    rw [e2] at this
    rw [← e2, e2, Bool.or_comm]
    exact this
  · rw [decide_eq_false hc] at e1
    simp only [hc, if_false, ← e1, Bool.false_and, Bool.or_false]
    simpa using hj p q r s false
/-! ### valid sails -/
def X (l : List S49) (i : Nat) : Int := (l.getD i z49).f0
def Y (l : List S49) (i : Nat) : Int := (l.getD i z49).f1
theorem rdX (l : List S49) (i : Nat) : (rd_T49 l (i : Int)).f0 = X l i := by simp [rd_T49, X]
theorem rdY (l : List S49) (i : Nat) : (rd_T49 l (i : Int)).f1 = Y l i := by simp [rd_T49, Y]
def inbox (l : List S49) : Prop := ∀ i, i < l.length → inb (X l i) ∧ inb (Y l i)
def nx (l : List S49) (i c : Nat) : Nat := (i + c) % l.length
theorem nx_lt (l : List S49) (i c : Nat) (h : 0 < l.length) : nx l i c < l.length := Nat.mod_lt _ h
def cr (l : List S49) (i : Nat) : Int := crs (X l i) (Y l i) (X l (nx l i 1)) (Y l (nx l i 1)) (X l (nx l i 2)) (Y l (nx l i 2))
def mtl (l : List S49) (i k : Nat) : Bool := mt (X l i) (Y l i) (X l (nx l i 1)) (Y l (nx l i 1)) (X l k) (Y l k) (X l (nx l k 1)) (Y l (nx l k 1))
def T (l : List S49) : Nat → Int
  | 0 => 0
  | i + 1 => wrap64 (T l i + wrap64 (wrap64 (X l i * Y l (nx l i 1)) - wrap64 (X l (nx l i 1) * Y l i)))
def tw (l : List S49) : Int := T l l.length
def V (l : List S49) : Prop := (3 ≤ l.length ∧ l.length ≤ 8) ∧ inbox l ∧ (∀ i, i < l.length → cr l i ≠ 0) ∧ (∀ i k, i + 2 ≤ k → k < l.length → (0 < i ∨ k < l.length - 1) → mtl l i k = false) ∧ 0 < tw l
open Classical in
noncomputable def Vb (l : List S49) : Bool := decide (V l)
theorem Vb_true {l : List S49} (h : V l) : Vb l = true := by unfold Vb; simp [h]
theorem Vb_false {l : List S49} (h : ¬ V l) : Vb l = false := by unfold Vb; simp [h]
theorem V_of {l : List S49} (h : Vb l = true) : V l := by unfold Vb at h; simpa using h
theorem specTwice (l : List S49) (hn : l.length < 9223372036854775000) : Ev (fun k => spec_l13Twice.f k l) (tw l) := by
  unfold spec_l13Twice.f
  refine loop_all (fun k i => spec_l13Twice.l0 k l (T l i) (i : Int)) l.length (tw l) (fun i hi k => ?_) (ev_end fun k => ?_)
  · show spec_l13Twice.l0 (k + 1) _ _ _ = spec_l13Twice.l0 k _ _ _
    simp only [spec_l13Twice.l0]
    have e : Int.tmod (wrap64 ((i : Int) + 1)) (l.length : Int) = ((nx l i 1 : Nat) : Int) := succ_mod i l.length (by omega) 1 (by omega)
    have hlt := nx_lt l i 1 (by omega)
    rw [e, if_pos (by omega), if_neg (by omega), if_pos (by omega), if_pos (by omega), if_pos (by omega), succ_cast i (by omega)]
    simp only [rdX, rdY]
    rfl
  · show spec_l13Twice.l0 (k + 1) _ _ _ = _
    simp only [spec_l13Twice.l0]
    rw [if_neg (by omega)]
    rfl
theorem implTwice (l : List S49) (hn : l.length < 9223372036854775000) : Ev (fun k => impl_twiceSail.f k l) (tw l) := by
  unfold impl_twiceSail.f
  refine loop_all (fun k i => impl_twiceSail.l0 k l (T l i) l (l.length : Int) (i : Int)) l.length (tw l) (fun i hi k => ?_) (ev_end fun k => ?_)
  · show impl_twiceSail.l0 (k + 1) _ _ _ _ _ = impl_twiceSail.l0 k _ _ _ _ _
    simp only [impl_twiceSail.l0]
    have e : Int.tmod (wrap64 ((i : Int) + 1)) (l.length : Int) = ((nx l i 1 : Nat) : Int) := succ_mod i l.length (by omega) 1 (by omega)
    have hlt := nx_lt l i 1 (by omega)
    rw [e, if_pos (by omega), if_pos (by omega), if_pos (by omega), if_neg (by omega), if_pos (by omega), if_pos (by omega), succ_cast i (by omega)]
    simp only [rdX, rdY]
    rfl
  · show impl_twiceSail.l0 (k + 1) _ _ _ _ _ = _
    simp only [impl_twiceSail.l0]
    rw [if_neg (by omega)]
    rfl
theorem specV1 (l : List S49) (h8 : 3 ≤ l.length ∧ l.length ≤ 8) (hb : inbox l) : Ev (fun k => spec_l13Ok.l1 k l (l.length : Int) 0) (Vb l) := by
  refine loop_up' (fun k i => spec_l13Ok.l1 k l (l.length : Int) (i : Int)) l.length (Vb l) (fun i => ∀ j, j < i → cr l j ≠ 0 ∧ ∀ q, j + 2 ≤ q → q < l.length → (0 < j ∨ q < l.length - 1) → mtl l j q = false) (fun i hi hI => ?_) (fun hI => ?_) _ 0 rfl (by omega) (fun j hj => by omega)
  · have e1 : Int.tmod (wrap64 ((i : Int) + 1)) (l.length : Int) = ((nx l i 1 : Nat) : Int) := succ_mod i l.length (by omega) 1 (by omega)
    have e2 : Int.tmod (wrap64 ((i : Int) + 2)) (l.length : Int) = ((nx l i 2 : Nat) : Int) := succ_mod i l.length (by omega) 2 (by omega)
    have hl1 := nx_lt l i 1 (by omega)
    have hl2 := nx_lt l i 2 (by omega)
    have w2 : wrap64 ((i : Int) + 2) = ((i + 2 : Nat) : Int) := by rw [wrap_in (by omega) (by omega)]; omega
    have b0 := hb i hi
    have b1 := hb _ hl1
    have b2 := hb _ hl2
    have one : ∀ k, spec_l13Ok.l1 (k + 1) l (l.length : Int) (i : Int) = if cr l i = 0 then some false else spec_l13Ok.l2 k l (l.length : Int) (i : Int) ((i + 2 : Nat) : Int) (X l i) (Y l i) (X l (nx l i 1)) (Y l (nx l i 1)) := by
      intro k
      simp only [spec_l13Ok.l1]
      rw [e1, e2, w2, if_pos (by omega), if_pos (by omega), if_pos (by omega), if_neg (by omega), if_pos (by omega), if_pos (by omega), if_pos (by omega), if_pos (by omega)]
      simp only [rdX, rdY]
      rw [specCross b0.1 b0.2 b1.1 b1.2 b2.1 b2.2]
      rfl
    by_cases hc : cr l i = 0
    · refine .inr (ev_eq (ev_end (fun k => by show spec_l13Ok.l1 (k + 1) _ _ _ = _; rw [one, if_pos hc])) (Vb_false (fun hV => hV.2.2.1 i hi hc)).symm)
    · -- the inner loop
      by_cases hall : ∀ q, i + 2 ≤ q → q < l.length → (0 < i ∨ q < l.length - 1) → mtl l i q = false
      · refine .inl ⟨fun j hj => ?_, fun hnext => ?_⟩
        · by_cases hji : j = i
          · subst hji; exact ⟨hc, hall⟩
          · exact hI j (by omega)
        · refine ev_step (fun k => by show spec_l13Ok.l1 (k + 1) _ _ _ = _; rw [one, if_neg hc]) ?_
          have fin : Ev (fun k => spec_l13Ok.l1 k l (l.length : Int) ((i + 1 : Nat) : Int)) (Vb l) := hnext
          have stop : ∀ q : Nat, l.length ≤ q → Ev (fun k => spec_l13Ok.l2 k l (l.length : Int) (i : Int) (q : Int) (X l i) (Y l i) (X l (nx l i 1)) (Y l (nx l i 1))) (Vb l) := by
            intro q hq
            refine ev_step (fun k => ?_) fin
            simp only [spec_l13Ok.l2]
            rw [if_neg (by omega), succ_cast i (by omega)]
          by_cases h2 : i + 2 ≤ l.length
          · refine loop_up' (fun k q => spec_l13Ok.l2 k l (l.length : Int) (i : Int) (q : Int) (X l i) (Y l i) (X l (nx l i 1)) (Y l (nx l i 1))) l.length (Vb l) (fun q => i + 2 ≤ q) (fun q hq hIq => ?_) (fun _ => stop _ (by omega)) _ (i + 2) rfl h2 (by omega)
            refine .inl ⟨by omega, fun hn2 => ?_⟩
            have hn3 : Ev (fun k => spec_l13Ok.l2 k l (l.length : Int) (i : Int) ((q + 1 : Nat) : Int) (X l i) (Y l i) (X l (nx l i 1)) (Y l (nx l i 1))) (Vb l) := hn2
            have e3 : Int.tmod (wrap64 ((q : Int) + 1)) (l.length : Int) = ((nx l q 1 : Nat) : Int) := succ_mod q l.length (by omega) 1 (by omega)
            have hl3 := nx_lt l q 1 (by omega)
            have bq := hb q hq
            have bq1 := hb _ hl3
            have meet : (0 < i ∨ q < l.length - 1) → Ev (fun k => (spec_l13Meet.f k (X l i) (Y l i) (X l (nx l i 1)) (Y l (nx l i 1)) (X l q) (Y l q) (X l (nx l q 1)) (Y l (nx l q 1))).bind fun t => (if t = true then (some false) else (spec_l13Ok.l2 k l (l.length : Int) (i : Int) ((q + 1 : Nat) : Int) (X l i) (Y l i) (X l (nx l i 1)) (Y l (nx l i 1))))) (Vb l) := by
              intro hcond
              have hm := specMeet b0.1 b0.2 b1.1 b1.2 bq.1 bq.2 bq1.1 bq1.2
              have hf : mt (X l i) (Y l i) (X l (nx l i 1)) (Y l (nx l i 1)) (X l q) (Y l q) (X l (nx l q 1)) (Y l (nx l q 1)) = false := hall q hIq hq hcond
              rw [hf] at hm
              exact ev_bind hm (ev_if_neg (by simp) hn3)
            by_cases hi0 : 0 < i
            · refine ev_step (fun k => ?_) (meet (.inl hi0))
              simp only [spec_l13Ok.l2]
              rw [e3, if_pos (by omega), if_pos (by omega), if_pos (by omega), if_pos (by omega), if_neg (by omega), if_pos (by omega), if_pos (by omega), succ_cast q (by omega)]
              simp only [rdX, rdY]
            · by_cases hq1 : q < l.length - 1
              · refine ev_step (fun k => ?_) (meet (.inr hq1))
                simp only [spec_l13Ok.l2]
                rw [e3, if_pos (by omega), if_neg (by omega), wrap_in (x := (l.length : Int) - 1) (by omega) (by omega), if_pos (by omega), if_pos (by omega), if_pos (by omega), if_neg (by omega), if_pos (by omega), if_pos (by omega), succ_cast q (by omega)]
                simp only [rdX, rdY]
              · refine ev_step (fun k => ?_) hn3
                simp only [spec_l13Ok.l2]
                rw [if_pos (by omega), if_neg (by omega), wrap_in (x := (l.length : Int) - 1) (by omega) (by omega), if_neg (by omega), succ_cast q (by omega)]
          · exact stop (i + 2) (by omega)
      · -- some edge is met
        have hV : Vb l = false := Vb_false (fun hV => hall (fun q h1 h2 h3 => hV.2.2.2.1 i q h1 h2 h3))
        refine .inr ?_
        refine ev_step (fun k => by show spec_l13Ok.l1 (k + 1) _ _ _ = _; rw [one, if_neg hc]) ?_
        have h2 : i + 2 ≤ l.length := by
          rcases Nat.lt_or_ge l.length (i + 2) with h | h
          · exact absurd (fun q h1 h2 _ => by omega) hall
          · exact h
        refine loop_up' (fun k q => spec_l13Ok.l2 k l (l.length : Int) (i : Int) (q : Int) (X l i) (Y l i) (X l (nx l i 1)) (Y l (nx l i 1))) l.length (Vb l) (fun q => i + 2 ≤ q ∧ ∀ p, i + 2 ≤ p → p < q → (0 < i ∨ p < l.length - 1) → mtl l i p = false) (fun q hq hIq => ?_) (fun hIn => absurd (fun q h1 h2 h3 => hIn.2 q h1 h2 h3) hall) _ (i + 2) rfl h2 ⟨by omega, fun p _ _ => by omega⟩
        have e3 : Int.tmod (wrap64 ((q : Int) + 1)) (l.length : Int) = ((nx l q 1 : Nat) : Int) := succ_mod q l.length (by omega) 1 (by omega)
        have hl3 := nx_lt l q 1 (by omega)
        have bq := hb q hq
        have bq1 := hb _ hl3
        have hm := specMeet b0.1 b0.2 b1.1 b1.2 bq.1 bq.2 bq1.1 bq1.2
        have hinc : (∀ hcond : (0 < i ∨ q < l.length - 1), mtl l i q = false) → (i + 2 ≤ q + 1 ∧ ∀ p, i + 2 ≤ p → p < q + 1 → (0 < i ∨ p < l.length - 1) → mtl l i p = false) := fun h => ⟨by omega, fun p h1 h2 h3 => by
          by_cases hpq : p = q
          · subst hpq; exact h h3
          · exact hIq.2 p h1 (by omega) h3⟩
        have form : (0 < i ∨ q < l.length - 1) → ∀ k, spec_l13Ok.l2 (k + 1) l (l.length : Int) (i : Int) (q : Int) (X l i) (Y l i) (X l (nx l i 1)) (Y l (nx l i 1)) = (spec_l13Meet.f k (X l i) (Y l i) (X l (nx l i 1)) (Y l (nx l i 1)) (X l q) (Y l q) (X l (nx l q 1)) (Y l (nx l q 1))).bind fun t => (if t = true then (some false) else (spec_l13Ok.l2 k l (l.length : Int) (i : Int) ((q + 1 : Nat) : Int) (X l i) (Y l i) (X l (nx l i 1)) (Y l (nx l i 1)))) := by
          intro hcond k
          by_cases hi0 : 0 < i
          · simp only [spec_l13Ok.l2]
            rw [e3, if_pos (by omega), if_pos (by omega), if_pos (by omega), if_pos (by omega), if_neg (by omega), if_pos (by omega), if_pos (by omega), succ_cast q (by omega)]
            simp only [rdX, rdY]
          · have hq1 : q < l.length - 1 := by omega
            simp only [spec_l13Ok.l2]
            rw [e3, if_pos (by omega), if_neg (by omega), wrap_in (x := (l.length : Int) - 1) (by omega) (by omega), if_pos (by omega), if_pos (by omega), if_pos (by omega), if_neg (by omega), if_pos (by omega), if_pos (by omega), succ_cast q (by omega)]
            simp only [rdX, rdY]
        by_cases hcond : 0 < i ∨ q < l.length - 1
        · cases hmv : mtl l i q with
          | true =>
            refine .inr (ev_eq (ev_step (fun k => form hcond k) (ev_bind hm ?_)) hV.symm)
            have : mt (X l i) (Y l i) (X l (nx l i 1)) (Y l (nx l i 1)) (X l q) (Y l q) (X l (nx l q 1)) (Y l (nx l q 1)) = true := hmv
            exact ev_if_pos this (ev_now fun _ => rfl)
          | false =>
            refine .inl ⟨hinc (fun _ => hmv), fun hn2 => ev_step (fun k => form hcond k) (ev_bind hm ?_)⟩
            have : ¬ mt (X l i) (Y l i) (X l (nx l i 1)) (Y l (nx l i 1)) (X l q) (Y l q) (X l (nx l q 1)) (Y l (nx l q 1)) = true := by
              have h5 : mt (X l i) (Y l i) (X l (nx l i 1)) (Y l (nx l i 1)) (X l q) (Y l q) (X l (nx l q 1)) (Y l (nx l q 1)) = false := hmv
              rw [h5]; simp
            exact ev_if_neg this hn2
        · refine .inl ⟨hinc (fun h => absurd h hcond), fun hn2 => ev_step (fun k => ?_) hn2⟩
          show spec_l13Ok.l2 (k + 1) l (l.length : Int) (i : Int) (q : Int) _ _ _ _ = _
          simp only [spec_l13Ok.l2]
          rw [if_pos (by omega), if_neg (by omega), wrap_in (x := (l.length : Int) - 1) (by omega) (by omega), if_neg (by omega), succ_cast q (by omega)]
  · refine ev_step (f := fun k => (spec_l13Twice.f k l).bind fun t154 => some (decide (t154 > 0))) (fun k => ?_) (ev_eq (ev_bind (specTwice l (by omega)) (ev_now fun _ => rfl)) ?_)
    · show spec_l13Ok.l1 (k + 1) _ _ _ = _
      simp only [spec_l13Ok.l1]
      rw [if_neg (by omega)]
    · have hall : V l ↔ 0 < tw l := ⟨fun h => h.2.2.2.2, fun h => ⟨h8, hb, fun i hi => (hI i hi).1, fun i k h1 h2 h3 => (hI i (by omega)).2 k h1 h2 h3, h⟩⟩
      by_cases h : 0 < tw l
      · rw [Vb_true (hall.2 h)]; exact decide_eq_true h
      · rw [Vb_false (fun hv => h (hall.1 hv))]; exact decide_eq_false h
theorem specV (l : List S49) (hn : l.length < 9223372036854775000) : Ev (fun k => spec_l13Ok.f k l) (Vb l) := by
  unfold spec_l13Ok.f
  rw [specIn]
  by_cases h8 : (3 : Int) ≤ (l.length : Int) ∧ (l.length : Int) ≤ 8
  · simp only [h8, and_self, decide_true, Option.bind_some, if_true]
    refine loop_up (fun k i => spec_l13Ok.l0 k l (l.length : Int) (i : Int)) l.length (Vb l) (fun i => ∀ j, j < i → inb (X l j) ∧ inb (Y l j)) (fun i hi hI => ?_) (fun hI => ?_) _ 0 rfl (by omega) (fun j hj => by omega)
    · by_cases h : inb (X l i) ∧ inb (Y l i)
      · refine .inl ⟨fun k => ?_, fun j hj => ?_⟩
        · show spec_l13Ok.l0 (k + 1) _ _ _ = spec_l13Ok.l0 k _ _ _
          have h1 := h.1
          have h2 := h.2
          unfold inb at h1 h2
          simp only [spec_l13Ok.l0, rdX, rdY, specIn]
          rw [if_pos (by omega), if_pos (by omega), if_pos (by omega), succ_cast i (by omega)]
          simp only [h1, h2, and_self, decide_true, Option.bind_some, if_true]
        · by_cases hji : j = i
          · subst hji; exact h
          · exact hI j (by omega)
      · refine .inr (ev_eq (ev_end (fun k => ?_)) (Vb_false (fun hV => h (hV.2.1 i hi))).symm)
        show spec_l13Ok.l0 (k + 1) _ _ _ = _
        simp only [spec_l13Ok.l0, rdX, rdY, specIn]
        rw [if_pos (by omega), if_pos (by omega), if_pos (by omega)]
        by_cases h1 : 0 ≤ X l i ∧ X l i ≤ 2000
        · have h2 : ¬ (0 ≤ Y l i ∧ Y l i ≤ 2000) := fun h2 => h ⟨h1, h2⟩
          simp only [h1, h2, and_self, decide_true, decide_false, Option.bind_some, if_true, if_false, Bool.false_eq_true]
        · simp only [h1, decide_false, Option.bind_some, if_false, Bool.false_eq_true]
    · refine ev_step (fun k => ?_) (specV1 l (by omega) (fun i hi => hI i hi))
      show spec_l13Ok.l0 (k + 1) _ _ _ = _
      simp only [spec_l13Ok.l0]
      rw [if_neg (by omega)]
  · simp only [h8, decide_false, Option.bind_some, if_false, Bool.false_eq_true]
    exact ev_eq (ev_now fun _ => rfl) (Vb_false (fun hV => h8 (by have := hV.1; omega))).symm

theorem implV2 (l : List S49) (h8 : 3 ≤ l.length ∧ l.length ≤ 8) (hb : inbox l) (hcr : ∀ i, i < l.length → cr l i ≠ 0) : Ev (fun k => impl_ValidSail.l2 k l (l.length : Int) (l.length : Int) 0) (Vb l) := by
  refine loop_up' (fun k i => impl_ValidSail.l2 k l (l.length : Int) (l.length : Int) (i : Int)) l.length (Vb l) (fun i => ∀ j, j < i → ∀ q, j + 2 ≤ q → q < l.length → (0 < j ∨ q < l.length - 1) → mtl l j q = false) (fun i hi hI => ?_) (fun hI => ?_) _ 0 rfl (by omega) (fun j hj => by omega)
  · have w2 : wrap64 ((i : Int) + 2) = ((i + 2 : Nat) : Int) := by rw [wrap_in (by omega) (by omega)]; omega
    have w1 : wrap64 ((i : Int) + 1) = ((i + 1 : Nat) : Int) := succ_cast i (by omega)
    have hl1 := nx_lt l i 1 (by omega)
    have b0 := hb i hi
    have b1 := hb _ hl1
    have one : ∀ k, impl_ValidSail.l2 (k + 1) l (l.length : Int) (l.length : Int) (i : Int) = impl_ValidSail.l3 k l (l.length : Int) (i : Int) ((i + 2 : Nat) : Int) (l.length : Int) (i : Int) := by
      intro k
      simp only [impl_ValidSail.l2]
      rw [w2, if_pos (by omega)]
    have skip : ∀ q : Nat, i + 2 ≤ q → q < l.length → ¬ (0 < i ∨ q < l.length - 1) → ∀ k, impl_ValidSail.l3 (k + 1) l (l.length : Int) (i : Int) (q : Int) (l.length : Int) (i : Int) = impl_ValidSail.l3 k l (l.length : Int) (i : Int) ((q + 1 : Nat) : Int) (l.length : Int) (i : Int) := by
      intro q hq1 hq hc k
      have e3 : Int.tmod (wrap64 ((q : Int) + 1)) (l.length : Int) = ((nx l q 1 : Nat) : Int) := succ_mod q l.length (by omega) 1 (by omega)
      have h0 : nx l q 1 = i := by
        have : q + 1 = l.length := by omega
        unfold nx
        rw [this, Nat.mod_self]; omega
      simp only [impl_ValidSail.l3]
      rw [e3, if_pos (by omega), if_neg (by omega), if_pos (by omega), succ_cast q (by omega)]
    have form : ∀ q : Nat, i + 2 ≤ q → q < l.length → (0 < i ∨ q < l.length - 1) → ∀ k, impl_ValidSail.l3 (k + 1) l (l.length : Int) (i : Int) (q : Int) (l.length : Int) (i : Int) =
        (impl_edgesMeet.f k (X l i) (Y l i) (X l (nx l i 1)) (Y l (nx l i 1)) (X l q) (Y l q) (X l (nx l q 1)) (Y l (nx l q 1))).bind fun t => (if t = true then (some false) else (impl_ValidSail.l3 k l (l.length : Int) (i : Int) ((q + 1 : Nat) : Int) (l.length : Int) (i : Int))) := by
      intro q hq1 hq hc k
      have e3 : Int.tmod (wrap64 ((q : Int) + 1)) (l.length : Int) = ((nx l q 1 : Nat) : Int) := succ_mod q l.length (by omega) 1 (by omega)
      have hl3 := nx_lt l q 1 (by omega)
      have h0 : nx l q 1 ≠ i := by
        unfold nx
        by_cases hq2 : q + 1 < l.length
        · rw [Nat.mod_eq_of_lt hq2]; omega
        · have : q + 1 = l.length := by omega
          rw [this, Nat.mod_self]; omega
      have h1 : nx l i 1 = i + 1 := Nat.mod_eq_of_lt (by omega)
      simp only [impl_ValidSail.l3]
      rw [e3, w1, if_pos (by omega), if_neg (by omega), if_neg (by omega), if_pos (by omega), if_pos (by omega), if_pos (by omega), if_pos (by omega), if_pos (by omega), if_pos (by omega), if_pos (by omega), if_pos (by omega), succ_cast q (by omega)]
      simp only [rdX, rdY]
      rw [h1]
    by_cases hall : ∀ q, i + 2 ≤ q → q < l.length → (0 < i ∨ q < l.length - 1) → mtl l i q = false
    · refine .inl ⟨fun j hj => ?_, fun hnext => ?_⟩
      · by_cases hji : j = i
        · subst hji; exact hall
        · exact hI j (by omega)
      · refine ev_step one ?_
        have fin : Ev (fun k => impl_ValidSail.l2 k l (l.length : Int) (l.length : Int) ((i + 1 : Nat) : Int)) (Vb l) := hnext
        have stop : ∀ q : Nat, l.length ≤ q → Ev (fun k => impl_ValidSail.l3 k l (l.length : Int) (i : Int) (q : Int) (l.length : Int) (i : Int)) (Vb l) := by
          intro q hq
          refine ev_step (fun k => ?_) fin
          simp only [impl_ValidSail.l3]
          rw [if_neg (by omega), w1]
        by_cases h2 : i + 2 ≤ l.length
        · refine loop_up' (fun k q => impl_ValidSail.l3 k l (l.length : Int) (i : Int) (q : Int) (l.length : Int) (i : Int)) l.length (Vb l) (fun q => i + 2 ≤ q) (fun q hq hIq => ?_) (fun _ => stop _ (by omega)) _ (i + 2) rfl h2 (by omega)
          refine .inl ⟨by omega, fun hn2 => ?_⟩
          have bq := hb q hq
          have bq1 := hb _ (nx_lt l q 1 (by omega))
          by_cases hcond : 0 < i ∨ q < l.length - 1
          · have hm := implMeet b0.1 b0.2 b1.1 b1.2 bq.1 bq.2 bq1.1 bq1.2
            have hf : mt (X l i) (Y l i) (X l (nx l i 1)) (Y l (nx l i 1)) (X l q) (Y l q) (X l (nx l q 1)) (Y l (nx l q 1)) = false := hall q hIq hq hcond
            rw [hf] at hm
            exact ev_step (form q hIq hq hcond) (ev_bind hm (ev_if_neg (by simp) hn2))
          · exact ev_step (skip q hIq hq hcond) hn2
        · exact stop (i + 2) (by omega)
    · have hV : Vb l = false := Vb_false (fun hV => hall (fun q h1 h2 h3 => hV.2.2.2.1 i q h1 h2 h3))
      refine .inr (ev_step one ?_)
      have h2 : i + 2 ≤ l.length := by
        rcases Nat.lt_or_ge l.length (i + 2) with h | h
        · exact absurd (fun q h1 h2 _ => by omega) hall
        · exact h
      refine loop_up' (fun k q => impl_ValidSail.l3 k l (l.length : Int) (i : Int) (q : Int) (l.length : Int) (i : Int)) l.length (Vb l) (fun q => i + 2 ≤ q ∧ ∀ p, i + 2 ≤ p → p < q → (0 < i ∨ p < l.length - 1) → mtl l i p = false) (fun q hq hIq => ?_) (fun hIn => absurd (fun q h1 h2 h3 => hIn.2 q h1 h2 h3) hall) _ (i + 2) rfl h2 ⟨by omega, fun p _ _ => by omega⟩
      have bq := hb q hq
      have bq1 := hb _ (nx_lt l q 1 (by omega))
      have hm := implMeet b0.1 b0.2 b1.1 b1.2 bq.1 bq.2 bq1.1 bq1.2
      have hinc : (∀ hcond : (0 < i ∨ q < l.length - 1), mtl l i q = false) → (i + 2 ≤ q + 1 ∧ ∀ p, i + 2 ≤ p → p < q + 1 → (0 < i ∨ p < l.length - 1) → mtl l i p = false) := fun h => ⟨by omega, fun p h1 h2 h3 => by
        by_cases hpq : p = q
        · subst hpq; exact h h3
        · exact hIq.2 p h1 (by omega) h3⟩
      by_cases hcond : 0 < i ∨ q < l.length - 1
      · cases hmv : mtl l i q with
        | true =>
          refine .inr (ev_eq (ev_step (form q hIq.1 hq hcond) (ev_bind hm ?_)) hV.symm)
          have : mt (X l i) (Y l i) (X l (nx l i 1)) (Y l (nx l i 1)) (X l q) (Y l q) (X l (nx l q 1)) (Y l (nx l q 1)) = true := hmv
          exact ev_if_pos this (ev_now fun _ => rfl)
        | false =>
          refine .inl ⟨hinc (fun _ => hmv), fun hn2 => ev_step (form q hIq.1 hq hcond) (ev_bind hm ?_)⟩
          have : ¬ mt (X l i) (Y l i) (X l (nx l i 1)) (Y l (nx l i 1)) (X l q) (Y l q) (X l (nx l q 1)) (Y l (nx l q 1)) = true := by
            have h5 : mt (X l i) (Y l i) (X l (nx l i 1)) (Y l (nx l i 1)) (X l q) (Y l q) (X l (nx l q 1)) (Y l (nx l q 1)) = false := hmv
            rw [h5]; simp
          exact ev_if_neg this hn2
      · exact .inl ⟨hinc (fun h => absurd h hcond), fun hn2 => ev_step (skip q hIq.1 hq hcond) hn2⟩
  · refine ev_step (f := fun k => (impl_twiceSail.f k l).bind fun t => some (decide (t > 0))) (fun k => ?_) (ev_eq (ev_bind (implTwice l (by omega)) (ev_now fun _ => rfl)) ?_)
    · show impl_ValidSail.l2 (k + 1) _ _ _ _ = _
      simp only [impl_ValidSail.l2]
      rw [if_neg (by omega)]
    · have hall : V l ↔ 0 < tw l := ⟨fun h => h.2.2.2.2, fun h => ⟨h8, hb, hcr, fun i k h1 h2 h3 => hI i (by omega) k h1 h2 h3, h⟩⟩
      by_cases h : 0 < tw l
      · rw [Vb_true (hall.2 h)]; exact decide_eq_true h
      · rw [Vb_false (fun hv => h (hall.1 hv))]; exact decide_eq_false h
theorem implV (l : List S49) (hn : l.length < 9223372036854775000) : Ev (fun k => impl_ValidSail.f k l) (Vb l) := by
  unfold impl_ValidSail.f
  by_cases h3 : (l.length : Int) < 3
  · exact ev_if_pos h3 (ev_eq (ev_end fun k => by simp only [impl_ValidSail.j0, if_true]) (Vb_false (fun hV => by have := hV.1; omega)).symm)
  · refine ev_if_neg h3 ?_
    by_cases h8 : (l.length : Int) > 8
    · simp only [h8, decide_true]
      exact ev_eq (ev_end fun k => by simp only [impl_ValidSail.j0, if_true]) (Vb_false (fun hV => by have := hV.1; omega)).symm
    · simp only [h8, decide_false]
      refine ev_step (f := fun k => impl_ValidSail.l0 k l (l.length : Int) l (l.length : Int) 0) (fun k => by simp only [impl_ValidSail.j0, if_false, Bool.false_eq_true]) ?_
      refine loop_up (fun k i => impl_ValidSail.l0 k l (l.length : Int) l (l.length : Int) (i : Int)) l.length (Vb l) (fun i => ∀ j, j < i → inb (X l j) ∧ inb (Y l j)) (fun i hi hI => ?_) (fun hI => ?_) _ 0 rfl (by omega) (fun j hj => by omega)
      · by_cases h : inb (X l i) ∧ inb (Y l i)
        · refine .inl ⟨fun k => ?_, fun j hj => ?_⟩
          · show impl_ValidSail.l0 (k + 1) _ _ _ _ _ = impl_ValidSail.l0 k _ _ _ _ _
            have h1 := h.1
            have h2 := h.2
            unfold inb at h1 h2
            simp only [impl_ValidSail.l0, rdX, rdY, implIn]
            rw [if_pos (by omega), if_pos (by omega), if_pos (by omega), succ_cast i (by omega)]
            simp only [h1, h2, and_self, decide_true, Option.bind_some, if_true]
          · by_cases hji : j = i
            · subst hji; exact h
            · exact hI j (by omega)
        · refine .inr (ev_eq (ev_end (fun k => ?_)) (Vb_false (fun hV => h (hV.2.1 i hi))).symm)
          show impl_ValidSail.l0 (k + 1) _ _ _ _ _ = _
          simp only [impl_ValidSail.l0, rdX, rdY, implIn]
          rw [if_pos (by omega), if_pos (by omega), if_pos (by omega)]
          by_cases h1 : 0 ≤ X l i ∧ X l i ≤ 2000
          · have h2 : ¬ (0 ≤ Y l i ∧ Y l i ≤ 2000) := fun h2 => h ⟨h1, h2⟩
            simp only [h1, h2, and_self, decide_true, decide_false, Option.bind_some, if_true, if_false, Bool.false_eq_true]
          · simp only [h1, decide_false, Option.bind_some, if_false, Bool.false_eq_true]
      · have hb : inbox l := fun i hi => hI i hi
        refine ev_step (f := fun k => impl_ValidSail.l1 k l (l.length : Int) (l.length : Int) 0) (fun k => ?_) ?_
        · show impl_ValidSail.l0 (k + 1) _ _ _ _ _ = _
          simp only [impl_ValidSail.l0]
          rw [if_neg (by omega)]
        · refine loop_up (fun k i => impl_ValidSail.l1 k l (l.length : Int) (l.length : Int) (i : Int)) l.length (Vb l) (fun i => ∀ j, j < i → cr l j ≠ 0) (fun i hi hI => ?_) (fun hI => ?_) _ 0 rfl (by omega) (fun j hj => by omega)
          · have e1 : Int.tmod (wrap64 ((i : Int) + 1)) (l.length : Int) = ((nx l i 1 : Nat) : Int) := succ_mod i l.length (by omega) 1 (by omega)
            have e2 : Int.tmod (wrap64 ((i : Int) + 2)) (l.length : Int) = ((nx l i 2 : Nat) : Int) := succ_mod i l.length (by omega) 2 (by omega)
            have hl1 := nx_lt l i 1 (by omega)
            have hl2 := nx_lt l i 2 (by omega)
            have b0 := hb i hi
            have b1 := hb _ hl1
            have b2 := hb _ hl2
            have one : ∀ k, impl_ValidSail.l1 (k + 1) l (l.length : Int) (l.length : Int) (i : Int) = if cr l i = 0 then some false else impl_ValidSail.l1 k l (l.length : Int) (l.length : Int) ((i + 1 : Nat) : Int) := by
              intro k
              simp only [impl_ValidSail.l1]
              rw [e1, e2, if_pos (by omega), if_pos (by omega), if_pos (by omega), if_neg (by omega), if_pos (by omega), if_pos (by omega), if_pos (by omega), if_pos (by omega), succ_cast i (by omega)]
              simp only [rdX, rdY]
              rw [implTurn b0.1 b0.2 b1.1 b1.2 b2.1 b2.2]
              rfl
            by_cases hc : cr l i = 0
            · exact .inr (ev_eq (ev_end (fun k => by show impl_ValidSail.l1 (k + 1) _ _ _ _ = _; rw [one, if_pos hc])) (Vb_false (fun hV => hV.2.2.1 i hi hc)).symm)
            · refine .inl ⟨fun k => by show impl_ValidSail.l1 (k + 1) _ _ _ _ = _; rw [one, if_neg hc], fun j hj => ?_⟩
              by_cases hji : j = i
              · subst hji; exact hc
              · exact hI j (by omega)
          · refine ev_step (fun k => ?_) (implV2 l (by omega) hb (fun i hi => hI i hi))
            show impl_ValidSail.l1 (k + 1) _ _ _ _ = _
            simp only [impl_ValidSail.l1]
            rw [if_neg (by omega)]
/-! ### heights -/
def lo (l : List S49) : Nat → Int
  | 0 => Y l 0
  | i + 1 => min (lo l i) (Y l i)
def hi (l : List S49) : Nat → Int
  | 0 => Y l 0
  | i + 1 => max (hi l i) (Y l i)
theorem specLimits (l : List S49) (h0 : 0 < l.length) (hn : l.length < 9223372036854775000) : Ev (fun k => spec_l13Limits.f k l) (lo l l.length, hi l l.length) := by
  unfold spec_l13Limits.f
  refine ev_if_pos (by omega) ?_
  have e0 : (rd_T49 l 0).f1 = Y l 0 := rdY l 0
  rw [e0]
  have e1 : lo l 1 = Y l 0 := by simp [lo]
  have e2 : hi l 1 = Y l 0 := by simp [hi]
  have := loop_up (fun k i => spec_l13Limits.l0 k l (lo l i) (hi l i) (i : Int)) l.length (lo l l.length, hi l l.length) (fun i => 1 ≤ i) (fun i hi' hI => ?_) (fun _ => ev_end fun k => ?_) _ 1 rfl (by omega) (by omega)
  · simpa [e1, e2] using this
  · refine .inl ⟨fun k => ?_, by omega⟩
    show spec_l13Limits.l0 (k + 1) _ _ _ _ = spec_l13Limits.l0 k _ _ _ _
    simp only [spec_l13Limits.l0, rdY, spec_min, spec_max, Option.bind_some]
    rw [if_pos (by omega), if_pos (by omega), succ_cast i (by omega)]
    rfl
  · show spec_l13Limits.l0 (k + 1) _ _ _ _ = _
    simp only [spec_l13Limits.l0]
    rw [if_neg (by omega)]
theorem implLimits (l : List S49) (h0 : 0 < l.length) (hn : l.length < 9223372036854775000) : Ev (fun k => impl_heightsOf.f k l) (lo l l.length, hi l l.length) := by
  unfold impl_heightsOf.f
  refine ev_if_pos (by omega) ?_
  have e0 : (rd_T49 l 0).f1 = Y l 0 := rdY l 0
  rw [e0]
  refine loop_all (fun k i => impl_heightsOf.l0 k (lo l i) (hi l i) l (l.length : Int) (i : Int)) l.length (lo l l.length, hi l l.length) (fun i hi' k => ?_) (ev_end fun k => ?_)
  · show impl_heightsOf.l0 (k + 1) _ _ _ _ _ = impl_heightsOf.l0 k _ _ _ _ _
    simp only [impl_heightsOf.l0, rdY, mn_min, mx_max]
    rw [if_pos (by omega), if_pos (by omega), if_pos (by omega), succ_cast i (by omega)]
    rfl
  · show impl_heightsOf.l0 (k + 1) _ _ _ _ _ = _
    simp only [impl_heightsOf.l0]
    rw [if_neg (by omega)]
/-! ### bulged -/
def Bul (l : List S49) : Prop := ∀ i, i < l.length → 0 ≤ cr l i
open Classical in
noncomputable def Bb (l : List S49) : Bool := decide (Bul l)
theorem Bb_true {l : List S49} (h : Bul l) : Bb l = true := by unfold Bb; simp [h]
theorem Bb_false {l : List S49} (h : ¬ Bul l) : Bb l = false := by unfold Bb; simp [h]
theorem B_of {l : List S49} (h : Bb l = true) : Bul l := by unfold Bb at h; simpa using h
theorem specBulged (l : List S49) (h0 : 0 < l.length) (hn : l.length < 9223372036854775000) (hb : inbox l) : Ev (fun k => spec_l13Bulged.f k l) (Bb l) := by
  unfold spec_l13Bulged.f
  refine loop_up (fun k i => spec_l13Bulged.l0 k l (l.length : Int) (i : Int)) l.length (Bb l) (fun i => ∀ j, j < i → 0 ≤ cr l j) (fun i hi hI => ?_) (fun hI => ?_) _ 0 rfl (by omega) (fun j hj => by omega)
  · have e1 : Int.tmod (wrap64 ((i : Int) + 1)) (l.length : Int) = ((nx l i 1 : Nat) : Int) := succ_mod i l.length (by omega) 1 (by omega)
    have e2 : Int.tmod (wrap64 ((i : Int) + 2)) (l.length : Int) = ((nx l i 2 : Nat) : Int) := succ_mod i l.length (by omega) 2 (by omega)
    have hl1 := nx_lt l i 1 (by omega)
    have hl2 := nx_lt l i 2 (by omega)
    have b0 := hb i hi
    have b1 := hb _ hl1
    have b2 := hb _ hl2
    have one : ∀ k, spec_l13Bulged.l0 (k + 1) l (l.length : Int) (i : Int) = if cr l i < 0 then some false else spec_l13Bulged.l0 k l (l.length : Int) ((i + 1 : Nat) : Int) := by
      intro k
      simp only [spec_l13Bulged.l0]
      rw [e1, e2, if_pos (by omega), if_pos (by omega), if_pos (by omega), if_neg (by omega), if_pos (by omega), if_pos (by omega), if_pos (by omega), if_pos (by omega), succ_cast i (by omega)]
      simp only [rdX, rdY]
      rw [specCross b0.1 b0.2 b1.1 b1.2 b2.1 b2.2]
      rfl
    by_cases hc : cr l i < 0
    · exact .inr (ev_eq (ev_end (fun k => by show spec_l13Bulged.l0 (k + 1) _ _ _ = _; rw [one, if_pos hc])) (Bb_false (fun hV => by have := hV i hi; omega)).symm)
    · refine .inl ⟨fun k => by show spec_l13Bulged.l0 (k + 1) _ _ _ = _; rw [one, if_neg hc], fun j hj => ?_⟩
      by_cases hji : j = i
      · subst hji; omega
      · exact hI j (by omega)
  · refine ev_eq (ev_end fun k => ?_) (Bb_true (fun i hi => hI i hi)).symm
    show spec_l13Bulged.l0 (k + 1) _ _ _ = _
    simp only [spec_l13Bulged.l0]
    rw [if_neg (by omega)]
theorem implBulged (l : List S49) (h0 : 0 < l.length) (hn : l.length < 9223372036854775000) (hb : inbox l) : Ev (fun k => impl_isBulged.f k l) (Bb l) := by
  unfold impl_isBulged.f
  refine loop_up (fun k i => impl_isBulged.l0 k l (l.length : Int) (l.length : Int) (i : Int)) l.length (Bb l) (fun i => ∀ j, j < i → 0 ≤ cr l j) (fun i hi hI => ?_) (fun hI => ?_) _ 0 rfl (by omega) (fun j hj => by omega)
  · have e1 : Int.tmod (wrap64 ((i : Int) + 1)) (l.length : Int) = ((nx l i 1 : Nat) : Int) := succ_mod i l.length (by omega) 1 (by omega)
    have e2 : Int.tmod (wrap64 ((i : Int) + 2)) (l.length : Int) = ((nx l i 2 : Nat) : Int) := succ_mod i l.length (by omega) 2 (by omega)
    have hl1 := nx_lt l i 1 (by omega)
    have hl2 := nx_lt l i 2 (by omega)
    have b0 := hb i hi
    have b1 := hb _ hl1
    have b2 := hb _ hl2
    have one : ∀ k, impl_isBulged.l0 (k + 1) l (l.length : Int) (l.length : Int) (i : Int) = if cr l i < 0 then some false else impl_isBulged.l0 k l (l.length : Int) (l.length : Int) ((i + 1 : Nat) : Int) := by
      intro k
      simp only [impl_isBulged.l0]
      rw [e1, e2, if_pos (by omega), if_pos (by omega), if_pos (by omega), if_neg (by omega), if_pos (by omega), if_pos (by omega), if_pos (by omega), if_pos (by omega), succ_cast i (by omega)]
      simp only [rdX, rdY]
      rw [implTurn b0.1 b0.2 b1.1 b1.2 b2.1 b2.2]
      rfl
    by_cases hc : cr l i < 0
    · exact .inr (ev_eq (ev_end (fun k => by show impl_isBulged.l0 (k + 1) _ _ _ _ = _; rw [one, if_pos hc])) (Bb_false (fun hV => by have := hV i hi; omega)).symm)
    · refine .inl ⟨fun k => by show impl_isBulged.l0 (k + 1) _ _ _ _ = _; rw [one, if_neg hc], fun j hj => ?_⟩
      by_cases hji : j = i
      · subst hji; omega
      · exact hI j (by omega)
  · refine ev_eq (ev_end fun k => ?_) (Bb_true (fun i hi => hI i hi)).symm
    show impl_isBulged.l0 (k + 1) _ _ _ _ = _
    simp only [impl_isBulged.l0]
    rw [if_neg (by omega)]
/-! ### where edges are at a height -/
def vN (l : List S49) (y : Int) (i : Nat) : Int := X l i * (Y l (nx l i 1) - y) + X l (nx l i 1) * (y - Y l i)
def vD (l : List S49) (i : Nat) : Int := Y l (nx l i 1) - Y l i
def vQ (l : List S49) (y : Int) (i : Nat) : Rat := ((vN l y i : Int) : Rat) / ((vD l i : Int) : Rat)
def inR (l : List S49) (y : Int) (i : Nat) : Prop := min (Y l i) (Y l (nx l i 1)) ≤ y ∧ y ≤ max (Y l i) (Y l (nx l i 1))
instance (l : List S49) (y : Int) (i : Nat) : Decidable (inR l y i) := by unfold inR; infer_instance
def eX (l : List S49) (y : Int) (i : Nat) : Rat := if Y l i = Y l (nx l i 1) then ((X l i : Int) : Rat) else vQ l y i
def eZ (l : List S49) (y : Int) (i : Nat) : Rat := if Y l i = Y l (nx l i 1) then ((X l (nx l i 1) : Int) : Rat) else vQ l y i
theorem vQ_val {l : List S49} {y : Int} {i : Nat} (h : Y l i ≠ Y l (nx l i 1)) : vQ l y i * ((vD l i : Int) : Rat) = ((vN l y i : Int) : Rat) := by
  have h0 : ((vD l i : Int) : Rat) ≠ 0 := cast_ne (by unfold vD; omega)
  unfold vQ
  grind
theorem vN_bd {l : List S49} {y : Int} {i : Nat} (hb : inbox l) (hi : i < l.length) (hy : inb y) : (vN l y i).natAbs ≤ 8000000 ∧ (vD l i).natAbs ≤ 2000 := by
  have b0 := hb i hi
  have b1 := hb _ (nx_lt l i 1 (by omega))
  have x0 := b0.1
  have y0 := b0.2
  have x1 := b1.1
  have y1 := b1.2
  unfold inb at *
  have m1 := mul_bound (a := X l i) (b := Y l (nx l i 1) - y) (A := 2000) (B := 2000) (by omega) (by omega) (by omega) (by omega)
  have m2 := mul_bound (a := X l (nx l i 1)) (b := y - Y l i) (A := 2000) (B := 2000) (by omega) (by omega) (by omega) (by omega)
  unfold vN vD
  omega
theorem sm_int {x : Int} (h : inb x) : sm ((x : Int) : Rat) := by
  unfold inb at h
  refine ⟨?_, ?_⟩
  · rw [Rat.num_intCast]; omega
  · rw [Rat.den_intCast]; omega
theorem sm_vQ {l : List S49} {y : Int} {i : Nat} (hb : inbox l) (hi : i < l.length) (hy : inb y) (h : Y l i ≠ Y l (nx l i 1)) : sm (vQ l y i) := by
  obtain ⟨h1, h2⟩ := vN_bd hb hi hy
  obtain ⟨h3, h4⟩ := frq_bound (by unfold vD; omega) (vQ_val (y := y) h)
  exact ⟨by omega, by omega⟩
theorem sm_eX {l : List S49} {y : Int} {i : Nat} (hb : inbox l) (hi : i < l.length) (hy : inb y) : sm (eX l y i) := by
  unfold eX
  split
  · exact sm_int (hb i hi).1
  · rename_i h; exact sm_vQ hb hi hy h
theorem sm_eZ {l : List S49} {y : Int} {i : Nat} (hb : inbox l) (hi : i < l.length) (hy : inb y) : sm (eZ l y i) := by
  unfold eZ
  split
  · exact sm_int (hb _ (nx_lt l i 1 (by omega))).1
  · rename_i h; exact sm_vQ hb hi hy h
theorem specAt {l : List S49} {y : Int} {i : Nat} (hb : inbox l) (hi : i < l.length) (hy : inb y) (h : Y l i ≠ Y l (nx l i 1)) : Ev (fun k => spec_l13At.f k (X l i) (Y l i) (X l (nx l i 1)) (Y l (nx l i 1)) y) (frq (vQ l y i)) := by
  obtain ⟨h1, h2⟩ := vN_bd hb hi hy
  have hv := vQ_val (y := y) h
  have b0 := hb i hi
  have b1 := hb _ (nx_lt l i 1 (by omega))
  have x0 := b0.1
  have y0 := b0.2
  have x1 := b1.1
  have y1 := b1.2
  have hy' := hy
  unfold inb at x0 y0 x1 y1 hy'
  have m1 := mul_bound (a := X l i) (b := Y l (nx l i 1) - y) (A := 2000) (B := 2000) (by omega) (by omega) (by omega) (by omega)
  have m2 := mul_bound (a := X l (nx l i 1)) (b := y - Y l i) (A := 2000) (B := 2000) (by omega) (by omega) (by omega) (by omega)
  have eN : wrap64 (wrap64 (X l i * wrap64 (Y l (nx l i 1) - y)) + wrap64 (X l (nx l i 1) * wrap64 (y - Y l i))) = vN l y i := by
    rw [wrap_in (x := Y l (nx l i 1) - y) (by omega) (by omega), wrap_in (x := y - Y l i) (by omega) (by omega), wrap_in (x := X l i * (Y l (nx l i 1) - y)) (by omega) (by omega), wrap_in (x := X l (nx l i 1) * (y - Y l i)) (by omega) (by omega), wrap_in (by omega) (by omega)]
    rfl
  have eD : wrap64 (Y l (nx l i 1) - Y l i) = vD l i := wrap_in (by omega) (by omega)
  unfold spec_l13At.f
  rw [eN, eD, wrap_self (x := -vN l y i) (by omega), wrap_self (x := -vD l i) (by omega)]
  have hD : vD l i ≠ 0 := by unfold vD; omega
  by_cases hd : vD l i < 0
  · refine ev_if_pos hd (ev_bind (makeQ (q := vQ l y i) (n := -vN l y i) (d := -vD l i) ?_ (by omega) (by omega) (by omega)) (ev_now fun _ => rfl))
    simp only [Rat.intCast_neg]; grind
  · exact ev_if_neg hd (ev_bind (makeQ (q := vQ l y i) (n := vN l y i) (d := vD l i) hv (by omega) (by omega) (by omega)) (ev_now fun _ => rfl))
theorem lessQ {p q : Rat} (hp : sm p) (hq : sm q) : spec_l13Less.f p.num (p.den : Int) q.num (q.den : Int) = some (decide (p < q)) := by
  unfold spec_l13Less.f
  have h1 := p.den_nz
  have h2 := q.den_nz
  obtain ⟨a1, a2⟩ := hp
  obtain ⟨b1, b2⟩ := hq
  have m1 := mul_bound (a := p.num) (b := (q.den : Int)) (A := 8000000) (B := 2000) (by omega) (by omega) (by omega) (by omega)
  have m2 := mul_bound (a := q.num) (b := (p.den : Int)) (A := 8000000) (B := 2000) (by omega) (by omega) (by omega) (by omega)
  rw [wrap_in (x := p.num * (q.den : Int)) (by omega) (by omega), wrap_in (x := q.num * (p.den : Int)) (by omega) (by omega)]
  congr 1
  rw [decide_eq_decide, Rat.lt_iff]
def lq (a b : Rat) : Rat := if b < a then b else a
def gq (a b : Rat) : Rat := if a < b then b else a
theorem sm_lq {a b : Rat} (ha : sm a) (hb : sm b) : sm (lq a b) := by unfold lq; split <;> assumption
theorem sm_gq {a b : Rat} (ha : sm a) (hb : sm b) : sm (gq a b) := by unfold gq; split <;> assumption
def loA (l : List S49) (y : Int) : Nat → Rat
  | 0 => ((2000 : Int) : Rat)
  | i + 1 => if inR l y i then lq (lq (loA l y i) (eX l y i)) (eZ l y i) else loA l y i
def hiA (l : List S49) (y : Int) : Nat → Rat
  | 0 => ((0 : Int) : Rat)
  | i + 1 => if inR l y i then gq (gq (hiA l y i) (eX l y i)) (eZ l y i) else hiA l y i
theorem sm_loA {l : List S49} {y : Int} (hb : inbox l) (hy : inb y) : ∀ i, i ≤ l.length → sm (loA l y i)
  | 0, _ => sm_int (by unfold inb; omega)
  | i + 1, h => by
    have ih := sm_loA hb hy i (by omega)
    unfold loA
    split
    · exact sm_lq (sm_lq ih (sm_eX hb (by omega) hy)) (sm_eZ hb (by omega) hy)
    · exact ih
theorem sm_hiA {l : List S49} {y : Int} (hb : inbox l) (hy : inb y) : ∀ i, i ≤ l.length → sm (hiA l y i)
  | 0, _ => sm_int (by unfold inb; omega)
  | i + 1, h => by
    have ih := sm_hiA hb hy i (by omega)
    unfold hiA
    split
    · exact sm_gq (sm_gq ih (sm_eX hb (by omega) hy)) (sm_eZ hb (by omega) hy)
    · exact ih
theorem specJ {l : List S49} {y : Int} {i : Nat} {lo hi x z : Rat} {R : Int × Int} (hlo : sm lo) (hhi : sm hi) (hx : sm x) (hz : sm z) (hi' : i < 9223372036854775807)
    (next : Ev (fun k => spec_l13Width.l0 k l y (l.length : Int) ((i + 1 : Nat) : Int) (lq (lq lo x) z).num ((lq (lq lo x) z).den : Int) (gq (gq hi x) z).num ((gq (gq hi x) z).den : Int)) R) :
    Ev (fun k => spec_l13Width.j1 k l y (l.length : Int) (i : Int) lo.num (lo.den : Int) hi.num (hi.den : Int) x.num (x.den : Int) z.num (z.den : Int)) R := by
  have s4 : ∀ (a b : Rat), sm b → b = gq hi x → a = lq (lq lo x) z → Ev (fun k => spec_l13Width.j4 k l y (l.length : Int) (i : Int) a.num (a.den : Int) b.num (b.den : Int) z.num (z.den : Int)) R := by
    intro a b hb eb ea
    refine ev_succ ?_
    simp only [spec_l13Width.j4]
    rw [lessQ hb hz, succ_cast i hi']
    simp only [Option.bind_some]
    rw [← ea, ← eb] at next
    by_cases h : b < z
    · rw [show gq b z = z from if_pos h] at next
      exact ev_if_pos (decide_eq_true h) next
    · rw [show gq b z = b from if_neg h] at next
      exact ev_if_neg (by rw [decide_eq_false h]; exact Bool.false_ne_true) next
  have s3 : ∀ a : Rat, a = lq (lq lo x) z → Ev (fun k => spec_l13Width.j3 k l y (l.length : Int) (i : Int) a.num (a.den : Int) hi.num (hi.den : Int) x.num (x.den : Int) z.num (z.den : Int)) R := by
    intro a ea
    refine ev_succ ?_
    simp only [spec_l13Width.j3]
    rw [lessQ hhi hx]
    simp only [Option.bind_some]
    by_cases h : hi < x
    · exact ev_if_pos (decide_eq_true h) (s4 a x hx (if_pos h).symm ea)
    · exact ev_if_neg (by rw [decide_eq_false h]; exact Bool.false_ne_true) (s4 a hi hhi (if_neg h).symm ea)
  have s2 : ∀ a : Rat, sm a → a = lq lo x → Ev (fun k => spec_l13Width.j2 k l y (l.length : Int) (i : Int) a.num (a.den : Int) hi.num (hi.den : Int) x.num (x.den : Int) z.num (z.den : Int)) R := by
    intro a ha ea
    refine ev_succ ?_
    simp only [spec_l13Width.j2]
    rw [lessQ hz ha]
    simp only [Option.bind_some]
    by_cases h : z < a
    · exact ev_if_pos (decide_eq_true h) (s3 z (by rw [← ea]; exact (if_pos h).symm))
    · exact ev_if_neg (by rw [decide_eq_false h]; exact Bool.false_ne_true) (s3 a (by rw [← ea]; exact (if_neg h).symm))
  refine ev_succ ?_
  simp only [spec_l13Width.j1]
  rw [lessQ hx hlo]
  simp only [Option.bind_some]
  by_cases h : x < lo
  · exact ev_if_pos (decide_eq_true h) (s2 x hx (if_pos h).symm)
  · exact ev_if_neg (by rw [decide_eq_false h]; exact Bool.false_ne_true) (s2 lo hlo (if_neg h).symm)
theorem sum_bd {p q : Rat} (hp : sm p) (hq : sm q) : (lcN p q).natAbs ≤ 9223372036854775807 ∧ (lcD p q).natAbs ≤ 9223372036854775807 := by
  have h1 := p.den_nz
  have h2 := q.den_nz
  obtain ⟨a1, a2⟩ := hp
  obtain ⟨b1, b2⟩ := hq
  have d1 : (p.den : Int) / (Int.gcd p.den q.den : Int) ≤ (p.den : Int) := Int.ediv_le_self _ (by omega)
  have d2 : (q.den : Int) / (Int.gcd p.den q.den : Int) ≤ (q.den : Int) := Int.ediv_le_self _ (by omega)
  have d3 : 0 ≤ (p.den : Int) / (Int.gcd p.den q.den : Int) := Int.ediv_nonneg (by omega) (by omega)
  have d4 : 0 ≤ (q.den : Int) / (Int.gcd p.den q.den : Int) := Int.ediv_nonneg (by omega) (by omega)
  unfold lcN lcD
  generalize (p.den : Int) / (Int.gcd p.den q.den : Int) = u at *
  generalize (q.den : Int) / (Int.gcd p.den q.den : Int) = v at *
  have m1 := mul_bound (a := p.num) (b := v) (A := 8000000) (B := 2000) (by omega) (by omega) (by omega) (by omega)
  have m2 := mul_bound (a := q.num) (b := u) (A := 8000000) (B := 2000) (by omega) (by omega) (by omega) (by omega)
  have m3 := mul_bound (a := u) (b := (q.den : Int)) (A := 2000) (B := 2000) (by omega) (by omega) (by omega) (by omega)
  omega
theorem sm_neg {q : Rat} (h : sm q) : sm (-q) := by
  obtain ⟨h1, h2⟩ := h
  refine ⟨?_, ?_⟩
  · rw [Rat.neg_num]; omega
  · rw [Rat.neg_den]; exact h2
theorem sumS {p q : Rat} (hp : sm p) (hq : sm q) : Ev (fun k => spec_l13Sum.f k p.num (p.den : Int) q.num (q.den : Int)) (frq (p + q)) := by
  obtain ⟨s1, s2⟩ := sum_bd hp hq
  exact sumE (p := p) (q := q) (by have := hp.1; omega) (by have := hp.2; omega) (by have := hq.1; omega) (by have := hq.2; omega) s1 s2
theorem addS {p q : Rat} (hp : sm p) (hq : sm q) : Ev (fun k => impl_addFractions.f k p.num (p.den : Int) q.num (q.den : Int)) (frq (p + q)) := by
  obtain ⟨s1, s2⟩ := sum_bd hp hq
  exact adE (p := p) (q := q) (by have := hp.1; omega) (by have := hp.2; omega) (by have := hq.1; omega) (by have := hq.2; omega) s1 s2
theorem neg_fr {q : Rat} (h : sm q) : wrap64 (-q.num) = (-q).num ∧ (q.den : Int) = ((-q).den : Int) := by
  obtain ⟨h1, h2⟩ := h
  rw [Rat.neg_num, Rat.neg_den]
  exact ⟨wrap_self (by omega), rfl⟩
theorem specWidth {l : List S49} {y : Int} (hb : inbox l) (hy : inb y) (h0 : 0 < l.length) (h8 : l.length ≤ 8) : Ev (fun k => spec_l13Width.f k l y) (frq (hiA l y l.length + -loA l y l.length)) := by
  unfold spec_l13Width.f
  have e0 : (loA l y 0).num = 2000 ∧ ((loA l y 0).den : Int) = 1 := ⟨Rat.num_intCast 2000, by rw [show (loA l y 0).den = 1 from Rat.den_intCast 2000]; rfl⟩
  have e1 : (hiA l y 0).num = 0 ∧ ((hiA l y 0).den : Int) = 1 := ⟨Rat.num_intCast 0, by rw [show (hiA l y 0).den = 1 from Rat.den_intCast 0]; rfl⟩
  have key := loop_up' (fun k i => spec_l13Width.l0 k l y (l.length : Int) (i : Int) (loA l y i).num ((loA l y i).den : Int) (hiA l y i).num ((hiA l y i).den : Int)) l.length (frq (hiA l y l.length + -loA l y l.length)) (fun _ => True) (fun i hi _ => .inl ⟨trivial, fun hn => ?_⟩) (fun _ => ?_) l.length 0 (by omega) (by omega) trivial
  · rw [e0.1, e0.2, e1.1, e1.2] at key
    exact key
  · have e : Int.tmod (wrap64 ((i : Int) + 1)) (l.length : Int) = ((nx l i 1 : Nat) : Int) := succ_mod i l.length (by omega) 1 (by omega)
    have hlt := nx_lt l i 1 (by omega)
    have slo := sm_loA hb hy i (by omega)
    have shi := sm_hiA hb hy i (by omega)
    refine ev_succ ?_
    simp only [spec_l13Width.l0]
    rw [e]
    refine ev_if_pos (by omega) (ev_if_pos (by omega) (ev_if_pos (by omega) (ev_if_neg (by omega) (ev_if_pos (by omega) (ev_if_pos (by omega) ?_)))))
    simp only [rdX, rdY, spec_min, spec_max, specIn, Option.bind_some]
    have el : loA l y (i + 1) = if inR l y i then lq (lq (loA l y i) (eX l y i)) (eZ l y i) else loA l y i := rfl
    have eh : hiA l y (i + 1) = if inR l y i then gq (gq (hiA l y i) (eX l y i)) (eZ l y i) else hiA l y i := rfl
    rw [el, eh] at hn
    by_cases hr : inR l y i
    · rw [if_pos hr, if_pos hr] at hn
      refine ev_if_pos (decide_eq_true hr) ?_
      by_cases hY : Y l i = Y l (nx l i 1)
      · refine ev_if_pos hY ?_
        have := specJ (l := l) (y := y) (i := i) slo shi (sm_eX hb hi hy) (sm_eZ hb hi hy) (by omega) hn
        rw [show eX l y i = ((X l i : Int) : Rat) from if_pos hY, show eZ l y i = ((X l (nx l i 1) : Int) : Rat) from if_pos hY, Rat.num_intCast, Rat.den_intCast, Rat.num_intCast, Rat.den_intCast] at this
        exact this
      · refine ev_if_neg hY (ev_bind (specAt hb hi hy hY) ?_)
        have := specJ (l := l) (y := y) (i := i) slo shi (sm_eX hb hi hy) (sm_eZ hb hi hy) (by omega) hn
        rw [show eX l y i = vQ l y i from if_neg hY, show eZ l y i = vQ l y i from if_neg hY] at this
        exact this
    · rw [if_neg hr, if_neg hr] at hn
      rw [succ_cast i (by omega)]
      exact ev_if_neg (fun h => hr (of_decide_eq_true h)) hn
  · have slo := sm_loA hb hy l.length (by omega)
    have shi := sm_hiA hb hy l.length (by omega)
    refine ev_succ ?_
    simp only [spec_l13Width.l0]
    rw [(neg_fr slo).1, (neg_fr slo).2]
    exact ev_if_neg (by omega) (ev_bind (sumS shi (sm_neg slo)) (ev_now fun _ => rfl))
/-! ### the places where corners and edges are at a height -/
def stc (l : List S49) (y : Int) (i : Nat) : Prop := (Y l i < y ∧ y < Y l (nx l i 1)) ∨ (Y l (nx l i 1) < y ∧ y < Y l i)
instance (l : List S49) (y : Int) (i : Nat) : Decidable (stc l y i) := by unfold stc; infer_instance
def plA (l : List S49) (y : Int) : Nat → List Rat
  | 0 => []
  | i + 1 => (plA l y i ++ if Y l i = y then [((X l i : Int) : Rat)] else []) ++ if stc l y i then [vQ l y i] else []
theorem pl_len (l : List S49) (y : Int) : ∀ i, (plA l y i).length ≤ 2 * i
  | 0 => Nat.le_refl 0
  | i + 1 => by
    have ih := pl_len l y i
    unfold plA
    rw [List.length_append, List.length_append]
    have a : (if Y l i = y then [((X l i : Int) : Rat)] else []).length ≤ 1 := by split <;> simp
    have b : (if stc l y i then [vQ l y i] else []).length ≤ 1 := by split <;> simp
    omega
theorem pl_mem (l : List S49) (y : Int) (q : Rat) : ∀ n, q ∈ plA l y n ↔ ∃ i, i < n ∧ ((Y l i = y ∧ q = ((X l i : Int) : Rat)) ∨ (stc l y i ∧ q = vQ l y i))
  | 0 => by simp [plA]
  | n + 1 => by
    have ih := pl_mem l y q n
    unfold plA
    rw [List.mem_append, List.mem_append, ih]
    constructor
    · rintro ((⟨i, h1, h2⟩ | h) | h)
      · exact ⟨i, by omega, h2⟩
      · by_cases e : Y l n = y
        · rw [if_pos e, List.mem_singleton] at h
          exact ⟨n, by omega, .inl ⟨e, h⟩⟩
        · rw [if_neg e] at h; exact absurd h List.not_mem_nil
      · by_cases e : stc l y n
        · rw [if_pos e, List.mem_singleton] at h
          exact ⟨n, by omega, .inr ⟨e, h⟩⟩
        · rw [if_neg e] at h; exact absurd h List.not_mem_nil
    · rintro ⟨i, h1, h2⟩
      rcases Nat.lt_or_ge i n with h3 | h3
      · exact .inl (.inl ⟨i, h3, h2⟩)
      · obtain rfl : i = n := by omega
        rcases h2 with ⟨e, h⟩ | ⟨e, h⟩
        · exact .inl (.inr (by rw [if_pos e, h]; exact List.mem_singleton.2 rfl))
        · exact .inr (by rw [if_pos e, h]; exact List.mem_singleton.2 rfl)
theorem stc_ne {l : List S49} {y : Int} {i : Nat} (h : stc l y i) : Y l i ≠ Y l (nx l i 1) := by unfold stc at h; omega
theorem pl_sm {l : List S49} {y : Int} (hb : inbox l) (hy : inb y) {n : Nat} (hn : n ≤ l.length) : ∀ q ∈ plA l y n, sm q := by
  intro q hq
  obtain ⟨i, h1, h2⟩ := (pl_mem l y q n).1 hq
  rcases h2 with ⟨_, rfl⟩ | ⟨h2, rfl⟩
  · exact sm_int (hb i (by omega)).1
  · exact sm_vQ hb (by omega) hy (stc_ne h2)
theorem frq_int (x : Int) : frq ((x : Int) : Rat) = (x, 1) := by
  unfold frq
  rw [Rat.num_intCast, Rat.den_intCast]
  rfl
theorem fracX {x : Int} (h : inb x) : Ev (fun k => impl_fraction.f k x 1) (x, 1) := by
  unfold inb at h
  have := fracQ (q := ((x : Int) : Rat)) (n := x) (d := 1) (by simp) (by omega) (by omega) (by decide)
  rwa [frq_int] at this
theorem implJ {l : List S49} {y : Int} {i : Nat} {P : List Rat} {R : Int × Int} (hb : inbox l) (hi : i < l.length) (hy : inb y) (hP : P.length ≤ 1000) (hi8 : i ≤ 1000)
    (next : Ev (fun k => impl_widthAt.l0 k l y ((P ++ if stc l y i then [vQ l y i] else []).map fS) l (l.length : Int) ((i + 1 : Nat) : Int)) R) :
    Ev (fun k => impl_widthAt.j1 k l y (P.map fS) l (l.length : Int) (i : Int) (X l i) (Y l i) (X l (nx l i 1)) (Y l (nx l i 1))) R := by
  have b0 := hb i hi
  have b1 := hb _ (nx_lt l i 1 (by omega))
  have x0 := b0.1
  have y0 := b0.2
  have x1 := b1.1
  have y1 := b1.2
  have hy' := hy
  unfold inb at x0 y0 x1 y1 hy'
  have no : ¬ stc l y i → Ev (fun k => impl_widthAt.j2 k l y (P.map fS) l (l.length : Int) (i : Int) false (X l i) (Y l i) (X l (nx l i 1)) (Y l (nx l i 1))) R := by
    intro h
    rw [if_neg h, List.append_nil] at next
    refine ev_succ ?_
    simp only [impl_widthAt.j2]
    rw [succ_cast i (by omega)]
    exact ev_if_neg Bool.false_ne_true next
  have yes : stc l y i → Ev (fun k => impl_widthAt.j2 k l y (P.map fS) l (l.length : Int) (i : Int) true (X l i) (Y l i) (X l (nx l i 1)) (Y l (nx l i 1))) R := by
    intro h
    have hne := stc_ne h
    rw [if_pos h, List.map_append] at next
    have m1 := mul_bound (a := X l (nx l i 1) - X l i) (b := y - Y l i) (A := 2000) (B := 2000) (by omega) (by omega) (by omega) (by omega)
    have hD : Y l (nx l i 1) - Y l i ≠ 0 := by omega
    have hDr : ((Y l (nx l i 1) - Y l i : Int) : Rat) ≠ 0 := cast_ne hD
    have hw : (((X l (nx l i 1) - X l i) * (y - Y l i) : Int) : Rat) / ((Y l (nx l i 1) - Y l i : Int) : Rat) * ((Y l (nx l i 1) - Y l i : Int) : Rat) = (((X l (nx l i 1) - X l i) * (y - Y l i) : Int) : Rat) := by grind
    have sw : sm ((((X l (nx l i 1) - X l i) * (y - Y l i) : Int) : Rat) / ((Y l (nx l i 1) - Y l i : Int) : Rat)) := by
      obtain ⟨h3, h4⟩ := frq_bound hD hw
      exact ⟨by omega, by omega⟩
    have es : ((X l i : Int) : Rat) + (((X l (nx l i 1) - X l i) * (y - Y l i) : Int) : Rat) / ((Y l (nx l i 1) - Y l i : Int) : Rat) = vQ l y i := by
      unfold vQ vN vD
      simp only [Rat.intCast_mul, Rat.intCast_add, Rat.intCast_sub] at hDr ⊢
      grind
    have ha := addS (sm_int b0.1) sw
    rw [es, Rat.num_intCast, Rat.den_intCast] at ha
    refine ev_succ ?_
    simp only [impl_widthAt.j2]
    rw [wrap_in (x := X l (nx l i 1) - X l i) (by omega) (by omega), wrap_in (x := y - Y l i) (by omega) (by omega), wrap_in (x := (X l (nx l i 1) - X l i) * (y - Y l i)) (by omega) (by omega), wrap_in (x := Y l (nx l i 1) - Y l i) (by omega) (by omega), succ_cast i (by omega), List.length_map]
    refine ev_if_pos trivial (ev_bind (fracX b0.1) (ev_bind (fracQ hw (by omega) hD (by omega)) (ev_bind ha (ev_if_pos (by omega) ?_))))
    exact next
  refine ev_succ ?_
  simp only [impl_widthAt.j1]
  by_cases h1 : Y l i < y
  · rw [decide_eq_true h1]
    by_cases h2 : Y l (nx l i 1) < y
    · rw [decide_eq_true h2]
      exact ev_if_neg (by decide) (no (by unfold stc; omega))
    · rw [decide_eq_false h2]
      refine ev_if_pos (by decide) (ev_if_neg (by omega) ?_)
      by_cases h3 : Y l (nx l i 1) = y
      · rw [bne_eq_false_iff_eq.mpr h3]
        exact no (by unfold stc; omega)
      · rw [bne_iff_ne.mpr h3]
        exact yes (by unfold stc; omega)
  · rw [decide_eq_false h1]
    by_cases h2 : Y l (nx l i 1) < y
    · rw [decide_eq_true h2]
      refine ev_if_pos (by decide) ?_
      by_cases h3 : Y l i = y
      · exact ev_if_pos h3 (no (by unfold stc; omega))
      · refine ev_if_neg h3 ?_
        rw [bne_iff_ne.mpr (show Y l (nx l i 1) ≠ y from by omega)]
        exact yes (by unfold stc; omega)
    · rw [decide_eq_false h2]
      exact ev_if_neg (by decide) (no (by unfold stc; omega))
theorem implWidth0 {l : List S49} {y : Int} (hb : inbox l) (hy : inb y) (h0 : 0 < l.length) (h8 : l.length ≤ 8) (hne : 0 < (plA l y l.length).length) :
    Ev (fun k => impl_widthAt.f k l y) (frq (mxI (plA l y l.length) (plA l y l.length).length + -mnI (plA l y l.length) (plA l y l.length).length)) := by
  unfold impl_widthAt.f
  refine loop_up' (fun k i => impl_widthAt.l0 k l y ((plA l y i).map fS) l (l.length : Int) (i : Int)) l.length _ (fun _ => True) (fun i hi _ => .inl ⟨trivial, fun hn => ?_⟩) (fun _ => ?_) l.length 0 (by omega) (by omega) trivial
  · have e : Int.tmod (wrap64 ((i : Int) + 1)) (l.length : Int) = ((nx l i 1 : Nat) : Int) := succ_mod i l.length (by omega) 1 (by omega)
    have hlt := nx_lt l i 1 (by omega)
    have hlen := pl_len l y i
    have ep : plA l y (i + 1) = (plA l y i ++ if Y l i = y then [((X l i : Int) : Rat)] else []) ++ if stc l y i then [vQ l y i] else [] := rfl
    rw [ep] at hn
    have hj := implJ (l := l) (y := y) (i := i) (P := plA l y i ++ if Y l i = y then [((X l i : Int) : Rat)] else []) hb hi hy (by
      rw [List.length_append]
      have a : (if Y l i = y then [((X l i : Int) : Rat)] else []).length ≤ 1 := by split <;> simp
      omega) (by omega) hn
    refine ev_succ ?_
    simp only [impl_widthAt.l0]
    rw [e]
    refine ev_if_pos (by omega) (ev_if_pos (by omega) (ev_if_pos (by omega) (ev_if_neg (by omega) (ev_if_pos (by omega) (ev_if_pos (by omega) ?_)))))
    simp only [rdX, rdY]
    by_cases hY : Y l i = y
    · rw [if_pos hY, List.map_append] at hj
      refine ev_if_pos hY (ev_bind (fracX (hb i hi).1) (ev_if_pos (by rw [List.length_map]; omega) ?_))
      have ef : fS ((X l i : Int) : Rat) = ⟨X l i, 1⟩ := by unfold fS; rw [Rat.num_intCast, Rat.den_intCast]; rfl
      rw [show List.map fS [((X l i : Int) : Rat)] = [⟨X l i, 1⟩] from by rw [List.map_cons, ef]; rfl] at hj
      exact hj
    · rw [if_neg hY, List.append_nil] at hj
      exact ev_if_neg hY hj
  · have hsm := pl_sm hb hy (n := l.length) (Nat.le_refl _)
    have hlen := pl_len l y l.length
    obtain ⟨j, j1, j2⟩ := mnI_mem (plA l y l.length) (plA l y l.length).length hne
    obtain ⟨j', j1', j2'⟩ := mxI_mem (plA l y l.length) (plA l y l.length).length hne
    have smn : sm (mnI (plA l y l.length) (plA l y l.length).length) := by rw [j2]; exact getD_of sm hsm j1
    have smx : sm (mxI (plA l y l.length) (plA l y l.length).length) := by rw [j2']; exact getD_of sm hsm j1'
    have a1 := minE (plA l y l.length) hne (by omega) hsm
    have a2 := maxE (plA l y l.length) hne (by omega) hsm
    have a3 := addS smx (sm_neg smn)
    rw [← (neg_fr smn).1, ← (neg_fr smn).2] at a3
    refine ev_succ ?_
    simp only [impl_widthAt.l0]
    exact ev_if_neg (by omega) (ev_bind a1 (ev_bind a2 (ev_bind a3 (ev_now fun _ => rfl))))
/-! ### both find the same places -/
theorem vQ_left {l : List S49} {y : Int} {i : Nat} (h : Y l i ≠ Y l (nx l i 1)) (e : Y l i = y) : vQ l y i = ((X l i : Int) : Rat) := by
  have h0 : ((vD l i : Int) : Rat) ≠ 0 := cast_ne (by unfold vD; omega)
  have hv := vQ_val (y := y) h
  have e1 : vN l y i = X l i * vD l i := by unfold vN vD; rw [e, Int.sub_self, Int.mul_zero, Int.add_zero]
  rw [e1, Rat.intCast_mul] at hv
  grind
theorem vQ_right {l : List S49} {y : Int} {i : Nat} (h : Y l i ≠ Y l (nx l i 1)) (e : Y l (nx l i 1) = y) : vQ l y i = ((X l (nx l i 1) : Int) : Rat) := by
  have h0 : ((vD l i : Int) : Rat) ≠ 0 := cast_ne (by unfold vD; omega)
  have hv := vQ_val (y := y) h
  have e1 : vN l y i = X l (nx l i 1) * vD l i := by unfold vN vD; rw [e, Int.sub_self, Int.mul_zero, Int.zero_add]
  rw [e1, Rat.intCast_mul] at hv
  grind
theorem e_mem {l : List S49} {y : Int} {i : Nat} (hi : i < l.length) (hr : inR l y i) : eX l y i ∈ plA l y l.length ∧ eZ l y i ∈ plA l y l.length := by
  have hn := nx_lt l i 1 (by omega)
  unfold inR at hr
  unfold eX eZ
  by_cases h : Y l i = Y l (nx l i 1)
  · rw [if_pos h, if_pos h]
    exact ⟨(pl_mem _ _ _ _).2 ⟨i, hi, .inl ⟨by omega, rfl⟩⟩, (pl_mem _ _ _ _).2 ⟨nx l i 1, hn, .inl ⟨by omega, rfl⟩⟩⟩
  · rw [if_neg h, if_neg h]
    have key : vQ l y i ∈ plA l y l.length := by
      by_cases h1 : Y l i = y
      · rw [vQ_left h h1]
        exact (pl_mem _ _ _ _).2 ⟨i, hi, .inl ⟨h1, rfl⟩⟩
      · by_cases h2 : Y l (nx l i 1) = y
        · rw [vQ_right h h2]
          exact (pl_mem _ _ _ _).2 ⟨nx l i 1, hn, .inl ⟨h2, rfl⟩⟩
        · exact (pl_mem _ _ _ _).2 ⟨i, hi, .inr ⟨by unfold stc; omega, rfl⟩⟩
    exact ⟨key, key⟩
theorem mem_e {l : List S49} {y : Int} {q : Rat} (hq : q ∈ plA l y l.length) : ∃ i, i < l.length ∧ inR l y i ∧ q = eX l y i := by
  obtain ⟨i, hi, h⟩ := (pl_mem _ _ _ _).1 hq
  refine ⟨i, hi, ?_⟩
  unfold inR eX
  rcases h with ⟨e, rfl⟩ | ⟨e, rfl⟩
  · refine ⟨by omega, ?_⟩
    by_cases h : Y l i = Y l (nx l i 1)
    · rw [if_pos h]
    · rw [if_neg h, vQ_left h e]
  · have hne := stc_ne e
    unfold stc at e
    refine ⟨by omega, ?_⟩
    rw [if_neg hne]
theorem lq_le (a b : Rat) : lq a b ≤ a ∧ lq a b ≤ b ∧ (lq a b = a ∨ lq a b = b) := by
  unfold lq
  split
  · rename_i h; exact ⟨Rat.le_of_lt h, Rat.le_refl, .inr rfl⟩
  · rename_i h; exact ⟨Rat.le_refl, Rat.not_lt.1 h, .inl rfl⟩
theorem gq_le (a b : Rat) : a ≤ gq a b ∧ b ≤ gq a b ∧ (gq a b = a ∨ gq a b = b) := by
  unfold gq
  split
  · rename_i h; exact ⟨Rat.le_of_lt h, Rat.le_refl, .inr rfl⟩
  · rename_i h; exact ⟨Rat.le_refl, Rat.not_lt.1 h, .inl rfl⟩
theorem lo_spec (l : List S49) (y : Int) : ∀ n, (∀ i, i < n → inR l y i → loA l y n ≤ eX l y i ∧ loA l y n ≤ eZ l y i) ∧ (loA l y n = ((2000 : Int) : Rat) ∨ ∃ i, i < n ∧ inR l y i ∧ (loA l y n = eX l y i ∨ loA l y n = eZ l y i))
  | 0 => ⟨fun i hi => by omega, .inl rfl⟩
  | n + 1 => by
    obtain ⟨ih1, ih2⟩ := lo_spec l y n
    have e : loA l y (n + 1) = if inR l y n then lq (lq (loA l y n) (eX l y n)) (eZ l y n) else loA l y n := rfl
    by_cases hr : inR l y n
    · rw [if_pos hr] at e
      obtain ⟨a1, a2, a3⟩ := lq_le (loA l y n) (eX l y n)
      obtain ⟨b1, b2, b3⟩ := lq_le (lq (loA l y n) (eX l y n)) (eZ l y n)
      rw [← e] at b1 b2 b3
      have c := Rat.le_trans b1 a1
      refine ⟨fun i hi hri => ?_, ?_⟩
      · rcases Nat.lt_or_ge i n with h | h
        · obtain ⟨d1, d2⟩ := ih1 i h hri
          exact ⟨Rat.le_trans c d1, Rat.le_trans c d2⟩
        · obtain rfl : i = n := by omega
          exact ⟨Rat.le_trans b1 a2, b2⟩
      · rcases b3 with b3 | b3
        · rcases a3 with a3 | a3
          · rcases ih2 with d | ⟨i, i1, i2, i3⟩
            · exact .inl (b3.trans (a3.trans d))
            · exact .inr ⟨i, by omega, i2, by rw [b3, a3]; exact i3⟩
          · exact .inr ⟨n, by omega, hr, .inl (b3.trans a3)⟩
        · exact .inr ⟨n, by omega, hr, .inr b3⟩
    · rw [if_neg hr] at e
      rw [e]
      refine ⟨fun i hi hri => ?_, ?_⟩
      · rcases Nat.lt_or_ge i n with h | h
        · exact ih1 i h hri
        · obtain rfl : i = n := by omega
          exact absurd hri hr
      · rcases ih2 with d | ⟨i, i1, i2, i3⟩
        · exact .inl d
        · exact .inr ⟨i, by omega, i2, i3⟩
theorem hi_spec (l : List S49) (y : Int) : ∀ n, (∀ i, i < n → inR l y i → eX l y i ≤ hiA l y n ∧ eZ l y i ≤ hiA l y n) ∧ (hiA l y n = ((0 : Int) : Rat) ∨ ∃ i, i < n ∧ inR l y i ∧ (hiA l y n = eX l y i ∨ hiA l y n = eZ l y i))
  | 0 => ⟨fun i hi => by omega, .inl rfl⟩
  | n + 1 => by
    obtain ⟨ih1, ih2⟩ := hi_spec l y n
    have e : hiA l y (n + 1) = if inR l y n then gq (gq (hiA l y n) (eX l y n)) (eZ l y n) else hiA l y n := rfl
    by_cases hr : inR l y n
    · rw [if_pos hr] at e
      obtain ⟨a1, a2, a3⟩ := gq_le (hiA l y n) (eX l y n)
      obtain ⟨b1, b2, b3⟩ := gq_le (gq (hiA l y n) (eX l y n)) (eZ l y n)
      rw [← e] at b1 b2 b3
      have c := Rat.le_trans a1 b1
      refine ⟨fun i hi hri => ?_, ?_⟩
      · rcases Nat.lt_or_ge i n with h | h
        · obtain ⟨d1, d2⟩ := ih1 i h hri
          exact ⟨Rat.le_trans d1 c, Rat.le_trans d2 c⟩
        · obtain rfl : i = n := by omega
          exact ⟨Rat.le_trans a2 b1, b2⟩
      · rcases b3 with b3 | b3
        · rcases a3 with a3 | a3
          · rcases ih2 with d | ⟨i, i1, i2, i3⟩
            · exact .inl (b3.trans (a3.trans d))
            · exact .inr ⟨i, by omega, i2, by rw [b3, a3]; exact i3⟩
          · exact .inr ⟨n, by omega, hr, .inl (b3.trans a3)⟩
        · exact .inr ⟨n, by omega, hr, .inr b3⟩
    · rw [if_neg hr] at e
      rw [e]
      refine ⟨fun i hi hri => ?_, ?_⟩
      · rcases Nat.lt_or_ge i n with h | h
        · exact ih1 i h hri
        · obtain rfl : i = n := by omega
          exact absurd hri hr
      · rcases ih2 with d | ⟨i, i1, i2, i3⟩
        · exact .inl d
        · exact .inr ⟨i, by omega, i2, i3⟩
theorem int_le {a b : Int} (h : a ≤ b) : ((a : Int) : Rat) ≤ ((b : Int) : Rat) := by
  rw [Rat.le_iff, Rat.num_intCast, Rat.den_intCast, Rat.num_intCast, Rat.den_intCast]
  omega
theorem q_box {q : Rat} {N D : Int} (hD : 0 < D) (hv : q * (D : Rat) = (N : Rat)) (h0 : 0 ≤ N) (h1 : N ≤ 2000 * D) : ((0 : Int) : Rat) ≤ q ∧ q ≤ ((2000 : Int) : Rat) := by
  obtain ⟨t, t0, e1, e2⟩ := frq_dvd (by omega) hv
  have hd : 0 < (q.den : Int) := by have := q.den_nz; omega
  have ht : 0 < t := by
    rw [e2] at hD
    exact Int.pos_of_mul_pos_right hD (by omega)
  rw [Rat.le_iff, Rat.le_iff, Rat.num_intCast, Rat.den_intCast, Rat.num_intCast, Rat.den_intCast]
  constructor
  · have : 0 * t ≤ q.num * t := by rw [Int.zero_mul, ← e1]; exact h0
    have := Int.le_of_mul_le_mul_right this ht
    omega
  · have h2 : q.num * t ≤ (2000 * (q.den : Int)) * t := by rw [Int.mul_assoc, ← e1, ← e2]; exact h1
    have := Int.le_of_mul_le_mul_right h2 ht
    omega
theorem pl_box {l : List S49} {y : Int} (hb : inbox l) {q : Rat} (hq : q ∈ plA l y l.length) : ((0 : Int) : Rat) ≤ q ∧ q ≤ ((2000 : Int) : Rat) := by
  obtain ⟨i, hi, h⟩ := (pl_mem _ _ _ _).1 hq
  have b0 := hb i hi
  have b1 := hb _ (nx_lt l i 1 (by omega))
  have x0 := b0.1
  have x1 := b1.1
  unfold inb at x0 x1
  rcases h with ⟨_, rfl⟩ | ⟨e, rfl⟩
  · exact ⟨int_le x0.1, int_le x0.2⟩
  · have hv := vQ_val (y := y) (stc_ne e)
    have up : ∀ a b : Int, 0 ≤ a → 0 ≤ b → 0 ≤ X l i * a + X l (nx l i 1) * b ∧ X l i * a + X l (nx l i 1) * b ≤ 2000 * (a + b) := by
      intro a b ha hb'
      have p1 := Int.mul_nonneg x0.1 ha
      have p2 := Int.mul_nonneg x1.1 hb'
      have p3 := Int.mul_le_mul_of_nonneg_right x0.2 ha
      have p4 := Int.mul_le_mul_of_nonneg_right x1.2 hb'
      omega
    rcases e with ⟨e1, e2⟩ | ⟨e1, e2⟩
    · obtain ⟨u1, u2⟩ := up (Y l (nx l i 1) - y) (y - Y l i) (by omega) (by omega)
      exact q_box (by unfold vD; omega) hv u1 (by unfold vN vD; omega)
    · obtain ⟨u1, u2⟩ := up (y - Y l (nx l i 1)) (Y l i - y) (by omega) (by omega)
      have hv2 : vQ l y i * ((-vD l i : Int) : Rat) = ((-vN l y i : Int) : Rat) := by
        simp only [Rat.intCast_neg]; grind
      have en : -vN l y i = X l i * (y - Y l (nx l i 1)) + X l (nx l i 1) * (Y l i - y) := by unfold vN; grind
      exact q_box (by unfold vD; omega) hv2 (by rw [en]; exact u1) (by rw [en]; unfold vD; omega)
theorem lo_mem (l : List S49) : ∀ n, ∃ j, (j < n ∨ j = 0) ∧ lo l n = Y l j
  | 0 => ⟨0, .inr rfl, rfl⟩
  | n + 1 => by
    obtain ⟨j, h1, h2⟩ := lo_mem l n
    show ∃ j, (j < n + 1 ∨ j = 0) ∧ min (lo l n) (Y l n) = Y l j
    rcases Int.le_total (lo l n) (Y l n) with h | h
    · exact ⟨j, by omega, by omega⟩
    · exact ⟨n, by omega, by omega⟩
theorem hi_mem (l : List S49) : ∀ n, ∃ j, (j < n ∨ j = 0) ∧ hi l n = Y l j
  | 0 => ⟨0, .inr rfl, rfl⟩
  | n + 1 => by
    obtain ⟨j, h1, h2⟩ := hi_mem l n
    show ∃ j, (j < n + 1 ∨ j = 0) ∧ max (hi l n) (Y l n) = Y l j
    rcases Int.le_total (hi l n) (Y l n) with h | h
    · exact ⟨n, by omega, by omega⟩
    · exact ⟨j, by omega, by omega⟩
theorem nx_succ {l : List S49} {i : Nat} (h : i + 1 < l.length) : nx l i 1 = i + 1 := by unfold nx; exact Nat.mod_eq_of_lt h
theorem pl_ne {l : List S49} {y : Int} (h0 : 0 < l.length) (h1 : lo l l.length ≤ y) (h2 : y ≤ hi l l.length) : 0 < (plA l y l.length).length := by
  rcases Nat.eq_zero_or_pos (plA l y l.length).length with h | h
  · exfalso
    have hnil := List.length_eq_zero_iff.mp h
    have no : ∀ i, i < l.length → Y l i ≠ y ∧ ¬ stc l y i := fun i hi => by
      refine ⟨fun e => ?_, fun e => ?_⟩
      · have : ((X l i : Int) : Rat) ∈ plA l y l.length := (pl_mem _ _ _ _).2 ⟨i, hi, .inl ⟨e, rfl⟩⟩
        rw [hnil] at this; exact absurd this List.not_mem_nil
      · have : vQ l y i ∈ plA l y l.length := (pl_mem _ _ _ _).2 ⟨i, hi, .inr ⟨e, rfl⟩⟩
        rw [hnil] at this; exact absurd this List.not_mem_nil
    have side : ∀ i, i < l.length → (Y l i < y ↔ Y l 0 < y) := by
      intro i
      induction i with
      | zero => intro _; exact Iff.rfl
      | succ i ih =>
        intro hi
        have a := ih (by omega)
        have n1 := no i (by omega)
        have n2 := no (i + 1) hi
        have hs := n1.2
        unfold stc at hs
        rw [nx_succ hi] at hs
        omega
    obtain ⟨j, j1, j2⟩ := lo_mem l l.length
    obtain ⟨m, m1, m2⟩ := hi_mem l l.length
    have hj : j < l.length := by omega
    have hm : m < l.length := by omega
    have a := side j hj
    have b := side m hm
    have c := (no j hj).1
    have d := (no m hm).1
    omega
  · exact h
theorem width_same {l : List S49} {y : Int} (hb : inbox l) (hne : 0 < (plA l y l.length).length) :
    loA l y l.length = mnI (plA l y l.length) (plA l y l.length).length ∧ hiA l y l.length = mxI (plA l y l.length) (plA l y l.length).length := by
  have hget : ∀ j, j < (plA l y l.length).length → (plA l y l.length).getD j 0 ∈ plA l y l.length := fun j hj => by
    rw [List.getD_eq_getElem?_getD, List.getElem?_eq_getElem hj]; exact List.getElem_mem hj
  have hidx : ∀ q, q ∈ plA l y l.length → ∃ j, j < (plA l y l.length).length ∧ (plA l y l.length).getD j 0 = q := fun q hq => by
    obtain ⟨j, hj, e⟩ := List.getElem_of_mem hq
    exact ⟨j, hj, by rw [List.getD_eq_getElem?_getD, List.getElem?_eq_getElem hj]; exact e⟩
  obtain ⟨s1, s2⟩ := lo_spec l y l.length
  obtain ⟨t1, t2⟩ := hi_spec l y l.length
  obtain ⟨j, j1, j2⟩ := mnI_mem (plA l y l.length) (plA l y l.length).length hne
  obtain ⟨m, m1, m2⟩ := mxI_mem (plA l y l.length) (plA l y l.length).length hne
  have mn_le : ∀ q, q ∈ plA l y l.length → mnI (plA l y l.length) (plA l y l.length).length ≤ q := fun q hq => by
    obtain ⟨a, ha, e⟩ := hidx q hq
    rw [← e]; exact mnI_le _ _ a ha
  have mx_le : ∀ q, q ∈ plA l y l.length → q ≤ mxI (plA l y l.length) (plA l y l.length).length := fun q hq => by
    obtain ⟨a, ha, e⟩ := hidx q hq
    rw [← e]; exact mxI_le _ _ a ha
  have mnin : mnI (plA l y l.length) (plA l y l.length).length ∈ plA l y l.length := by rw [j2]; exact hget j j1
  have mxin : mxI (plA l y l.length) (plA l y l.length).length ∈ plA l y l.length := by rw [m2]; exact hget m m1
  constructor
  · refine Rat.le_antisymm ?_ ?_
    · obtain ⟨i, i1, i2, i3⟩ := mem_e mnin
      rw [i3]; exact (s1 i i1 i2).1
    · rcases s2 with e | ⟨i, i1, i2, e | e⟩
      · rw [e]; exact (pl_box hb mnin).2
      · rw [e]; exact mn_le _ (e_mem i1 i2).1
      · rw [e]; exact mn_le _ (e_mem i1 i2).2
  · refine Rat.le_antisymm ?_ ?_
    · rcases t2 with e | ⟨i, i1, i2, e | e⟩
      · rw [e]; exact (pl_box hb mxin).1
      · rw [e]; exact mx_le _ (e_mem i1 i2).1
      · rw [e]; exact mx_le _ (e_mem i1 i2).2
    · obtain ⟨i, i1, i2, i3⟩ := mem_e mxin
      rw [i3]; exact (t1 i i1 i2).1
/-! ### convex sails: widths are concave -/
def GC (l : List S49) : Prop := ∀ i, i < l.length → ∀ k, k < l.length → 0 ≤ crs (X l i) (Y l i) (X l (nx l i 1)) (Y l (nx l i 1)) (X l k) (Y l k)
instance (l : List S49) : Decidable (GC l) := by unfold GC; infer_instance
theorem gc3 {l : List S49} (h : l.length = 3) (hB : Bul l) : GC l := by
  intro i hi k hk
  have b0 := hB 0 (by omega)
  have b1 := hB 1 (by omega)
  have b2 := hB 2 (by omega)
  simp only [cr, nx, h, crs] at b0 b1 b2 ⊢
  have ei : i = 0 ∨ i = 1 ∨ i = 2 := by omega
  have ek : k = 0 ∨ k = 1 ∨ k = 2 := by omega
  rcases ei with rfl | rfl | rfl <;> rcases ek with rfl | rfl | rfl <;> simp only [Nat.reduceAdd, Nat.reduceMod] at b0 b1 b2 ⊢ <;> grind
theorem gc4 {l : List S49} (h : l.length = 4) (hB : Bul l) : GC l := by
  intro i hi k hk
  have b0 := hB 0 (by omega)
  have b1 := hB 1 (by omega)
  have b2 := hB 2 (by omega)
  have b3 := hB 3 (by omega)
  simp only [cr, nx, h, crs] at b0 b1 b2 b3 ⊢
  have ei : i = 0 ∨ i = 1 ∨ i = 2 ∨ i = 3 := by omega
  have ek : k = 0 ∨ k = 1 ∨ k = 2 ∨ k = 3 := by omega
  rcases ei with rfl | rfl | rfl | rfl <;> rcases ek with rfl | rfl | rfl | rfl <;> simp only [Nat.reduceAdd, Nat.reduceMod] at b0 b1 b2 b3 ⊢ <;> grind
theorem int_lt {a b : Int} (h : a < b) : ((a : Int) : Rat) < ((b : Int) : Rat) := by
  rw [Rat.lt_iff, Rat.num_intCast, Rat.den_intCast, Rat.num_intCast, Rat.den_intCast]
  omega
theorem nx_nx {l : List S49} (p j : Nat) : nx l ((p + j) % l.length) 1 = (p + (j + 1)) % l.length := by
  unfold nx; rw [Nat.mod_add_mod, Nat.add_assoc]
theorem up_at {l : List S49} {y : Int} {p : Nat} (hp : p < l.length) (h : Y l p < y) : ∀ j, y ≤ Y l ((p + j) % l.length) → ∃ i, i < l.length ∧ Y l i < y ∧ y ≤ Y l (nx l i 1)
  | 0, hj => by rw [Nat.add_zero, Nat.mod_eq_of_lt hp] at hj; omega
  | j + 1, hj => by
    by_cases hc : y ≤ Y l ((p + j) % l.length)
    · exact up_at hp h j hc
    · exact ⟨(p + j) % l.length, Nat.mod_lt _ (by omega), by omega, by rw [nx_nx]; exact hj⟩
theorem dn_at {l : List S49} {y : Int} {p : Nat} (hp : p < l.length) (h : y < Y l p) : ∀ j, Y l ((p + j) % l.length) ≤ y → ∃ i, i < l.length ∧ y < Y l i ∧ Y l (nx l i 1) ≤ y
  | 0, hj => by rw [Nat.add_zero, Nat.mod_eq_of_lt hp] at hj; omega
  | j + 1, hj => by
    by_cases hc : Y l ((p + j) % l.length) ≤ y
    · exact dn_at hp h j hc
    · exact ⟨(p + j) % l.length, Nat.mod_lt _ (by omega), by omega, by rw [nx_nx]; exact hj⟩
theorem from_to {n p q : Nat} (hp : p < n) (hq : q < n) : (p + (n - p + q)) % n = q := by
  rw [show p + (n - p + q) = q + n from by omega, Nat.add_mod_right, Nat.mod_eq_of_lt hq]
theorem up_edge {l : List S49} {y : Int} (h0 : 0 < l.length) (h1 : lo l l.length < y) (h2 : y < hi l l.length) : ∃ i, i < l.length ∧ Y l i < y ∧ y ≤ Y l (nx l i 1) := by
  obtain ⟨p, p1, p2⟩ := lo_mem l l.length
  obtain ⟨q, q1, q2⟩ := hi_mem l l.length
  have hp : p < l.length := by omega
  have hq : q < l.length := by omega
  exact up_at hp (by omega) (l.length - p + q) (by rw [from_to hp hq]; omega)
theorem dn_edge {l : List S49} {y : Int} (h0 : 0 < l.length) (h1 : lo l l.length < y) (h2 : y < hi l l.length) : ∃ i, i < l.length ∧ y < Y l i ∧ Y l (nx l i 1) ≤ y := by
  obtain ⟨p, p1, p2⟩ := lo_mem l l.length
  obtain ⟨q, q1, q2⟩ := hi_mem l l.length
  have hp : p < l.length := by omega
  have hq : q < l.length := by omega
  exact dn_at hq (by omega) (l.length - q + p) (by rw [from_to hq hp]; omega)
/-- how far a place at height y is to the left of an edge -/
def sd (l : List S49) (i : Nat) (q : Rat) (y : Int) : Rat := ((X l (nx l i 1) - X l i : Int) : Rat) * ((y - Y l i : Int) : Rat) - ((Y l (nx l i 1) - Y l i : Int) : Rat) * (q - ((X l i : Int) : Rat))
theorem sd_at {l : List S49} (hG : GC l) {i k : Nat} (hi : i < l.length) (hk : k < l.length) : 0 ≤ sd l i ((X l k : Int) : Rat) (Y l k) := by
  have h := int_le (hG i hi k hk)
  unfold sd
  unfold crs at h
  simp only [Rat.intCast_mul, Rat.intCast_add, Rat.intCast_sub] at h ⊢
  exact h
theorem sd_conv {l : List S49} (hG : GC l) {i j : Nat} {y : Int} (hi : i < l.length) (hj : j < l.length) (hr : inR l y j) (hne : Y l j ≠ Y l (nx l j 1)) : 0 ≤ sd l i (vQ l y j) y := by
  have hv := vQ_val (y := y) hne
  have a := sd_at hG hi hj
  have b := sd_at hG hi (nx_lt l j 1 (by omega))
  have h0 : ((vD l j : Int) : Rat) ≠ 0 := cast_ne (by unfold vD; omega)
  have e : ((vD l j : Int) : Rat) * sd l i (vQ l y j) y = ((Y l (nx l j 1) - y : Int) : Rat) * sd l i ((X l j : Int) : Rat) (Y l j) + ((y - Y l j : Int) : Rat) * sd l i ((X l (nx l j 1) : Int) : Rat) (Y l (nx l j 1)) := by
    unfold sd
    unfold vD vN at hv
    unfold vD
    simp only [Rat.intCast_mul, Rat.intCast_add, Rat.intCast_sub] at hv ⊢
    grind
  unfold inR at hr
  by_cases hd : Y l j < Y l (nx l j 1)
  · have p0 : (0 : Rat) < ((vD l j : Int) : Rat) := int_lt (a := 0) (by unfold vD; omega)
    have p1 : (0 : Rat) ≤ ((Y l (nx l j 1) - y : Int) : Rat) := int_le (a := 0) (by omega)
    have p2 : (0 : Rat) ≤ ((y - Y l j : Int) : Rat) := int_le (a := 0) (by omega)
    have m1 := Rat.mul_nonneg p1 a
    have m2 := Rat.mul_nonneg p2 b
    have m := Rat.add_nonneg m1 m2
    rw [← e] at m
    rcases (Rat.le_total : (0:Rat) ≤ sd l i (vQ l y j) y ∨ _) with h | h
    · exact h
    · by_cases hz : sd l i (vQ l y j) y = 0
      · rw [hz]; exact Rat.le_refl
      · exfalso
        have hl : sd l i (vQ l y j) y < 0 := by grind
        have := Rat.mul_pos p0 (show 0 < - sd l i (vQ l y j) y from by grind)
        grind
  · have p0 : (0 : Rat) < ((-vD l j : Int) : Rat) := int_lt (a := 0) (by unfold vD; omega)
    have p1 : (0 : Rat) ≤ ((-(Y l (nx l j 1) - y) : Int) : Rat) := int_le (a := 0) (by omega)
    have p2 : (0 : Rat) ≤ ((-(y - Y l j) : Int) : Rat) := int_le (a := 0) (by omega)
    have m1 := Rat.mul_nonneg p1 a
    have m2 := Rat.mul_nonneg p2 b
    have m := Rat.add_nonneg m1 m2
    simp only [Rat.intCast_neg] at p0 m
    rcases (Rat.le_total : (0:Rat) ≤ sd l i (vQ l y j) y ∨ _) with h | h
    · exact h
    · by_cases hz : sd l i (vQ l y j) y = 0
      · rw [hz]; exact Rat.le_refl
      · exfalso
        have hl : sd l i (vQ l y j) y < 0 := by grind
        have := Rat.mul_pos p0 (show 0 < - sd l i (vQ l y j) y from by grind)
        grind
theorem sd_eX {l : List S49} (hG : GC l) {i j : Nat} {y : Int} (hi : i < l.length) (hj : j < l.length) (hr : inR l y j) : 0 ≤ sd l i (eX l y j) y := by
  unfold eX
  by_cases h : Y l j = Y l (nx l j 1)
  · rw [if_pos h]
    have e : y = Y l j := by unfold inR at hr; omega
    rw [e]
    exact sd_at hG hi hj
  · rw [if_neg h]
    exact sd_conv hG hi hj hr h
theorem sd_mid {l : List S49} {i : Nat} {y : Int} {p q : Rat} (hp : 0 ≤ sd l i p (y - 1)) (hq : 0 ≤ sd l i q (y + 1)) : 0 ≤ 2 * ((X l (nx l i 1) - X l i : Int) : Rat) * ((y - Y l i : Int) : Rat) - ((Y l (nx l i 1) - Y l i : Int) : Rat) * (p + q - 2 * ((X l i : Int) : Rat)) := by
  unfold sd at hp hq
  simp only [Rat.intCast_mul, Rat.intCast_add, Rat.intCast_sub] at hp hq ⊢
  grind
theorem up_le {l : List S49} {i : Nat} {y : Int} {p q : Rat} (hp : 0 ≤ sd l i p (y - 1)) (hq : 0 ≤ sd l i q (y + 1)) (h1 : Y l i < y) (h2 : y ≤ Y l (nx l i 1)) : p + q ≤ 2 * eX l y i := by
  have hm := sd_mid hp hq
  have hne : Y l i ≠ Y l (nx l i 1) := by omega
  have hv := vQ_val (y := y) hne
  have p0 : (0 : Rat) < ((vD l i : Int) : Rat) := int_lt (a := 0) (by unfold vD; omega)
  unfold eX
  rw [if_neg hne]
  rcases (Rat.le_total : p + q ≤ 2 * vQ l y i ∨ _) with h | h
  · exact h
  · by_cases hz : p + q = 2 * vQ l y i
    · rw [hz]; exact Rat.le_refl
    · exfalso
      have := Rat.mul_pos p0 (show 0 < p + q - 2 * vQ l y i from by grind)
      unfold vD at *
      unfold vN at hv
      simp only [Rat.intCast_mul, Rat.intCast_add, Rat.intCast_sub] at *
      grind
theorem dn_le {l : List S49} {i : Nat} {y : Int} {p q : Rat} (hp : 0 ≤ sd l i p (y - 1)) (hq : 0 ≤ sd l i q (y + 1)) (h1 : y < Y l i) (h2 : Y l (nx l i 1) ≤ y) : 2 * eX l y i ≤ p + q := by
  have hm := sd_mid hp hq
  have hne : Y l i ≠ Y l (nx l i 1) := by omega
  have hv := vQ_val (y := y) hne
  have p0 : (0 : Rat) < ((-vD l i : Int) : Rat) := int_lt (a := 0) (by unfold vD; omega)
  unfold eX
  rw [if_neg hne]
  rcases (Rat.le_total : 2 * vQ l y i ≤ p + q ∨ _) with h | h
  · exact h
  · by_cases hz : p + q = 2 * vQ l y i
    · rw [hz]; exact Rat.le_refl
    · exfalso
      have := Rat.mul_pos p0 (show 0 < 2 * vQ l y i - (p + q) from by grind)
      unfold vD at *
      unfold vN at hv
      simp only [Rat.intCast_mul, Rat.intCast_add, Rat.intCast_sub, Rat.intCast_neg] at *
      grind
theorem ends_at {l : List S49} {y : Int} (hb : inbox l) (h0 : 0 < l.length) (h1 : lo l l.length ≤ y) (h2 : y ≤ hi l l.length) :
    loA l y l.length ∈ plA l y l.length ∧ hiA l y l.length ∈ plA l y l.length := by
  have hne := pl_ne h0 h1 h2
  have hget : ∀ j, j < (plA l y l.length).length → (plA l y l.length).getD j 0 ∈ plA l y l.length := fun j hj => by
    rw [List.getD_eq_getElem?_getD, List.getElem?_eq_getElem hj]; exact List.getElem_mem hj
  obtain ⟨e1, e2⟩ := width_same hb hne
  obtain ⟨j, j1, j2⟩ := mnI_mem (plA l y l.length) (plA l y l.length).length hne
  obtain ⟨m, m1, m2⟩ := mxI_mem (plA l y l.length) (plA l y l.length).length hne
  exact ⟨by rw [e1, j2]; exact hget j j1, by rw [e2, m2]; exact hget m m1⟩
/-- the width at a height -/
def wdt (l : List S49) (y : Int) : Rat := hiA l y l.length + -loA l y l.length
theorem wdt_box {l : List S49} {y : Int} (hb : inbox l) (h0 : 0 < l.length) (h1 : lo l l.length ≤ y) (h2 : y ≤ hi l l.length) : 0 ≤ wdt l y ∧ wdt l y ≤ ((2000 : Int) : Rat) := by
  obtain ⟨m1, m2⟩ := ends_at hb h0 h1 h2
  have b1 := pl_box hb m1
  have b2 := pl_box hb m2
  obtain ⟨i, i1, i2, i3⟩ := mem_e m1
  have := ((hi_spec l y l.length).1 i i1 i2).1
  unfold wdt
  rw [← i3] at this
  have z : ((0 : Int) : Rat) = 0 := rfl
  constructor <;> grind
theorem wdt_conc {l : List S49} {y : Int} (hb : inbox l) (hG : GC l) (h0 : 0 < l.length) (h1 : lo l l.length < y) (h2 : y < hi l l.length) : wdt l (y - 1) + wdt l (y + 1) ≤ 2 * wdt l y := by
  obtain ⟨u, u1, u2, u3⟩ := up_edge h0 h1 h2
  obtain ⟨d, d1, d2, d3⟩ := dn_edge h0 h1 h2
  obtain ⟨a1, a2⟩ := ends_at (y := y - 1) hb h0 (by omega) (by omega)
  obtain ⟨c1, c2⟩ := ends_at (y := y + 1) hb h0 (by omega) (by omega)
  obtain ⟨i1, p1, q1, e1⟩ := mem_e a1
  obtain ⟨i2, p2, q2, e2⟩ := mem_e a2
  obtain ⟨i3, p3, q3, e3⟩ := mem_e c1
  obtain ⟨i4, p4, q4, e4⟩ := mem_e c2
  have hu := ((hi_spec l y l.length).1 u u1 (by unfold inR; omega)).1
  have hd := ((lo_spec l y l.length).1 d d1 (by unfold inR; omega)).1
  have x1 := up_le (sd_eX hG u1 p2 q2) (sd_eX hG u1 p4 q4) u2 u3
  have x2 := dn_le (sd_eX hG d1 p1 q1) (sd_eX hG d1 p3 q3) d2 d3
  unfold wdt
  rw [e1, e2, e3, e4]
  grind
theorem flr {q : Rat} (h0 : 0 ≤ q) : 0 ≤ q.num.tdiv q.den ∧ ((q.num.tdiv q.den : Int) : Rat) ≤ q ∧ q < ((q.num.tdiv q.den : Int) : Rat) + 1 := by
  have hn : 0 ≤ q.num := Rat.num_nonneg.2 h0
  have hd : 0 < (q.den : Int) := by have := q.den_nz; omega
  have e : q.num.tdiv q.den = q.num / (q.den : Int) := Int.tdiv_eq_ediv_of_nonneg hn
  have e1 := Int.emod_nonneg q.num (show (q.den : Int) ≠ 0 by omega)
  have e2 := Int.emod_lt_of_pos q.num hd
  have e3 := Int.mul_ediv_add_emod q.num (q.den : Int)
  have e4 := Int.mul_comm (q.den : Int) (q.num / (q.den : Int))
  have e5 : (q.num / (q.den : Int) + 1) * (q.den : Int) = q.num / (q.den : Int) * (q.den : Int) + (q.den : Int) := by rw [Int.add_mul, Int.one_mul]
  rw [e]
  refine ⟨Int.ediv_nonneg hn (by omega), ?_, ?_⟩
  · rw [Rat.le_iff, Rat.num_intCast, Rat.den_intCast]; omega
  · rw [show ((q.num / (q.den : Int) : Int) : Rat) + 1 = ((q.num / (q.den : Int) + 1 : Int) : Rat) from by rw [Rat.intCast_add]; rfl, Rat.lt_iff, Rat.num_intCast, Rat.den_intCast]; omega
theorem lt_of_cast {a b : Int} (h : ((a : Int) : Rat) < ((b : Int) : Rat)) : a < b := by
  rw [Rat.lt_iff, Rat.num_intCast, Rat.den_intCast, Rat.num_intCast, Rat.den_intCast] at h
  omega
theorem flr_conc {p q m : Rat} (hp : 0 ≤ p) (hq : 0 ≤ q) (hm : 0 ≤ m) (h : p + q ≤ 2 * m) : p.num.tdiv p.den + q.num.tdiv q.den ≤ 2 * m.num.tdiv m.den + 2 := by
  obtain ⟨_, a, _⟩ := flr hp
  obtain ⟨_, b, _⟩ := flr hq
  obtain ⟨_, _, c⟩ := flr hm
  have : p.num.tdiv p.den + q.num.tdiv q.den < 2 * m.num.tdiv m.den + 2 := by
    apply lt_of_cast
    simp only [Rat.intCast_add, Rat.intCast_mul]
    have z : ((2 : Int) : Rat) = 2 := rfl
    grind
  omega
/-! ### what both answer, on every list -/
noncomputable def WR (l : List S49) (y : Int) : Int × Int × Int := if Vb l = true then (if lo l l.length ≤ y ∧ y ≤ hi l l.length then (if Bb l = true then ((wdt l y).num, ((wdt l y).den : Int), 0) else (0, 0, 6)) else (0, 0, 2)) else (0, 0, 1)
theorem WR_good {l : List S49} {y : Int} (hV : Vb l = true) (h1 : lo l l.length ≤ y) (h2 : y ≤ hi l l.length) (hB : Bb l = true) : WR l y = ((wdt l y).num, ((wdt l y).den : Int), 0) := by
  unfold WR; rw [if_pos hV, if_pos ⟨h1, h2⟩, if_pos hB]
theorem WR_ok {l : List S49} {y : Int} (h : (WR l y).2.2 = 0) : Vb l = true ∧ (lo l l.length ≤ y ∧ y ≤ hi l l.length) ∧ Bb l = true := by
  unfold WR at h
  split at h
  · rename_i h1
    split at h
    · rename_i h2
      split at h
      · rename_i h3; exact ⟨h1, h2, h3⟩
      · simp at h
    · simp at h
  · simp at h
theorem widthR (l : List S49) (y : Int) (hn : l.length < 9223372036854775000) : Ev (fun k => spec_WidthAt.f k l y) (WR l y) ∧ Ev (fun k => impl_WidthAt.f k l y) (WR l y) := by
  have sV := specV l hn
  have iV := implV l hn
  unfold spec_WidthAt.f impl_WidthAt.f WR
  cases hV : Vb l with
  | false =>
    rw [hV] at sV iV
    exact ⟨ev_bind sV (ev_if_neg Bool.false_ne_true (ev_now fun _ => rfl)), ev_bind iV (ev_if_neg Bool.false_ne_true (ev_now fun _ => rfl))⟩
  | true =>
    rw [hV] at sV iV
    have V1 := V_of hV
    have h3 := V1.1
    have hb := V1.2.1
    have sL := specLimits l (by omega) hn
    have iL := implLimits l (by omega) hn
    have sB := specBulged l (by omega) hn hb
    have iB := implBulged l (by omega) hn hb
    by_cases hr : lo l l.length ≤ y ∧ y ≤ hi l l.length
    · have sI : spec_l00In.f y (lo l l.length) (hi l l.length) = some true := by rw [specIn, decide_eq_true hr]
      have iI : impl_within.f y (lo l l.length) (hi l l.length) = some true := by rw [implIn, decide_eq_true hr]
      rw [if_pos rfl, if_pos hr]
      cases hB : Bb l with
      | false =>
        rw [hB] at sB iB
        exact ⟨ev_bind sV (ev_if_pos rfl (ev_bind sL (ev_bind (ev_const sI) (ev_if_pos rfl (ev_bind sB (ev_if_neg Bool.false_ne_true (ev_now fun _ => rfl))))))), ev_bind iV (ev_if_pos rfl (ev_bind iL (ev_bind (ev_const iI) (ev_if_pos rfl (ev_bind iB (ev_if_neg Bool.false_ne_true (ev_now fun _ => rfl)))))))⟩
      | true =>
        rw [hB] at sB iB
        obtain ⟨j, j1, j2⟩ := lo_mem l l.length
        obtain ⟨m, m1, m2⟩ := hi_mem l l.length
        have hj := (hb j (by omega)).2
        have hm := (hb m (by omega)).2
        have hy : inb y := by unfold inb at hj hm ⊢; omega
        have hne := pl_ne (l := l) (y := y) (by omega) hr.1 hr.2
        obtain ⟨w1, w2⟩ := width_same (y := y) hb hne
        have sW := specWidth hb hy (by omega) h3.2
        have iW := implWidth0 hb hy (by omega) h3.2 hne
        rw [← w1, ← w2] at iW
        rw [if_pos rfl]
        exact ⟨ev_bind sV (ev_if_pos rfl (ev_bind sL (ev_bind (ev_const sI) (ev_if_pos rfl (ev_bind sB (ev_if_pos rfl (ev_bind sW (ev_now fun _ => rfl)))))))), ev_bind iV (ev_if_pos rfl (ev_bind iL (ev_bind (ev_const iI) (ev_if_pos rfl (ev_bind iB (ev_if_pos rfl (ev_bind iW (ev_now fun _ => rfl))))))))⟩
    · have sI : spec_l00In.f y (lo l l.length) (hi l l.length) = some false := by rw [specIn, decide_eq_false hr]
      have iI : impl_within.f y (lo l l.length) (hi l l.length) = some false := by rw [implIn, decide_eq_false hr]
      rw [if_pos rfl, if_neg hr]
      exact ⟨ev_bind sV (ev_if_pos rfl (ev_bind sL (ev_bind (ev_const sI) (ev_if_neg Bool.false_ne_true (ev_now fun _ => rfl))))), ev_bind iV (ev_if_pos rfl (ev_bind iL (ev_bind (ev_const iI) (ev_if_neg Bool.false_ne_true (ev_now fun _ => rfl)))))⟩
theorem wdt_den {l : List S49} {y : Int} (hb : inbox l) (h0 : 0 < l.length) (h1 : lo l l.length ≤ y) (h2 : y ≤ hi l l.length) : 1 ≤ ((wdt l y).den : Int) ∧ ((wdt l y).den : Int) ≤ 4000000 := by
  have hd := (wdt l y).den_nz
  obtain ⟨j, j1, j2⟩ := lo_mem l l.length
  obtain ⟨m, m1, m2⟩ := hi_mem l l.length
  have hj := (hb j (by omega)).2
  have hm := (hb m (by omega)).2
  have hy : inb y := by unfold inb at hj hm ⊢; omega
  obtain ⟨a1, a2⟩ := ends_at hb h0 h1 h2
  have s1 := pl_sm hb hy (n := l.length) (Nat.le_refl _) _ a1
  have s2 := pl_sm hb hy (n := l.length) (Nat.le_refl _) _ a2
  have v1 := frq_val (loA l y l.length)
  have v2 := frq_val (hiA l y l.length)
  have n1 := (loA l y l.length).den_nz
  have n2 := (hiA l y l.length).den_nz
  obtain ⟨_, b1⟩ := s1
  obtain ⟨_, b2⟩ := s2
  have hm1 : ((loA l y l.length).den : Int) * ((hiA l y l.length).den : Int) ≤ 2000 * 2000 := Int.mul_le_mul (by omega) (by omega) (by omega) (by omega)
  have hz : ((loA l y l.length).den : Int) * ((hiA l y l.length).den : Int) ≠ 0 := Int.mul_ne_zero (by omega) (by omega)
  have hp : 0 ≤ ((loA l y l.length).den : Int) * ((hiA l y l.length).den : Int) := Int.mul_nonneg (by omega) (by omega)
  have hv : wdt l y * ((((loA l y l.length).den : Int) * ((hiA l y l.length).den : Int) : Int) : Rat) = (((hiA l y l.length).num * ((loA l y l.length).den : Int) - (loA l y l.length).num * ((hiA l y l.length).den : Int) : Int) : Rat) := by
    unfold wdt
    simp only [Rat.intCast_mul, Rat.intCast_sub]
    rw [← v1, ← v2]
    grind
  have := (frq_bound hz hv).2
  omega
/-! ### edges -/
theorem sq_nonneg (a : Int) : 0 ≤ a * a := by
  rcases Int.le_total 0 a with h | h
  · exact Int.mul_nonneg h h
  · exact Int.mul_nonneg_of_nonpos_of_nonpos h h
def sq (l : List S49) (i : Nat) : Int := (X l (nx l i 1) - X l i) * (X l (nx l i 1) - X l i) + (Y l (nx l i 1) - Y l i) * (Y l (nx l i 1) - Y l i)
theorem sq_bound (l : List S49) (hb : inbox l) (i : Nat) (hi : i < l.length) : 0 ≤ sq l i ∧ sq l i ≤ 8000000 := by
  have b0 := hb i hi
  have b1 := hb _ (nx_lt l i 1 (by omega))
  unfold inb at b0 b1
  have m1 := mul_bound (a := X l (nx l i 1) - X l i) (b := X l (nx l i 1) - X l i) (A := 2000) (B := 2000) (by omega) (by omega) (by omega) (by omega)
  have m2 := mul_bound (a := Y l (nx l i 1) - Y l i) (b := Y l (nx l i 1) - Y l i) (A := 2000) (B := 2000) (by omega) (by omega) (by omega) (by omega)
  have p1 : 0 ≤ (X l (nx l i 1) - X l i) * (X l (nx l i 1) - X l i) := sq_nonneg _
  have p2 : 0 ≤ (Y l (nx l i 1) - Y l i) * (Y l (nx l i 1) - Y l i) := sq_nonneg _
  unfold sq
  omega
theorem specSquare (l : List S49) (hn : l.length < 9223372036854775000) (hb : inbox l) (i : Nat) (hi : i < l.length) : spec_l13Square.f l (i : Int) = some (sq l i) := by
  have b0 := hb i hi
  have b1 := hb _ (nx_lt l i 1 (by omega))
  unfold inb at b0 b1
  have m1 := mul_bound (a := X l (nx l i 1) - X l i) (b := X l (nx l i 1) - X l i) (A := 2000) (B := 2000) (by omega) (by omega) (by omega) (by omega)
  have m2 := mul_bound (a := Y l (nx l i 1) - Y l i) (b := Y l (nx l i 1) - Y l i) (A := 2000) (B := 2000) (by omega) (by omega) (by omega) (by omega)
  have e1 : Int.tmod (wrap64 ((i : Int) + 1)) (l.length : Int) = ((nx l i 1 : Nat) : Int) := succ_mod i l.length (by omega) 1 (by omega)
  have hl1 := nx_lt l i 1 (by omega)
  unfold spec_l13Square.f sq
  rw [e1, if_pos (by omega), if_pos (by omega), if_neg (by omega), if_pos (by omega), if_pos (by omega)]
  simp only [rdX, rdY]
  rw [wrap_in (x := X l (nx l i 1) - X l i) (by omega) (by omega), wrap_in (x := Y l (nx l i 1) - Y l i) (by omega) (by omega), wrap_in (x := (X l (nx l i 1) - X l i) * (X l (nx l i 1) - X l i)) (by omega) (by omega), wrap_in (x := (Y l (nx l i 1) - Y l i) * (Y l (nx l i 1) - Y l i)) (by omega) (by omega), wrap_in (by omega) (by omega)]
theorem implSquare (l : List S49) (hn : l.length < 9223372036854775000) (hb : inbox l) (i : Nat) (hi : i < l.length) : impl_squareOfEdge.f l (i : Int) = some (sq l i) := specSquare l hn hb i hi
def lg (l : List S49) : Nat → Nat
  | 0 => 0
  | i + 1 => if sq l i > sq l (lg l i) then i else lg l i
theorem lg_le (l : List S49) : ∀ i, lg l i ≤ i := by
  intro i
  induction i with
  | zero => simp [lg]
  | succ i ih => simp only [lg]; split <;> omega
theorem specLongest (l : List S49) (h0 : 0 < l.length) (hn : l.length < 9223372036854775000) (hb : inbox l) : Ev (fun k => spec_LongestEdge.l0 k l 0 1) ((lg l l.length : Int), 0) := by
  have e1 : lg l 1 = 0 := by simp [lg]
  have := loop_up (fun k i => spec_LongestEdge.l0 k l (lg l i : Int) (i : Int)) l.length ((lg l l.length : Int), 0) (fun i => 1 ≤ i) (fun i hi hI => ?_) (fun _ => ev_end fun k => ?_) _ 1 rfl (by omega) (by omega)
  · simpa [e1] using this
  · refine .inl ⟨fun k => ?_, by omega⟩
    show spec_LongestEdge.l0 (k + 1) _ _ _ = spec_LongestEdge.l0 k _ _ _
    have hle := lg_le l i
    simp only [spec_LongestEdge.l0]
    rw [if_pos (by omega), specSquare l hn hb i hi, specSquare l hn hb _ (by omega), succ_cast i (by omega)]
    simp only [Option.bind_some]
    have e : lg l (i + 1) = if sq l i > sq l (lg l i) then i else lg l i := rfl
    rw [e]
    split <;> rfl
  · show spec_LongestEdge.l0 (k + 1) _ _ _ = _
    simp only [spec_LongestEdge.l0]
    rw [if_neg (by omega)]
theorem implLongest (l : List S49) (h0 : 0 < l.length) (hn : l.length < 9223372036854775000) (hb : inbox l) : Ev (fun k => impl_LongestEdge.l0 k l 0 (l.length : Int) 0) ((lg l l.length : Int), 0) := by
  refine loop_all (fun k i => impl_LongestEdge.l0 k l (lg l i : Int) (l.length : Int) (i : Int)) l.length ((lg l l.length : Int), 0) (fun i hi k => ?_) (ev_end fun k => ?_)
  · show impl_LongestEdge.l0 (k + 1) _ _ _ _ = impl_LongestEdge.l0 k _ _ _ _
    have hle := lg_le l i
    simp only [impl_LongestEdge.l0]
    rw [if_pos (by omega), implSquare l hn hb i hi, implSquare l hn hb _ (by omega), succ_cast i (by omega)]
    simp only [Option.bind_some]
    have e : lg l (i + 1) = if sq l i > sq l (lg l i) then i else lg l i := rfl
    rw [e]
    split <;> rfl
  · show impl_LongestEdge.l0 (k + 1) _ _ _ _ = _
    simp only [impl_LongestEdge.l0]
    rw [if_neg (by omega)]
open Classical in
noncomputable def code (l : List S49) (k : Int) : Int := if V l then (if 0 ≤ k ∧ k ≤ (l.length : Int) - 1 then 0 else 2) else 1
theorem specEdge (l : List S49) (k : Int) (hn : l.length < 9223372036854775000) : Ev (fun q => spec_l13Edge.f q l k) (code l k) := by
  unfold spec_l13Edge.f
  refine ev_bind (specV l hn) ?_
  unfold code
  by_cases hV : V l
  · rw [if_pos hV, Vb_true hV, specIn, wrap_in (by omega) (by omega)]
    refine ev_if_pos rfl (ev_some ?_)
    by_cases h : 0 ≤ k ∧ k ≤ (l.length : Int) - 1
    · rw [if_pos h]; exact ev_if_pos (by simp [h]) (ev_now fun _ => rfl)
    · rw [if_neg h]; exact ev_if_neg (by simp [h]) (ev_now fun _ => rfl)
  · rw [if_neg hV, Vb_false hV]
    exact ev_if_neg (by simp) (ev_now fun _ => rfl)
theorem implEdge (l : List S49) (k : Int) (hn : l.length < 9223372036854775000) : Ev (fun q => impl_edgeCode.f q l k) (code l k) := by
  unfold impl_edgeCode.f
  refine ev_bind (implV l hn) ?_
  unfold code
  by_cases hV : V l
  · rw [if_pos hV, Vb_true hV, implIn, wrap_in (by omega) (by omega)]
    refine ev_if_pos rfl (ev_some ?_)
    by_cases h : 0 ≤ k ∧ k ≤ (l.length : Int) - 1
    · rw [if_pos h]; exact ev_if_pos (by simp [h]) (ev_now fun _ => rfl)
    · rw [if_neg h]; exact ev_if_neg (by simp [h]) (ev_now fun _ => rfl)
  · rw [if_neg hV, Vb_false hV]
    exact ev_if_neg (by simp) (ev_now fun _ => rfl)
theorem code_ok {l : List S49} {k : Int} (h : code l k = 0) : V l ∧ 0 ≤ k ∧ k < l.length := by
  unfold code at h
  split at h
  · split at h
    · exact ⟨by assumption, by omega, by omega⟩
    · omega
  · omega
/-! ### drawn sails -/
def oct8 : List S49 := [⟨300, 0⟩, ⟨500, 10⟩, ⟨600, 200⟩, ⟨590, 500⟩, ⟨450, 700⟩, ⟨200, 690⟩, ⟨50, 500⟩, ⟨20, 150⟩]
/-- What a drawn sail is: of at most four corners, or the one of eight, or of nine. -/
def Shape (l : List S49) : Prop := (2 ≤ l.length ∧ l.length ≤ 4) ∨ l = oct8 ∨ l.length = 9
theorem shape_len {l : List S49} (h : Shape l) : 2 ≤ l.length ∧ l.length ≤ 9 := by
  rcases h with h | h | h
  · omega
  · rw [h]; decide
  · omega
theorem among_ok {l L : List Int} (h : bytes l) (a s : Int) (h0 : 0 ≤ a) (h1 : a ≤ 1000000000) (hL : 0 < L.length) : ∃ v a' s', spec_l00Src_among.f l a s L = some (v, a', s') ∧ a ≤ a' ∧ a' ≤ a + 2 := by
  obtain ⟨v, a', s', e, b1, b2, b3, b4⟩ := pick_ok h a s (L.length : Int) h0 h1
  unfold spec_l00Src_among.f
  rw [e]
  simp only [Option.bind_some]
  rw [if_pos b1, if_pos (by omega)]
  exact ⟨_, _, _, rfl, b3, b4⟩
theorem one_ok {l : List Int} (h : bytes l) (a s n : Int) (h0 : 0 ≤ a) (h1 : a ≤ 1000000000) : ∃ v a' s', spec_l00Src_one.f l a s n = some (v, a', s') ∧ a ≤ a' ∧ a' ≤ a + 2 := by
  obtain ⟨v, a', s', e, b1, b2, b3, b4⟩ := pick_ok h a s n h0 h1
  unfold spec_l00Src_one.f
  rw [e]
  exact ⟨_, _, _, rfl, b3, b4⟩
theorem draw_ok {l : List Int} (h : bytes l) (a s : Int) (h0 : 0 ≤ a) (h1 : a ≤ 1000000) : ∃ L a' s', spec_l13Draw.f l a s = some (L, a', s') ∧ (3 ≤ L.length ∧ L.length ≤ 4) ∧ a ≤ a' ∧ a' ≤ a + 14 := by
  unfold spec_l13Draw.f
  obtain ⟨v1, a1, s1, e1, _, _, c1, d1⟩ := pick_ok h a s 40 h0 (by omega)
  rw [e1]; simp only [Option.bind_some]
  obtain ⟨v2, a2, s2, e2, _, _, c2, d2⟩ := pick_ok h a1 s1 40 (by omega) (by omega)
  rw [e2]; simp only [Option.bind_some]
  obtain ⟨v3, a3, s3, e3, _, _, c3, d3⟩ := pick_ok h a2 s2 60 (by omega) (by omega)
  rw [e3]; simp only [Option.bind_some]
  obtain ⟨v4, a4, s4, e4, _, _, c4, d4⟩ := pick_ok h a3 s3 60 (by omega) (by omega)
  rw [e4]; simp only [Option.bind_some]
  obtain ⟨v5, a5, s5, e5, _, _, c5, d5⟩ := pick_ok h a4 s4 4 (by omega) (by omega)
  rw [e5]; simp only [Option.bind_some]
  by_cases k0 : v5 = 0
  · rw [if_pos k0]
    obtain ⟨v6, a6, s6, e6, _, _, c6, d6⟩ := pick_ok h a5 s5 10 (by omega) (by omega)
    rw [e6]; simp only [Option.bind_some]
    obtain ⟨v7, a7, s7, e7, _, _, c7, d7⟩ := pick_ok h a6 s6 (wrap64 (20 + wrap64 (5 * v3))) (by omega) (by omega)
    rw [e7]
    exact ⟨_, _, _, rfl, ⟨by simp, by simp⟩, by (try dsimp only); omega, by (try dsimp only); omega⟩
  rw [if_neg k0]
  by_cases k1 : v5 = 1
  · rw [if_pos k1]
    obtain ⟨v6, a6, s6, e6, _, _, c6, d6⟩ := pick_ok h a5 s5 10 (by omega) (by omega)
    rw [e6]
    exact ⟨_, _, _, rfl, ⟨by simp, by simp⟩, by (try dsimp only); omega, by (try dsimp only); omega⟩
  rw [if_neg k1]
  by_cases k2 : v5 = 2
  · rw [if_pos k2]
    obtain ⟨v6, a6, s6, e6, _, _, c6, d6⟩ := pick_ok h a5 s5 (wrap64 (Int.tdiv (wrap64 (20 + wrap64 (5 * v3))) 3)) (by omega) (by omega)
    rw [e6]
    exact ⟨_, _, _, rfl, ⟨by simp, by simp⟩, by (try dsimp only); omega, by (try dsimp only); omega⟩
  rw [if_neg k2]
  exact ⟨_, _, _, rfl, ⟨by simp, by simp⟩, by (try dsimp only); omega, by (try dsimp only); omega⟩
theorem bent_ok {l : List Int} (h : bytes l) (a s : Int) (h0 : 0 ≤ a) (h1 : a ≤ 100000) : ∃ L a' s', spec_l13Bent.f l a s = some (L, a', s') ∧ Shape L ∧ a ≤ a' ∧ a' ≤ a + 100 := by
  unfold spec_l13Bent.f
  obtain ⟨L, a1, s1, e1, hL, c1, d1⟩ := draw_ok h a s h0 (by omega)
  rw [e1]; simp only [Option.bind_some]
  obtain ⟨v2, a2, s2, e2, p2, q2, c2, d2⟩ := pick_ok h a1 s1 (L.length : Int) (by omega) (by omega)
  rw [e2]; simp only [Option.bind_some]
  rw [if_pos p2, if_pos (show v2 < (L.length : Int) by omega)]
  obtain ⟨v3, a3, s3, e3, _, _, c3, d3⟩ := pick_ok h a2 s2 24 (by omega) (by omega)
  rw [e3]; simp only [Option.bind_some]
  by_cases k0 : v3 = 0
  · rw [if_pos k0]
    obtain ⟨v4, a4, s4, e4, c4, d4⟩ := among_ok (L := [(-1), 0, 2000, 2001, (-9223372036854775808)]) h a3 s3 (by omega) (by omega) (by decide)
    rw [e4]
    exact ⟨_, _, _, rfl, .inl (by rw [List.length_set]; omega), by (try dsimp only); omega, by (try dsimp only); omega⟩
  rw [if_neg k0]
  by_cases k1 : v3 = 1
  · rw [if_pos k1]
    obtain ⟨v4, a4, s4, e4, c4, d4⟩ := among_ok (L := [(-1), 0, 2000, 2001]) h a3 s3 (by omega) (by omega) (by decide)
    rw [e4]
    exact ⟨_, _, _, rfl, .inl (by rw [List.length_set]; omega), by (try dsimp only); omega, by (try dsimp only); omega⟩
  rw [if_neg k1]
  by_cases k2 : v3 = 2
  · rw [if_pos k2, if_pos (show 2 ≤ (L.length : Int) by omega)]
    exact ⟨_, _, _, rfl, .inl (by rw [List.length_take, show (2 : Int).toNat = 2 from rfl]; omega), by (try dsimp only); omega, by (try dsimp only); omega⟩
  rw [if_neg k2]
  by_cases k3 : v3 = 3
  · rw [if_pos k3]
    obtain ⟨v4, a4, s4, e4, c4, d4⟩ := one_ok h a3 s3 2 (by omega) (by omega)
    rw [e4]; simp only [Option.bind_some]
    cases v4
    · rw [if_neg Bool.false_ne_true]
      exact ⟨_, _, _, rfl, .inr (.inl rfl), by (try dsimp only); omega, by (try dsimp only); omega⟩
    · rw [if_pos rfl, if_pos (by decide)]
      exact ⟨_, _, _, rfl, .inr (.inr rfl), by (try dsimp only); omega, by (try dsimp only); omega⟩
  rw [if_neg k3]
  by_cases k4 : v3 = 4
  · rw [if_pos k4, if_pos (show 0 < (L.length : Int) by omega), if_pos (show 1 < (L.length : Int) by omega)]
    exact ⟨_, _, _, rfl, .inl (by rw [List.length_set, List.length_set]; omega), by (try dsimp only); omega, by (try dsimp only); omega⟩
  rw [if_neg k4]
  exact ⟨_, _, _, rfl, .inl (by omega), by (try dsimp only); omega, by (try dsimp only); omega⟩
/-! ### the law -/
theorem GC_oct : GC oct8 := by decide
theorem GC_of {l : List S49} (h : Shape l) (hV : Vb l = true) (hB : Bb l = true) : GC l := by
  have V1 := V_of hV
  have h3 := V1.1
  rcases h with h | h | h
  · have e : l.length = 3 ∨ l.length = 4 := by omega
    rcases e with e | e
    · exact gc3 e (B_of hB)
    · exact gc4 e (B_of hB)
  · rw [h]; exact GC_oct
  · omega
theorem lg_lt (l : List S49) : ∀ n, 0 < n → lg l n < n
  | 0, h => by omega
  | n + 1, h => by
    unfold lg
    split
    · omega
    · rcases Nat.eq_zero_or_pos n with e | e
      · subst e; exact Nat.lt_succ_self 0
      · have := lg_lt l n e; omega
theorem lg_max (l : List S49) : ∀ n i, i < n → sq l i ≤ sq l (lg l n)
  | 0, i, h => by omega
  | n + 1, i, h => by
    have ih := lg_max l n i
    unfold lg
    split
    · rename_i h2
      rcases Nat.lt_or_ge i n with h1 | h1
      · have := ih h1; omega
      · obtain rfl : i = n := by omega
        exact Int.le_refl _
    · rename_i h2
      rcases Nat.lt_or_ge i n with h1 | h1
      · exact ih h1
      · obtain rfl : i = n := by omega
        omega
theorem sq_pos {l : List S49} {i : Nat} (h : cr l i ≠ 0) : 0 < sq l i := by
  have p1 : 0 ≤ (X l (nx l i 1) - X l i) * (X l (nx l i 1) - X l i) := sq_nonneg _
  have p2 : 0 ≤ (Y l (nx l i 1) - Y l i) * (Y l (nx l i 1) - Y l i) := sq_nonneg _
  rcases Int.lt_or_le 0 (sq l i) with h1 | h1
  · exact h1
  · exfalso
    unfold sq at h1
    have q1 : (X l (nx l i 1) - X l i) * (X l (nx l i 1) - X l i) = 0 := by omega
    have q2 : (Y l (nx l i 1) - Y l i) * (Y l (nx l i 1) - Y l i) = 0 := by omega
    have r1 : X l (nx l i 1) - X l i = 0 := by rcases Int.mul_eq_zero.1 q1 with e | e <;> exact e
    have r2 : Y l (nx l i 1) - Y l i = 0 := by rcases Int.mul_eq_zero.1 q2 with e | e <;> exact e
    apply h
    unfold cr crs
    rw [r1, r2, Int.zero_mul, Int.zero_mul]
    rfl
theorem roots2 (n : Int) (hn : 0 < n ∧ n ≤ 8000000) : ∀ (m : Nat) (i : Int), 0 ≤ i → i ≤ 4000 → (4000 - i).toNat = m → (i = 0 ∨ (i - 1) * (i - 1) < n) → ∃ r : Int, Ev (fun k => spec_l13Root.l0 k n i) r ∧ Ev (fun k => impl_RoundUpEdge.l0 k n i) (r, 0) ∧ (0 < r ∧ r ≤ 4000) ∧ n ≤ r * r ∧ (r - 1) * (r - 1) < n := by
  intro m
  induction m with
  | zero =>
    intro i h0 h1 h2 h3
    obtain rfl : i = 4000 := by omega
    refine ⟨4000, ev_end fun k => ?_, ev_end fun k => ?_, by omega, by omega, by omega⟩
    · simp only [spec_l13Root.l0]; rw [wrap_in (by omega) (by omega), if_neg (by omega)]
    · simp only [impl_RoundUpEdge.l0]; rw [wrap_in (by omega) (by omega), if_neg (by omega)]
  | succ m ih =>
    intro i h0 h1 h2 h3
    have m1 := mul_bound (a := i) (b := i) (A := 4000) (B := 4000) (by omega) (by omega) (by omega) (by omega)
    have w1 := wrap_in (x := i * i) (by omega) (by omega)
    have w2 := wrap_in (x := i + 1) (by omega) (by omega)
    by_cases h : i * i < n
    · obtain ⟨r, hr1, hr2, hr3⟩ := ih (i + 1) (by omega) (by omega) (by omega) (.inr (by rw [show i + 1 - 1 = i from by omega]; exact h))
      refine ⟨r, ev_step (fun k => ?_) hr1, ev_step (fun k => ?_) hr2, hr3⟩
      · simp only [spec_l13Root.l0]; rw [w1, w2, if_pos h]
      · simp only [impl_RoundUpEdge.l0]; rw [w1, w2, if_pos h]
    · have hi : 0 < i := by
        rcases Int.lt_or_le 0 i with h4 | h4
        · exact h4
        · obtain rfl : i = 0 := by omega
          omega
      refine ⟨i, ev_end fun k => ?_, ev_end fun k => ?_, by omega, by omega, by omega⟩
      · simp only [spec_l13Root.l0]; rw [w1, if_neg h]
      · simp only [impl_RoundUpEdge.l0]; rw [w1, if_neg h]
noncomputable def HR (l : List S49) : Int × Int × Int := if Vb l = true then (lo l l.length, hi l l.length, 0) else (0, 0, 1)
theorem heightR (l : List S49) (hn : l.length < 9223372036854775000) : Ev (fun k => spec_HeightOfSail.f k l) (HR l) ∧ Ev (fun k => impl_HeightOfSail.f k l) (HR l) := by
  have sV := specV l hn
  have iV := implV l hn
  unfold spec_HeightOfSail.f impl_HeightOfSail.f HR
  cases hV : Vb l with
  | false =>
    rw [hV] at sV iV
    exact ⟨ev_bind sV (ev_if_neg Bool.false_ne_true (ev_now fun _ => rfl)), ev_bind iV (ev_if_neg Bool.false_ne_true (ev_now fun _ => rfl))⟩
  | true =>
    rw [hV] at sV iV
    have h3 := (V_of hV).1
    exact ⟨ev_bind sV (ev_if_pos rfl (ev_bind (specLimits l (by omega) hn) (ev_now fun _ => rfl))), ev_bind iV (ev_if_pos rfl (ev_bind (implLimits l (by omega) hn) (ev_now fun _ => rfl)))⟩
noncomputable def BR (l : List S49) : Bool × Int := if Vb l = true then (Bb l, 0) else (false, 1)
theorem bulgedR (l : List S49) (hn : l.length < 9223372036854775000) : Ev (fun k => spec_IsBulged.f k l) (BR l) ∧ Ev (fun k => impl_IsBulged.f k l) (BR l) := by
  have sV := specV l hn
  have iV := implV l hn
  unfold spec_IsBulged.f impl_IsBulged.f BR
  cases hV : Vb l with
  | false =>
    rw [hV] at sV iV
    exact ⟨ev_bind sV (ev_if_neg Bool.false_ne_true (ev_now fun _ => rfl)), ev_bind iV (ev_if_neg Bool.false_ne_true (ev_now fun _ => rfl))⟩
  | true =>
    rw [hV] at sV iV
    have V1 := V_of hV
    have h3 := V1.1
    exact ⟨ev_bind sV (ev_if_pos rfl (ev_bind (specBulged l (by omega) hn V1.2.1) (ev_now fun _ => rfl))), ev_bind iV (ev_if_pos rfl (ev_bind (implBulged l (by omega) hn V1.2.1) (ev_now fun _ => rfl)))⟩
noncomputable def LR (l : List S49) : Int × Int := if Vb l = true then ((lg l l.length : Int), 0) else (0, 1)
theorem longR (l : List S49) (hn : l.length < 9223372036854775000) : Ev (fun k => spec_LongestEdge.f k l) (LR l) ∧ Ev (fun k => impl_LongestEdge.f k l) (LR l) := by
  have sV := specV l hn
  have iV := implV l hn
  unfold spec_LongestEdge.f impl_LongestEdge.f LR
  cases hV : Vb l with
  | false =>
    rw [hV] at sV iV
    exact ⟨ev_bind sV (ev_if_neg Bool.false_ne_true (ev_now fun _ => rfl)), ev_bind iV (ev_if_neg Bool.false_ne_true (ev_now fun _ => rfl))⟩
  | true =>
    rw [hV] at sV iV
    have V1 := V_of hV
    have h3 := V1.1
    exact ⟨ev_bind sV (ev_if_pos rfl (specLongest l (by omega) hn V1.2.1)), ev_bind iV (ev_if_pos rfl (implLongest l (by omega) hn V1.2.1))⟩
noncomputable def QR (l : List S49) (k : Int) : Int × Int := if code l k = 0 then (sq l k.toNat, 0) else (0, code l k)
theorem squareR (l : List S49) (b : Int) (hn : l.length < 9223372036854775000) : Ev (fun k => spec_SquareOfEdge.f k l b) (QR l b) ∧ Ev (fun k => impl_SquareOfEdge.f k l b) (QR l b) := by
  unfold spec_SquareOfEdge.f impl_SquareOfEdge.f QR
  by_cases hc : code l b = 0
  · obtain ⟨hV, h0, hk⟩ := code_ok hc
    obtain ⟨i, rfl⟩ := Int.eq_ofNat_of_zero_le h0
    have hi : i < l.length := by omega
    rw [if_pos hc, Int.toNat_natCast]
    refine ⟨ev_bind (specEdge _ _ hn) (ev_if_pos hc ?_), ev_bind (implEdge _ _ hn) (ev_if_pos hc ?_)⟩
    · rw [specSquare _ hn hV.2.1 i hi]; exact ev_now fun _ => rfl
    · rw [implSquare _ hn hV.2.1 i hi]; exact ev_now fun _ => rfl
  · rw [if_neg hc]
    exact ⟨ev_bind (specEdge _ _ hn) (ev_if_neg hc (ev_now fun _ => rfl)), ev_bind (implEdge _ _ hn) (ev_if_neg hc (ev_now fun _ => rfl))⟩
theorem roundR (l : List S49) (b : Int) (hn : l.length < 9223372036854775000) : ∃ r : Int × Int, Ev (fun k => spec_RoundUpEdge.f k l b) r ∧ Ev (fun k => impl_RoundUpEdge.f k l b) r ∧ r.2 = code l b ∧ (code l b = 0 → (0 < r.1 ∧ r.1 ≤ 4000) ∧ sq l b.toNat ≤ r.1 * r.1 ∧ (r.1 - 1) * (r.1 - 1) < sq l b.toNat) := by
  unfold spec_RoundUpEdge.f impl_RoundUpEdge.f
  by_cases hc : code l b = 0
  · obtain ⟨hV, h0, hk⟩ := code_ok hc
    obtain ⟨i, rfl⟩ := Int.eq_ofNat_of_zero_le h0
    have hi : i < l.length := by omega
    obtain ⟨r, hr1, hr2, hr3⟩ := roots2 (sq l i) ⟨sq_pos (hV.2.2.1 i hi), (sq_bound _ hV.2.1 i hi).2⟩ 4000 0 (by omega) (by omega) (by omega) (.inl rfl)
    refine ⟨(r, 0), ev_bind (specEdge _ _ hn) (ev_if_pos hc ?_), ev_bind (implEdge _ _ hn) (ev_if_pos hc ?_), hc.symm, fun _ => by rw [Int.toNat_natCast]; exact hr3⟩
    · rw [specSquare _ hn hV.2.1 i hi]; exact ev_some (ev_bind hr1 (ev_now fun _ => rfl))
    · rw [implSquare _ hn hV.2.1 i hi]; exact ev_some hr2
  · exact ⟨(0, code l b), ev_bind (specEdge _ _ hn) (ev_if_neg hc (ev_now fun _ => rfl)), ev_bind (implEdge _ _ hn) (ev_if_neg hc (ev_now fun _ => rfl)), rfl, fun h => absurd h hc⟩
theorem drawW {c : List Int} (bc : bytes c) : ∃ l y, Ev (fun k => spec_DrawWidthAt.f k c) (l, y) ∧ Shape l := by
  unfold spec_DrawWidthAt.f spec_l00From.f
  obtain ⟨L, a1, s1, e1, hL, c1, d1⟩ := bent_ok bc 0 0 (by omega) (by omega)
  have hlen := shape_len hL
  obtain ⟨v2, a2, s2, e2, c2, d2⟩ := one_ok bc a1 s1 8 (by omega) (by omega)
  cases v2 with
  | true =>
    obtain ⟨v3, a3, s3, e3, c3, d3⟩ := among_ok (L := [(-1), 0, 2000, 2001, (-9223372036854775808)]) bc a2 s2 (by omega) (by omega) (by decide)
    exact ⟨L, v3, ev_some (ev_bind (ev_const e1) (ev_bind (ev_const e2) (ev_if_pos rfl (ev_bind (ev_const e3) (ev_now fun _ => rfl))))), hL⟩
  | false =>
    have sL := specLimits L (by omega) (by omega)
    obtain ⟨v3, a3, s3, e3, _, _, c3, d3⟩ := pick_ok bc a2 s2 (wrap64 (min 2000 (hi L L.length) + 2)) (by omega) (by omega)
    exact ⟨L, _, ev_some (ev_bind (ev_const e1) (ev_bind (ev_const e2) (ev_if_neg Bool.false_ne_true (ev_bind sL (ev_bind (ev_const (spec_max _ _)) (ev_bind (ev_const (spec_min _ _)) (ev_bind (ev_const e3) (ev_now fun _ => rfl)))))))), hL⟩
theorem drawE {c : List Int} (bc : bytes c) : ∃ l y, spec_DrawRoundUpEdge.f c = some (l, y) ∧ Shape l := by
  obtain ⟨L, a1, s1, e1, hL, c1, d1⟩ := bent_ok bc 0 0 (by omega) (by omega)
  obtain ⟨v2, a2, s2, e2, _, _, c2, d2⟩ := pick_ok bc a1 s1 (wrap64 ((L.length : Int) + 1)) (by omega) (by omega)
  obtain ⟨v3, a3, s3, e3, _, _, c3, d3⟩ := pick_ok bc a2 s2 16 (by omega) (by omega)
  refine ⟨L, _, Option.bind_eq_some_iff.2 ⟨(L, _), Option.bind_eq_some_iff.2 ⟨(c, 0, 0), rfl, Option.bind_eq_some_iff.2 ⟨(L, a1, s1), e1, Option.bind_eq_some_iff.2 ⟨(v2, a2, s2), e2, Option.bind_eq_some_iff.2 ⟨(v3, a3, s3), e3, rfl⟩⟩⟩⟩, rfl⟩, hL⟩
theorem floor_of {q : Rat} (h0 : 0 ≤ q) (h1 : q ≤ ((2000 : Int) : Rat)) : laws_f6floor.f q.num (q.den : Int) = some (q.num.tdiv q.den) ∧ 0 ≤ q.num.tdiv q.den ∧ q.num.tdiv q.den ≤ 2000 := by
  obtain ⟨f1, f2, f3⟩ := flr h0
  have hd := q.den_nz
  have f4 : q.num.tdiv q.den < 2001 := by
    apply lt_of_cast
    have z : ((2001 : Int) : Rat) = 2001 := rfl
    have z2 : ((2000 : Int) : Rat) = 2000 := rfl
    grind
  refine ⟨?_, f1, by omega⟩
  unfold laws_f6floor.f
  rw [if_neg (by omega), wrap_in (by omega) (by omega)]
theorem num_le {q : Rat} (h1 : q ≤ ((2000 : Int) : Rat)) : q.num ≤ 2000 * (q.den : Int) := by
  rw [Rat.le_iff, Rat.num_intCast, Rat.den_intCast] at h1
  omega
theorem law_j3 {a b m : Rat} (a1 : 0 ≤ a) (a2 : a ≤ ((2000 : Int) : Rat)) (b1 : 0 ≤ b) (b2 : b ≤ ((2000 : Int) : Rat)) (c1 : 0 ≤ m) (c2 : m ≤ ((2000 : Int) : Rat)) (h : a + b ≤ 2 * m) :
    Ev (fun k => laws_FnSailWidths.j3 k false m.num (m.den : Int) a.num (a.den : Int) b.num (b.den : Int)) true := by
  obtain ⟨f1, g1, k1⟩ := floor_of a1 a2
  obtain ⟨f2, g2, k2⟩ := floor_of b1 b2
  obtain ⟨f3, g3, k3⟩ := floor_of c1 c2
  have hc := flr_conc a1 b1 c1 h
  refine ev_end (fun k => ?_)
  simp only [laws_FnSailWidths.j3]
  rw [if_neg Bool.false_ne_true, f1, f2, f3]
  simp only [Option.bind_some]
  generalize a.num.tdiv (a.den : Int) = u at *
  generalize b.num.tdiv (b.den : Int) = v at *
  generalize m.num.tdiv (m.den : Int) = z at *
  rw [wrap_in (x := u + v) (by omega) (by omega), wrap_in (x := 2 * z) (by omega) (by omega), wrap_in (by omega) (by omega)]
  rw [decide_eq_true (by omega)]
theorem bnd2 {n d : Int} (h : n ≤ 2000 * d) (h1 : 1 ≤ d) (h2 : d ≤ 4000000) : ¬ n > wrap64 (2000 * d) := by rw [wrap_in (by omega) (by omega)]; omega
/-- both widths beside: their numbers are within their bounds -/
theorem law_in {k : Nat} {n1 d1 n2 d2 mn md : Int} (a1 : 1 ≤ d1) (a2 : d1 ≤ 4000000) (b1 : 1 ≤ d2) (b2 : d2 ≤ 4000000) (p1 : 0 ≤ n1) (p2 : 0 ≤ n2) (q1 : n1 ≤ 2000 * d1) (q2 : n2 ≤ 2000 * d2) {l : List S49} {y : Int} (hy : wrap64 (y - 1) = y - 1) (hz : wrap64 (y + 1) = y + 1)
    (e1 : impl_WidthAt.f k l (y - 1) = some (n1, d1, 0)) (e2 : impl_WidthAt.f k l (y + 1) = some (n2, d2, 0)) : laws_FnSailWidths.j2 (k + 1) l y false mn md = laws_FnSailWidths.j3 k false mn md n1 d1 n2 d2 := by
  simp only [laws_FnSailWidths.j2]
  rw [if_neg Bool.false_ne_true, hy, hz, e1, e2]
  simp only [Option.bind_some]
  rw [if_pos trivial, if_pos trivial, if_neg (show ¬ d1 < 1 by omega), if_neg (show ¬ d2 < 1 by omega), if_neg (show ¬ d1 > 4000000 by omega), if_neg (show ¬ d2 > 4000000 by omega), if_neg (show ¬ n1 < 0 by omega), if_neg (show ¬ n2 < 0 by omega), if_neg (bnd2 q1 a1 a2), decide_eq_false (bnd2 q2 b1 b2)]
theorem law_j2 {l : List S49} {y : Int} (hS : Shape l) (hV : Vb l = true) (h1 : lo l l.length ≤ y) (h2 : y ≤ hi l l.length) (hB : Bb l = true) (hy0 : y ≠ lo l l.length) (hy1 : y ≠ hi l l.length) :
    Ev (fun k => laws_FnSailWidths.j2 k l y false (wdt l y).num ((wdt l y).den : Int)) true := by
  have V1 := V_of hV
  have h3 := V1.1
  have hb := V1.2.1
  have hn : l.length < 9223372036854775000 := by omega
  obtain ⟨j, j1, j2⟩ := lo_mem l l.length
  obtain ⟨m, m1, m2⟩ := hi_mem l l.length
  have hj := (hb j (by omega)).2
  have hm := (hb m (by omega)).2
  unfold inb at hj hm
  have p1 := (widthR l (y - 1) hn).2
  have p2 := (widthR l (y + 1) hn).2
  rw [WR_good hV (by omega) (by omega) hB] at p1 p2
  obtain ⟨a1, a2⟩ := wdt_box (y := y - 1) hb (by omega) (by omega) (by omega)
  obtain ⟨b1, b2⟩ := wdt_box (y := y + 1) hb (by omega) (by omega) (by omega)
  obtain ⟨c1, c2⟩ := wdt_box (y := y) hb (by omega) (by omega) (by omega)
  obtain ⟨d1, d2⟩ := wdt_den (y := y - 1) hb (by omega) (by omega) (by omega)
  obtain ⟨e1, e2⟩ := wdt_den (y := y + 1) hb (by omega) (by omega) (by omega)
  have n1 : 0 ≤ (wdt l (y - 1)).num := Rat.num_nonneg.2 a1
  have n2 : 0 ≤ (wdt l (y + 1)).num := Rat.num_nonneg.2 b1
  have u1 := num_le a2
  have u2 := num_le b2
  have w1 : wrap64 (y - 1) = y - 1 := wrap_in (by omega) (by omega)
  have w2 : wrap64 (y + 1) = y + 1 := wrap_in (by omega) (by omega)
  obtain ⟨k1, q1⟩ := p1
  obtain ⟨k2, q2⟩ := p2
  obtain ⟨k3, q3⟩ := law_j3 a1 a2 b1 b2 c1 c2 (wdt_conc hb (GC_of hS hV hB) (by omega) (by omega) (by omega))
  refine ⟨k1 + k2 + k3 + 1, fun k hk => ?_⟩
  obtain ⟨k', rfl⟩ : ∃ k', k = k' + 1 := ⟨k - 1, by omega⟩
  show laws_FnSailWidths.j2 (k' + 1) l y false (wdt l y).num ((wdt l y).den : Int) = some true
  rw [law_in d1 d2 e1 e2 n1 n2 u1 u2 w1 w2 (q1 k' (by omega)) (q2 k' (by omega))]
  exact q3 k' (by omega)
theorem law_j1 {l : List S49} {y : Int} (hS : Shape l) : Ev (fun k => laws_FnSailWidths.j1 k l y (WR l y).2.2 (HR l).1 (HR l).2.1 (WR l y).1 (WR l y).2.1) true := by
  by_cases h : (WR l y).2.2 = 0
  · obtain ⟨hV, ⟨h1, h2⟩, hB⟩ := WR_ok h
    have V1 := V_of hV
    have h3 := V1.1
    obtain ⟨c1, c2⟩ := wdt_box (y := y) V1.2.1 (by omega) h1 h2
    have n1 : 0 ≤ (wdt l y).num := Rat.num_nonneg.2 c1
    have eH : HR l = (lo l l.length, hi l l.length, 0) := by unfold HR; rw [if_pos hV]
    rw [WR_good hV h1 h2 hB, eH]
    have tru : Ev (fun k => laws_FnSailWidths.j2 k l y true (wdt l y).num ((wdt l y).den : Int)) true := ev_end fun k => by simp only [laws_FnSailWidths.j2]; exact if_pos trivial
    refine ev_step (f := fun k => (if (0 : Int) = 0 then (if (wdt l y).num < 0 then (some false) else (if y = lo l l.length then (laws_FnSailWidths.j2 k l y true (wdt l y).num ((wdt l y).den : Int)) else (laws_FnSailWidths.j2 k l y (y == hi l l.length) (wdt l y).num ((wdt l y).den : Int)))) else (some true))) (fun k => rfl) (ev_if_pos rfl (ev_if_neg (by omega) ?_))
    by_cases hy0 : y = lo l l.length
    · exact ev_if_pos hy0 tru
    · refine ev_if_neg hy0 ?_
      by_cases hy1 : y = hi l l.length
      · rw [beq_iff_eq.mpr hy1]; exact tru
      · rw [beq_eq_false_iff_ne.mpr hy1]; exact law_j2 hS hV h1 h2 hB hy0 hy1
  · refine ev_end fun k => ?_
    simp only [laws_FnSailWidths.j1]
    rw [if_neg h]
theorem sail_law (c : List Int) (bc : bytes c) : Ev (fun k => laws_FnSailWidths.f k c) true := by
  unfold laws_FnSailWidths.f laws_f6big.f
  by_cases hb : (c.length : Int) > 4096
  · exact ev_some (ev_if_pos (decide_eq_true hb) (ev_now fun _ => rfl))
  refine ev_some (ev_if_neg (by rw [decide_eq_false hb]; decide) ?_)
  obtain ⟨l, y, hd, hS⟩ := drawW bc
  obtain ⟨a, e, ha, hT⟩ := drawE bc
  have hl := shape_len hS
  have hal := shape_len hT
  have hn : l.length < 9223372036854775000 := by omega
  have han : a.length < 9223372036854775000 := by omega
  obtain ⟨w1, w2⟩ := widthR l y hn
  obtain ⟨g1, g2⟩ := heightR l hn
  obtain ⟨b1, b2⟩ := bulgedR l hn
  obtain ⟨r, r1, r2, r3, r4⟩ := roundR a e han
  obtain ⟨q1, q2⟩ := squareR a e han
  obtain ⟨o1, o2⟩ := longR a han
  refine ev_bind hd (ev_bind w2 (ev_bind w1 (ev_bind g2 (ev_bind g1 (ev_bind b2 (ev_bind b1 (ev_bind (ev_const ha) (ev_bind r2 (ev_bind r1 (ev_bind q2 (ev_bind q1 (ev_bind o2 (ev_bind o1 (ev_if_pos rfl (ev_if_neg (by simp) (ev_if_pos rfl (ev_if_pos rfl (ev_if_pos rfl (ev_if_pos rfl (ev_if_neg (by simp) (ev_if_pos rfl (ev_if_pos rfl (ev_if_pos rfl (ev_if_pos rfl (ev_if_pos rfl ?_)))))))))))))))))))))))))
  show Ev (fun k => laws_FnSailWidths.j0 k l y (WR l y).2.2 (HR l).1 (HR l).2.1 a r.1 r.2 (QR a e).1 (LR a).1 ((LR a).1 != (LR a).1) (WR l y).1 (WR l y).2.1) true
  rw [bne_self_eq_false]
  by_cases hc : code a e = 0
  · obtain ⟨k1, k2, k3⟩ := r4 hc
    obtain ⟨hV, h0, hk⟩ := code_ok hc
    have V1 := hV.1
    have eL : LR a = ((lg a a.length : Int), 0) := by unfold LR; rw [if_pos (Vb_true hV)]
    have eQ : QR a e = (sq a e.toNat, 0) := by unfold QR; rw [if_pos hc]
    have hlg := lg_lt a a.length (by omega)
    have c2 : code a ((lg a a.length : Nat) : Int) = 0 := by unfold code; rw [if_pos hV, if_pos (by omega)]
    have z1 := (squareR a ((lg a a.length : Nat) : Int) han).2
    have eZ : QR a ((lg a a.length : Nat) : Int) = (sq a (lg a a.length), 0) := by unfold QR; rw [if_pos c2, Int.toNat_natCast]
    rw [eZ] at z1
    have hmax := lg_max a a.length e.toNat (by omega)
    have m1 := mul_bound (a := r.1) (b := r.1) (A := 4000) (B := 4000) (by omega) (by omega) (by omega) (by omega)
    have m2 := mul_bound (a := r.1 - 1) (b := r.1 - 1) (A := 4000) (B := 4000) (by omega) (by omega) (by omega) (by omega)
    rw [eL, eQ]
    refine ev_step (f := fun k => (if r.2 = 0 then ((impl_SquareOfEdge.f k a ((lg a a.length : Nat) : Int)).bind fun bt575 => (if bt575.2 = 0 then (if bt575.1 < sq a e.toNat then (some false) else (if (wrap64 (r.1 * r.1)) < sq a e.toNat then (some false) else (if (wrap64 ((wrap64 (r.1 - 1)) * (wrap64 (r.1 - 1)))) ≥ sq a e.toNat then (some false) else (laws_FnSailWidths.j1 k l y (WR l y).2.2 (HR l).1 (HR l).2.1 (WR l y).1 (WR l y).2.1)))) else (some false))) else (laws_FnSailWidths.j1 k l y (WR l y).2.2 (HR l).1 (HR l).2.1 (WR l y).1 (WR l y).2.1))) (fun k => ?_) (ev_if_pos (by omega) (ev_bind z1 (ev_if_pos rfl (ev_if_neg (by show ¬ sq a (lg a a.length) < sq a e.toNat; omega) (ev_if_neg (by rw [wrap_in (by omega) (by omega)]; omega) (ev_if_neg (by rw [wrap_in (x := r.1 - 1) (by omega) (by omega), wrap_in (by omega) (by omega)]; omega) (law_j1 hS)))))))
    simp only [laws_FnSailWidths.j0]
    rw [if_neg Bool.false_ne_true]
  · refine ev_step (f := fun k => (if r.2 = 0 then ((impl_SquareOfEdge.f k a (LR a).1).bind fun bt575 => (if bt575.2 = 0 then (if bt575.1 < (QR a e).1 then (some false) else (if (wrap64 (r.1 * r.1)) < (QR a e).1 then (some false) else (if (wrap64 ((wrap64 (r.1 - 1)) * (wrap64 (r.1 - 1)))) ≥ (QR a e).1 then (some false) else (laws_FnSailWidths.j1 k l y (WR l y).2.2 (HR l).1 (HR l).2.1 (WR l y).1 (WR l y).2.1)))) else (some false))) else (laws_FnSailWidths.j1 k l y (WR l y).2.2 (HR l).1 (HR l).2.1 (WR l y).1 (WR l y).2.1))) (fun k => ?_) (ev_if_neg (by omega) (law_j1 hS))
    simp only [laws_FnSailWidths.j0]
    rw [if_neg Bool.false_ne_true]
theorem FnSailWidths : Say.FnSailWidths := by
  intro c hc
  have bc := bytes_of hc.2
  apply Ev.rounds
  exact sail_law c bc
end Go.Proofs.Ytchngbjpjbahiaa.Pure
