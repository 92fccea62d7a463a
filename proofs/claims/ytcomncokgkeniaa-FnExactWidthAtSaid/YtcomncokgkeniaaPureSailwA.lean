import Derived.Test.YtcomncokgkeniaaHSailw0
import Derived.Test.YtcomncokgkeniaaPlain
import Derived.Test.YtcomncokgkeniaaHSailwe
import Derived.Test.YtcomncokgkeniaaHSailwf
import Derived.Test.YtcomncokgkeniaaHSailwh
import Derived.Test.YtcomncokgkeniaaHSailwl
import Derived.Test.YtcomncokgkeniaaHSailwm
import Derived.Test.YtcomncokgkeniaaHSailwn
namespace Go.Proofs.Ytcomncokgkeniaa.Pure
open Go.RowKit Go.Proofs.Ytcomncokgkeniaa.PSailw Go.Proofs.Ytcomncokgkeniaa.Plain Go.Proofs.YtcomncokgkeniaaW.PrintWords Go.Proofs.YtcomncokgkeniaaW.PrintMore
set_option linter.unusedVariables false
set_option linter.unusedSimpArgs false
theorem cast_ne {a : Int} (h : a ≠ 0) : (a : Rat) ≠ 0 := by simpa using h
theorem cast_inj {a b : Int} (h : (a : Rat) = (b : Rat)) : a = b := by simpa using h
def frq (q : Rat) : Int × Int := (q.num, (q.den : Int))
theorem frq_val (q : Rat) : q * ((q.den : Int) : Rat) = ((q.num : Int) : Rat) := by
 have e : q = (q.num : Rat) / ((q.den : Int) : Rat) := by
  conv => lhs; rw [← Rat.num_divInt_den q]
  exact Rat.divInt_eq_div _ _
 have h0 : ((q.den : Int) : Rat) ≠ 0 := cast_ne (by have := q.den_nz; omega)
 generalize ((q.den : Int) : Rat) = d at *
 generalize ((q.num : Int) : Rat) = n at *
 grind
theorem frq_cop (q : Rat) : Int.gcd q.num (q.den : Int) = 1 := by simpa [Int.gcd] using q.reduced
theorem frq_mk {q : Rat} {a b : Int} (hb : 0 < b) (hc : Int.gcd a b = 1) (h : q * (b : Rat) = (a : Rat)) : frq q = (a, b) := by
 have hv := frq_val q
 have hd : (q.den : Int) ≠ 0 := by have := q.den_nz; omega
 have e : a * (q.den : Int) = q.num * b := by
  apply cast_inj
  simp only [Rat.intCast_mul]
  rw [← h, ← hv]; grind
 have h1 : (q.den : Int) ∣ b := by
  have h1 : (q.den : Int).natAbs ∣ q.num.natAbs * b.natAbs := by rw [← Int.natAbs_mul, ← e, Int.natAbs_mul]; exact Nat.dvd_mul_left ..
  exact Int.natAbs_dvd_natAbs.1 (Nat.Coprime.dvd_of_dvd_mul_left (Nat.Coprime.symm (frq_cop q)) h1)
 have h2 : b ∣ (q.den : Int) := by
  have h1 : b.natAbs ∣ a.natAbs * (q.den : Int).natAbs := by rw [← Int.natAbs_mul, e, Int.natAbs_mul]; exact Nat.dvd_mul_left ..
  exact Int.natAbs_dvd_natAbs.1 (Nat.Coprime.dvd_of_dvd_mul_left (Nat.Coprime.symm hc) h1)
 have e2 : b = (q.den : Int) := Int.dvd_antisymm (by omega) (by omega) h2 h1
 have e3 : a = q.num := by
  rw [← e2] at e
  exact Int.eq_of_mul_eq_mul_right (by omega) e
 unfold frq
 rw [← e2, e3]
theorem frq_dvd {q : Rat} {a b : Int} (hb : b ≠ 0) (h : q * (b : Rat) = (a : Rat)) : ∃ t : Int, t ≠ 0 ∧ a = q.num * t ∧ b = (q.den : Int) * t := by
 have hv := frq_val q
 have hd : (q.den : Int) ≠ 0 := by have := q.den_nz; omega
 have e : a * (q.den : Int) = q.num * b := by
  apply cast_inj
  simp only [Rat.intCast_mul]
  rw [← h, ← hv]; grind
 have hdv : (q.den : Int) ∣ b := by
  have h1 : (q.den : Int).natAbs ∣ q.num.natAbs * b.natAbs := by rw [← Int.natAbs_mul, ← e, Int.natAbs_mul]; exact Nat.dvd_mul_left ..
  exact Int.natAbs_dvd_natAbs.1 (Nat.Coprime.dvd_of_dvd_mul_left (Nat.Coprime.symm (frq_cop q)) h1)
 obtain ⟨t, ht⟩ := hdv
 refine ⟨t, fun h0 => hb (by rw [ht, h0]; simp), ?_, ht⟩
 rw [ht] at e
 have : a * (q.den : Int) = (q.num * t) * (q.den : Int) := by rw [e]; grind
 exact Int.eq_of_mul_eq_mul_right hd this
theorem natAbs_le_mul {a t : Int} (ht : t ≠ 0) : a.natAbs ≤ (a * t).natAbs := by
 rw [Int.natAbs_mul]; exact Nat.le_mul_of_pos_right _ (by omega)
theorem frq_bound {q : Rat} {a b : Int} (hb : b ≠ 0) (h : q * (b : Rat) = (a : Rat)) : q.num.natAbs ≤ a.natAbs ∧ q.den ≤ b.natAbs := by
 obtain ⟨t, h0, h1, h2⟩ := frq_dvd hb h
 refine ⟨by rw [h1]; exact natAbs_le_mul h0, ?_⟩
 rw [h2]
 have := natAbs_le_mul (a := (q.den : Int)) h0
 simpa using this
theorem frq_lowest {q : Rat} {a b : Int} (hb : 0 < b) (h : q * (b : Rat) = (a : Rat)) : frq q = (a / (Int.gcd a b : Int), b / (Int.gcd a b : Int)) := by
 obtain ⟨t, h0, h1, h2⟩ := frq_dvd (by omega) h
 have ht : 0 < t := by
  have : 0 < (q.den : Int) := by have := q.den_nz; omega
  rw [h2] at hb
  exact Int.pos_of_mul_pos_right hb (by omega)
 have hg : (Int.gcd a b : Int) = t := by
  rw [h1, h2, Int.gcd_mul_right, frq_cop]; omega
 rw [hg]
 unfold frq
 rw [h1, h2, Int.mul_ediv_cancel _ (by omega), Int.mul_ediv_cancel _ (by omega)]
theorem frq_mul {p q X Y : Rat} (hX : X * ((q.den : Int) : Rat) = (p.num : Rat)) (hY : Y * ((p.den : Int) : Rat) = (q.num : Rat)) : frq (p * q) = ((frq X).1 * (frq Y).1, (frq X).2 * (frq Y).2) := by
 have hp := p.den_nz
 have hq := q.den_nz
 obtain ⟨t, t0, x1, x2⟩ := frq_dvd (q := X) (a := p.num) (b := (q.den : Int)) (by omega) hX
 obtain ⟨u, u0, y1, y2⟩ := frq_dvd (q := Y) (a := q.num) (b := (p.den : Int)) (by omega) hY
 have hx := X.den_nz
 have hy := Y.den_nz
 refine frq_mk (Int.mul_pos (by show 0 < (X.den : Int); omega) (by show 0 < (Y.den : Int); omega)) ?_ ?_
 ·show Nat.gcd (X.num * Y.num).natAbs ((X.den : Int) * (Y.den : Int)).natAbs = 1
  rw [Int.natAbs_mul, Int.natAbs_mul]
  have d1 : X.num.natAbs ∣ p.num.natAbs := by rw [x1, Int.natAbs_mul]; exact Nat.dvd_mul_right ..
  have d2 : Y.num.natAbs ∣ q.num.natAbs := by rw [y1, Int.natAbs_mul]; exact Nat.dvd_mul_right ..
  have d3 : X.den ∣ q.den := by
   have : (X.den : Int).natAbs ∣ (q.den : Int).natAbs := by rw [x2, Int.natAbs_mul]; exact Nat.dvd_mul_right ..
   simpa using this
  have d4 : Y.den ∣ p.den := by
   have : (Y.den : Int).natAbs ∣ (p.den : Int).natAbs := by rw [y2, Int.natAbs_mul]; exact Nat.dvd_mul_right ..
   simpa using this
  have c1 : Nat.Coprime X.num.natAbs X.den := X.reduced
  have c2 : Nat.Coprime Y.num.natAbs Y.den := Y.reduced
  have c3 : Nat.Coprime X.num.natAbs Y.den := Nat.Coprime.coprime_dvd_left d1 (Nat.Coprime.coprime_dvd_right d4 p.reduced)
  have c4 : Nat.Coprime Y.num.natAbs X.den := Nat.Coprime.coprime_dvd_left d2 (Nat.Coprime.coprime_dvd_right d3 q.reduced)
  exact Nat.Coprime.mul_right (Nat.Coprime.mul_left c1 c4) (Nat.Coprime.mul_left c3 c2)
 ·have v1 := frq_val X
  have v2 := frq_val Y
  have vp := frq_val p
  have vq := frq_val q
  have z1 : ((p.den : Int) : Rat) ≠ 0 := cast_ne (by omega)
  have z2 : ((q.den : Int) : Rat) ≠ 0 := cast_ne (by omega)
  simp only [frq, Rat.intCast_mul]
  generalize ((p.den : Int) : Rat) = pd at *
  generalize ((q.den : Int) : Rat) = qd at *
  generalize ((X.den : Int) : Rat) = xd at *
  generalize ((Y.den : Int) : Rat) = yd at *
  generalize (p.num : Rat) = pn at *
  generalize (q.num : Rat) = qn at *
  generalize (X.num : Rat) = xn at *
  generalize (Y.num : Rat) = yn at *
  have e : p * q = X * Y := by
   have h1 : p * q * (pd * qd) = X * Y * (pd * qd) := by grind
   have h2 : pd * qd ≠ 0 := by grind
   grind
  rw [e]; grind
def lcN (p q : Rat) : Int := p.num * ((q.den : Int) / (Int.gcd p.den q.den : Int)) + q.num * ((p.den : Int) / (Int.gcd p.den q.den : Int))
def lcD (p q : Rat) : Int := (p.den : Int) / (Int.gcd p.den q.den : Int) * (q.den : Int)
theorem frq_add (p q : Rat) : 0 < lcD p q ∧ (p + q) * (lcD p q : Rat) = (lcN p q : Rat) := by
 have hp := p.den_nz
 have hq := q.den_nz
 have hg : (Int.gcd (p.den : Int) (q.den : Int) : Int) ≠ 0 := by
  intro h
  have := Int.gcd_eq_zero_iff.1 (show Int.gcd (p.den : Int) (q.den : Int) = 0 by omega)
  omega
 obtain ⟨a, ha⟩ : (Int.gcd (p.den : Int) (q.den : Int) : Int) ∣ (p.den : Int) := Int.gcd_dvd_left ..
 obtain ⟨b, hb⟩ : (Int.gcd (p.den : Int) (q.den : Int) : Int) ∣ (q.den : Int) := Int.gcd_dvd_right ..
 have e1 : (p.den : Int) / (Int.gcd (p.den : Int) (q.den : Int) : Int) = a := Int.ediv_eq_of_eq_mul_right hg ha
 have e2 : (q.den : Int) / (Int.gcd (p.den : Int) (q.den : Int) : Int) = b := Int.ediv_eq_of_eq_mul_right hg hb
 have vp := frq_val p
 have vq := frq_val q
 unfold lcD lcN
 rw [e1, e2]
 generalize hG : (Int.gcd (p.den : Int) (q.den : Int) : Int) = g at *
 have hgp : 0 < g := by omega
 constructor
 ·have : 0 < a := Int.pos_of_mul_pos_right (a := g) (by omega) hgp
  exact Int.mul_pos this (by omega)
 ·rw [ha] at vp
  rw [hb] at vq ⊢
  simp only [Rat.intCast_mul, Rat.intCast_add] at *
  rw [← vp, ← vq]; grind
theorem lcD_dvd (p q : Rat) {z : Int} (h1 : (p.den : Int) ∣ z) (h2 : (q.den : Int) ∣ z) : lcD p q ∣ z := by
 have hp := p.den_nz
 have hq := q.den_nz
 have hg : (Int.gcd (p.den : Int) (q.den : Int) : Int) ≠ 0 := by
  intro h
  have := Int.gcd_eq_zero_iff.1 (show Int.gcd (p.den : Int) (q.den : Int) = 0 by omega)
  omega
 have h3 : lcD p q = (Nat.lcm p.den q.den : Nat) := by
  unfold lcD
  have hgn : Int.gcd (p.den : Int) (q.den : Int) = Nat.gcd p.den q.den := rfl
  rw [hgn]
  obtain ⟨a, ha⟩ : Nat.gcd p.den q.den ∣ p.den := Nat.gcd_dvd_left ..
  have hgp : 0 < Nat.gcd p.den q.den := Nat.gcd_pos_of_pos_left _ (by omega)
  have hx : p.den / Nat.gcd p.den q.den = a := Nat.div_eq_of_eq_mul_right hgp ha
  have hl : Nat.lcm p.den q.den = a * q.den := by
   unfold Nat.lcm
   conv => lhs; lhs; rw [ha]
   rw [Nat.mul_assoc, Nat.mul_div_cancel_left _ hgp]
  rw [hl, show ((p.den : Int) / (Nat.gcd p.den q.den : Int)) = ((p.den / Nat.gcd p.den q.den : Nat) : Int) from rfl, hx]
  simp
 rw [h3]
 have h4 : Nat.lcm p.den q.den ∣ z.natAbs := Nat.lcm_dvd (by simpa using Int.natAbs_dvd_natAbs.2 h1) (by simpa using Int.natAbs_dvd_natAbs.2 h2)
 exact Int.natAbs_dvd_natAbs.1 (by simpa using h4)
theorem lcN_bound {p q : Rat} {a b P : Int} (hP : P ≠ 0) (h1 : (p.den : Int) ∣ b * P) (h2 : (q.den : Int) ∣ b * P) (hb : b ≠ 0) (h : (p + q) * (P : Rat) = (a : Rat)) : (lcN p q).natAbs ≤ a.natAbs * b.natAbs ∧ (lcD p q).natAbs ≤ b.natAbs * P.natAbs := by
 obtain ⟨h3, h4⟩ := frq_add p q
 have hd : (lcD p q).natAbs ≤ (b * P).natAbs := Nat.le_of_dvd (by rw [Int.natAbs_mul]; exact Nat.mul_pos (by omega) (by omega)) (Int.natAbs_dvd_natAbs.2 (lcD_dvd p q h1 h2))
 rw [Int.natAbs_mul] at hd
 refine ⟨?_, hd⟩
 have e : lcN p q * P = a * lcD p q := by
  apply cast_inj
  simp only [Rat.intCast_mul]
  rw [← h, ← h4]; grind
 have e2 : (lcN p q).natAbs * P.natAbs = a.natAbs * (lcD p q).natAbs := by rw [← Int.natAbs_mul, e, Int.natAbs_mul]
 have e3 : (lcN p q).natAbs * P.natAbs ≤ (a.natAbs * b.natAbs) * P.natAbs := by
  rw [e2, Nat.mul_assoc]; exact Nat.mul_le_mul_left _ hd
 exact Nat.le_of_mul_le_mul_right e3 (by omega)
theorem wrap_self {x : Int} (h : x.natAbs ≤ 9223372036854775807) : wrap64 x = x := by unfold wrap64; omega
theorem gcdE {n d : Int} (hn : n.natAbs ≤ 9223372036854775807) (hd : 0 ≤ d) : Ev (fun k => impl_gcd.f k n d) (Int.gcd n d : Int) :=
 gcdj_ev impl_gcd.l0 impl_gcd.j0 impl_gcd.f (fun _ _ _ => by simp only [impl_gcd.l0]) (fun _ _ _ => by simp only [impl_gcd.j0]) (fun _ _ _ => rfl) (by omega) hd
theorem fracJ {n d : Int} (hn : n.natAbs ≤ 9223372036854775807) (hd : 0 < d) (hd' : d.natAbs ≤ 9223372036854775807) : Ev (fun k => impl_fraction.j0 k n d) (lowest n d) := by
 have hg : (Int.gcd n d : Int) ≠ 0 := by have := gcd_pos (n := n) hd; omega
 obtain ⟨b1, b2, b3, b4⟩ := lowest_bound (n := n) (d := d) hd (B := 9223372036854775807) (by omega) (by omega) (by omega)
 refine ev_step (f := fun k => (impl_gcd.f k n d).bind fun t => (if t = 0 then (none) else (some (wrap64 (Int.tdiv n t), wrap64 (Int.tdiv d t))))) (fun _ => rfl) (ev_bind (gcdE hn (by omega)) (ev_if_neg hg (ev_now fun _ => ?_)))
 rw [tdiv_gcd_left, tdiv_gcd_right]
 rw [wrap_in (x := n / (Int.gcd n d : Int)) (by unfold lowest at b1; omega) (by unfold lowest at b2; omega), wrap_in (x := d / (Int.gcd n d : Int)) (by unfold lowest at b3; omega) (by unfold lowest at b4; omega)]
 rfl
theorem fracE {n d : Int} (hn : n.natAbs ≤ 9223372036854775807) (hd : d ≠ 0) (hd' : d.natAbs ≤ 9223372036854775807) : Ev (fun k => impl_fraction.f k n d) (if d < 0 then lowest (-n) (-d) else lowest n d) := by
 unfold impl_fraction.f
 by_cases h : d < 0
 ·rw [if_pos h]
  refine ev_if_pos h ?_
  rw [wrap_self (x := -n) (by omega), wrap_self (x := -d) (by omega)]
  exact fracJ (by omega) (by omega) (by omega)
 ·rw [if_neg h]
  exact ev_if_neg h (fracJ hn (by omega) hd')
theorem fracQ {q : Rat} {n d : Int} (h : q * (d : Rat) = (n : Rat)) (hn : n.natAbs ≤ 9223372036854775807) (hd : d ≠ 0) (hd' : d.natAbs ≤ 9223372036854775807) : Ev (fun k => impl_fraction.f k n d) (frq q) := by
 refine ev_eq (fracE hn hd hd') ?_
 split
 ·rename_i h0
  rw [frq_lowest (q := q) (a := -n) (b := -d) (by omega) (by simp only [Rat.intCast_neg]; grind)]
  rfl
 ·rw [frq_lowest (q := q) (a := n) (b := d) (by omega) h]
  rfl
theorem adE {p q : Rat} (h1 : p.num.natAbs ≤ 9223372036854775807) (h2 : p.den ≤ 9223372036854775807) (h3 : q.num.natAbs ≤ 9223372036854775807) (h4 : q.den ≤ 9223372036854775807) (h5 : (lcN p q).natAbs ≤ 9223372036854775807) (h6 : (lcD p q).natAbs ≤ 9223372036854775807) : Ev (fun k => impl_addFractions.f k (frq p).1 (frq p).2 (frq q).1 (frq q).2) (frq (p + q)) := by
 have hp := p.den_nz
 have hq := q.den_nz
 obtain ⟨hd, hv⟩ := frq_add p q
 refine ev_bind (gcdE (n := (p.den : Int)) (d := (q.den : Int)) (by simpa using h2) (by omega)) ?_
 have hg : (Int.gcd (p.den : Int) (q.den : Int) : Int) ≠ 0 := by
  intro h
  have := Int.gcd_eq_zero_iff.1 (show Int.gcd (p.den : Int) (q.den : Int) = 0 by omega)
  omega
 have e1 : Int.tdiv (q.den : Int) (Int.gcd (p.den : Int) (q.den : Int) : Int) = (q.den : Int) / (Int.gcd (p.den : Int) (q.den : Int) : Int) := Int.tdiv_eq_ediv_of_nonneg (by omega)
 have e2 : Int.tdiv (p.den : Int) (Int.gcd (p.den : Int) (q.den : Int) : Int) = (p.den : Int) / (Int.gcd (p.den : Int) (q.den : Int) : Int) := Int.tdiv_eq_ediv_of_nonneg (by omega)
 have b1 : (q.den : Int) / (Int.gcd (p.den : Int) (q.den : Int) : Int) ≤ (q.den : Int) := Int.ediv_le_self _ (by omega)
 have b2 : (p.den : Int) / (Int.gcd (p.den : Int) (q.den : Int) : Int) ≤ (p.den : Int) := Int.ediv_le_self _ (by omega)
 have b3 : 0 ≤ (q.den : Int) / (Int.gcd (p.den : Int) (q.den : Int) : Int) := Int.ediv_nonneg (by omega) (by omega)
 have b4 : 0 ≤ (p.den : Int) / (Int.gcd (p.den : Int) (q.den : Int) : Int) := Int.ediv_nonneg (by omega) (by omega)
 refine ev_if_neg hg ?_
 show Ev (fun k => (impl_fraction.f k (wrap64 (wrap64 (p.num * wrap64 (Int.tdiv (q.den : Int) (Int.gcd (p.den : Int) (q.den : Int) : Int))) + wrap64 (q.num * wrap64 (Int.tdiv (p.den : Int) (Int.gcd (p.den : Int) (q.den : Int) : Int))))) (wrap64 (wrap64 (Int.tdiv (p.den : Int) (Int.gcd (p.den : Int) (q.den : Int) : Int)) * (q.den : Int)))).bind fun bt => some (bt.1, bt.2)) _
 rw [e1, e2, wrap_self (x := (q.den : Int) / _) (by omega), wrap_self (x := (p.den : Int) / _) (by omega)]
 have e3 : wrap64 (wrap64 (p.num * ((q.den : Int) / (Int.gcd (p.den : Int) (q.den : Int) : Int))) + wrap64 (q.num * ((p.den : Int) / (Int.gcd (p.den : Int) (q.den : Int) : Int)))) = lcN p q := by
  have : lcN p q = p.num * ((q.den : Int) / (Int.gcd (p.den : Int) (q.den : Int) : Int)) + q.num * ((p.den : Int) / (Int.gcd (p.den : Int) (q.den : Int) : Int)) := rfl
  rw [this] at h5 ⊢
  generalize p.num * ((q.den : Int) / (Int.gcd (p.den : Int) (q.den : Int) : Int)) = u at *
  generalize q.num * ((p.den : Int) / (Int.gcd (p.den : Int) (q.den : Int) : Int)) = v at *
  unfold wrap64; omega
 have e4 : wrap64 ((p.den : Int) / (Int.gcd (p.den : Int) (q.den : Int) : Int) * (q.den : Int)) = lcD p q := by
  rw [show (p.den : Int) / (Int.gcd (p.den : Int) (q.den : Int) : Int) * (q.den : Int) = lcD p q from rfl]
  exact wrap_self h6
 rw [e3, e4]
 refine ev_bind (f := fun _ (bt : Int × Int) => some (bt.1, bt.2)) (fracQ hv h5 (Int.ne_of_gt hd) h6) (ev_now fun _ => ?_)
 rfl
theorem sgcdE {n d : Int} (hn : n.natAbs ≤ 9223372036854775807) (h0 : 0 ≤ n) (hd : 0 ≤ d) : Ev (fun k => spec_l00Gcd.f k n d) (Int.gcd n d : Int) :=
 gcd_ev spec_l00Gcd.l0 (fun _ _ _ => rfl) n d h0 hd
theorem makeQ {q : Rat} {n d : Int} (h : q * (d : Rat) = (n : Rat)) (hn : n.natAbs ≤ 9223372036854775807) (hd : 0 < d) (hd' : d.natAbs ≤ 9223372036854775807) : Ev (fun k => spec_l01Make.f k n d) (frq q) := by
 refine ev_eq (make_ev spec_l00Gcd.l0 (fun _ _ _ => rfl) spec_l01Make.f (fun _ _ _ => rfl) (n := n) (d := d) (by omega) (by omega) hd (by omega)) ?_
 rw [frq_lowest hd h]
 rfl
theorem sumE {p q : Rat} (h1 : p.num.natAbs ≤ 9223372036854775807) (h2 : p.den ≤ 9223372036854775807) (h3 : q.num.natAbs ≤ 9223372036854775807) (h4 : q.den ≤ 9223372036854775807) (h5 : (lcN p q).natAbs ≤ 9223372036854775807) (h6 : (lcD p q).natAbs ≤ 9223372036854775807) : Ev (fun k => spec_l13Sum.f k (frq p).1 (frq p).2 (frq q).1 (frq q).2) (frq (p + q)) := by
 have hp := p.den_nz
 have hq := q.den_nz
 obtain ⟨hd, hv⟩ := frq_add p q
 refine ev_bind (sgcdE (n := (p.den : Int)) (d := (q.den : Int)) (by simpa using h2) (by omega) (by omega)) ?_
 have hg : (Int.gcd (p.den : Int) (q.den : Int) : Int) ≠ 0 := by
  intro h
  have := Int.gcd_eq_zero_iff.1 (show Int.gcd (p.den : Int) (q.den : Int) = 0 by omega)
  omega
 have e1 : Int.tdiv (q.den : Int) (Int.gcd (p.den : Int) (q.den : Int) : Int) = (q.den : Int) / (Int.gcd (p.den : Int) (q.den : Int) : Int) := Int.tdiv_eq_ediv_of_nonneg (by omega)
 have e2 : Int.tdiv (p.den : Int) (Int.gcd (p.den : Int) (q.den : Int) : Int) = (p.den : Int) / (Int.gcd (p.den : Int) (q.den : Int) : Int) := Int.tdiv_eq_ediv_of_nonneg (by omega)
 have b1 : (q.den : Int) / (Int.gcd (p.den : Int) (q.den : Int) : Int) ≤ (q.den : Int) := Int.ediv_le_self _ (by omega)
 have b2 : (p.den : Int) / (Int.gcd (p.den : Int) (q.den : Int) : Int) ≤ (p.den : Int) := Int.ediv_le_self _ (by omega)
 have b3 : 0 ≤ (q.den : Int) / (Int.gcd (p.den : Int) (q.den : Int) : Int) := Int.ediv_nonneg (by omega) (by omega)
 have b4 : 0 ≤ (p.den : Int) / (Int.gcd (p.den : Int) (q.den : Int) : Int) := Int.ediv_nonneg (by omega) (by omega)
 refine ev_if_neg hg ?_
 show Ev (fun k => (spec_l01Make.f k (wrap64 (wrap64 (p.num * wrap64 (Int.tdiv (q.den : Int) (Int.gcd (p.den : Int) (q.den : Int) : Int))) + wrap64 (q.num * wrap64 (Int.tdiv (p.den : Int) (Int.gcd (p.den : Int) (q.den : Int) : Int))))) (wrap64 (wrap64 (Int.tdiv (p.den : Int) (Int.gcd (p.den : Int) (q.den : Int) : Int)) * (q.den : Int)))).bind fun bt => some (bt.1, bt.2)) _
 rw [e1, e2, wrap_self (x := (q.den : Int) / _) (by omega), wrap_self (x := (p.den : Int) / _) (by omega)]
 have e3 : wrap64 (wrap64 (p.num * ((q.den : Int) / (Int.gcd (p.den : Int) (q.den : Int) : Int))) + wrap64 (q.num * ((p.den : Int) / (Int.gcd (p.den : Int) (q.den : Int) : Int)))) = lcN p q := by
  have : lcN p q = p.num * ((q.den : Int) / (Int.gcd (p.den : Int) (q.den : Int) : Int)) + q.num * ((p.den : Int) / (Int.gcd (p.den : Int) (q.den : Int) : Int)) := rfl
  rw [this] at h5 ⊢
  generalize p.num * ((q.den : Int) / (Int.gcd (p.den : Int) (q.den : Int) : Int)) = u at *
  generalize q.num * ((p.den : Int) / (Int.gcd (p.den : Int) (q.den : Int) : Int)) = v at *
  unfold wrap64; omega
 have e4 : wrap64 ((p.den : Int) / (Int.gcd (p.den : Int) (q.den : Int) : Int) * (q.den : Int)) = lcD p q := by
  rw [show (p.den : Int) / (Int.gcd (p.den : Int) (q.den : Int) : Int) * (q.den : Int) = lcD p q from rfl]
  exact wrap_self h6
 rw [e3, e4]
 refine ev_bind (f := fun _ (bt : Int × Int) => some (bt.1, bt.2)) (makeQ hv h5 hd h6) (ev_now fun _ => ?_)
 rfl
theorem ev_succ {α : Type} {g : Nat → Option α} {r : α} (h : Ev (fun k => g (k + 1)) r) : Ev g r := ev_step (f := fun k => g (k + 1)) (fun _ => rfl) h
theorem u64w {x : Int} (h0 : 0 ≤ x) (h1 : x < 18446744073709551616) : IntKind.u64.wrap x = x := by
 show (if (false && decide (x % 2 ^ 64 ≥ 2 ^ 63)) = true then x % 2 ^ 64 - 2 ^ 64 else x % 2 ^ 64) = x
 simp only [Bool.false_and, Bool.false_eq_true, if_false]
 omega
theorem and_low {a : Int} (h0 : 0 ≤ a) (h1 : a < 4294967296) : Go.bits .and .u64 a 4294967295 = a := by
 obtain ⟨n, rfl⟩ : ∃ n : Nat, a = (n : Int) := ⟨a.toNat, by omega⟩
 have e1 : (BitVec.ofInt 64 (n : Int)).toNat = n := by rw [BitVec.ofInt_natCast, BitVec.toNat_ofNat]; exact Nat.mod_eq_of_lt (by omega)
 show IntKind.u64.wrap ((((BitVec.ofInt 64 (n : Int)) &&& (BitVec.ofInt 64 (4294967295 : Int))).toNat : Nat) : Int) = (n : Int)
 rw [BitVec.toNat_and, e1, show (BitVec.ofInt 64 (4294967295 : Int)).toNat = 2 ^ 32 - 1 from by decide, Nat.and_two_pow_sub_one_eq_mod, Nat.mod_eq_of_lt (by omega)]
 exact u64w (by omega) (by omega)
theorem mul_lt64 {a b : Int} (h0 : 0 ≤ a) (h1 : a < 4294967296) (h2 : 0 ≤ b) (h3 : b < 4294967296) : 0 ≤ a * b ∧ a * b < 18446744073709551616 := by
 refine ⟨Int.mul_nonneg h0 h2, ?_⟩
 have : a * b ≤ 4294967295 * 4294967295 := Int.mul_le_mul (by omega) (by omega) h2 (by omega)
 omega
theorem mulE {a b : Int} (h0 : 0 ≤ a) (h1 : a < 4294967296) (h2 : 0 ≤ b) (h3 : b < 4294967296) : bits_Mul64.f a b = some (0, a * b) := by
 obtain ⟨m1, m2⟩ := mul_lt64 h0 h1 h2 h3
 have ea : a / 4294967296 = 0 := by omega
 have eb : b / 4294967296 = 0 := by omega
 have em : a * b / 4294967296 < 4294967296 := by omega
 have em0 : 0 ≤ a * b / 4294967296 := by omega
 unfold bits_Mul64.f
 rw [and_low h0 h1, and_low h2 h3, ea, eb]
 simp only [Int.zero_mul, Int.mul_zero, Int.zero_add, Int.add_zero]
 rw [u64w m1 m2, show IntKind.u64.wrap 0 = 0 from by decide]
 simp only [Int.zero_add, Int.add_zero]
 rw [u64w em0 (by omega), and_low em0 em, u64w em0 (by omega)]
 rw [show a * b / 4294967296 / 4294967296 = 0 from by omega]
 rfl
def sgn3 (n : Int) : Int := if n > 0 then 1 else if n < 0 then -1 else 0
theorem signE (n : Int) : impl_sign.f n = some (sgn3 n) := by
 unfold impl_sign.f sgn3
 split
 ·rfl
 ·split <;> rfl
def cmp3 (a b : Int) : Int := if a < b then -1 else if a > b then 1 else 0
theorem cmpI64 (a b : Int) : cmp_Compare_int64.f a b = some (cmp3 a b) := by
 unfold cmp_Compare_int64.f cmp_isNaN_int64.f cmp3
 simp only [bne_self_eq_false, Option.bind_some, Bool.false_eq_true, if_false]
 split
 ·rfl
 ·split <;> rfl
theorem cmpU64 (a b : Int) : cmp_Compare_uint64.f a b = some (cmp3 a b) := by
 unfold cmp_Compare_uint64.f cmp_isNaN_uint64.f cmp3
 simp only [bne_self_eq_false, Option.bind_some, Bool.false_eq_true, if_false]
 split
 ·rfl
 ·split <;> rfl
theorem orE (x y : Int) : Ev (fun k => cmp_Or_int.f k [x, y]) (if x = 0 then y else x) := by
 unfold cmp_Or_int.f
 refine ev_succ ?_
 simp only [cmp_Or_int.l0]
 have r0 : rd [x, y] 0 = x := rfl
 have r1 : rd [x, y] 1 = y := rfl
 have w0 : wrap64 ((0 : Int) + 1) = 1 := by unfold wrap64; omega
 have w1 : wrap64 ((1 : Int) + 1) = 2 := by unfold wrap64; omega
 rw [w0, r0]
 refine ev_if_pos (by simp) (ev_if_pos (by omega) (ev_if_pos (by simp) ?_))
 by_cases hx : x = 0
 ·rw [if_pos hx]
  refine ev_if_pos hx (ev_succ ?_)
  simp only [cmp_Or_int.l0]
  rw [w1, r1]
  refine ev_if_pos (by simp) (ev_if_pos (by omega) (ev_if_pos (by simp) ?_))
  by_cases hy : y = 0
  ·refine ev_if_pos hy (ev_succ ?_)
   simp only [cmp_Or_int.l0]
   rw [hy]
   exact ev_if_neg (by simp) (ev_now fun _ => rfl)
  ·exact ev_if_neg hy (ev_now fun _ => rfl)
 ·rw [if_neg hx]
  exact ev_if_neg hx (ev_now fun _ => rfl)
theorem sizeE {n : Int} (h : n.natAbs ≤ 1000000000) : impl_size.f n = some (n.natAbs : Int) := by
 unfold impl_size.f
 by_cases h0 : n < 0
 ·rw [if_pos h0, wrap_in (by omega) (by omega), u64w (by omega) (by omega)]
  congr 1; omega
 ·rw [if_neg h0, u64w (by omega) (by omega)]
  congr 1; omega
theorem prodE {a b c d : Int} (a0 : 0 ≤ a) (a1 : a < 4294967296) (b0 : 0 ≤ b) (b1 : b < 4294967296) (c0 : 0 ≤ c) (c1 : c < 4294967296) (d0 : 0 ≤ d) (d1 : d < 4294967296) : Ev (fun k => impl_compareProducts.f k a b c d) (cmp3 (a * b) (c * d)) := by
 unfold impl_compareProducts.f
 rw [mulE a0 a1 b0 b1, mulE c0 c1 d0 d1]
 simp only [Option.bind_some, cmpU64]
 refine ev_bind (orE _ _) (ev_now fun _ => ?_)
 rw [if_pos (show cmp3 0 0 = 0 from rfl)]
theorem cmpFr {n1 d1 n2 d2 : Int} (a1 : n1.natAbs ≤ 8000000) (b1 : 0 < d1) (c1 : d1 ≤ 8000000) (a2 : n2.natAbs ≤ 8000000) (b2 : 0 < d2) (c2 : d2 ≤ 8000000) :
  ∃ c, Ev (fun k => impl_compareFractions.f k n1 d1 n2 d2) c ∧ (c < 0 ↔ n1 * d2 < n2 * d1) ∧ (c > 0 ↔ n1 * d2 > n2 * d1) := by
 have hp := prodE (a := (n1.natAbs : Int)) (b := (d2.natAbs : Int)) (c := (n2.natAbs : Int)) (d := (d1.natAbs : Int)) (by omega) (by omega) (by omega) (by omega) (by omega) (by omega) (by omega) (by omega)
 refine ⟨if cmp3 (sgn3 n1) (sgn3 n2) = 0 then wrap64 (sgn3 n1 * cmp3 ((n1.natAbs : Int) * (d2.natAbs : Int)) ((n2.natAbs : Int) * (d1.natAbs : Int))) else cmp3 (sgn3 n1) (sgn3 n2), ?_, ?_⟩
 ·unfold impl_compareFractions.f
  rw [signE, signE, sizeE (n := n1) (by omega), sizeE (n := d2) (by omega), sizeE (n := n2) (by omega), sizeE (n := d1) (by omega)]
  simp only [Option.bind_some, cmpI64]
  exact ev_bind hp (ev_bind (orE _ _) (ev_now fun _ => rfl))
 ·have e1 : (d1.natAbs : Int) = d1 := by omega
  have e2 : (d2.natAbs : Int) = d2 := by omega
  rw [e1, e2]
  have s1 : (0 < n1 → 0 < n1 * d2) ∧ (n1 < 0 → n1 * d2 < 0) ∧ (n1 = 0 → n1 * d2 = 0) := ⟨fun h => Int.mul_pos h b2, fun h => Int.mul_neg_of_neg_of_pos h b2, fun h => by rw [h]; simp⟩
  have s2 : (0 < n2 → 0 < n2 * d1) ∧ (n2 < 0 → n2 * d1 < 0) ∧ (n2 = 0 → n2 * d1 = 0) := ⟨fun h => Int.mul_pos h b1, fun h => Int.mul_neg_of_neg_of_pos h b1, fun h => by rw [h]; simp⟩
  have t1 : (n1.natAbs : Int) * d2 = if n1 < 0 then -(n1 * d2) else n1 * d2 := by
   split
   ·rw [show (n1.natAbs : Int) = -n1 from by omega, Int.neg_mul]
   ·rw [show (n1.natAbs : Int) = n1 from by omega]
  have t2 : (n2.natAbs : Int) * d1 = if n2 < 0 then -(n2 * d1) else n2 * d1 := by
   split
   ·rw [show (n2.natAbs : Int) = -n2 from by omega, Int.neg_mul]
   ·rw [show (n2.natAbs : Int) = n2 from by omega]
  rw [t1, t2]
  generalize n1 * d2 = P at *
  generalize n2 * d1 = Q at *
  have w : ∀ x y : Int, wrap64 (1 * cmp3 x y) = cmp3 x y ∧ wrap64 (-1 * cmp3 x y) = -cmp3 x y ∧ wrap64 (0 * cmp3 x y) = 0 := fun x y => by
   unfold cmp3
   split
   ·refine ⟨?_, ?_, ?_⟩ <;> (unfold wrap64; omega)
   ·split
    ·refine ⟨?_, ?_, ?_⟩ <;> (unfold wrap64; omega)
    ·refine ⟨?_, ?_, ?_⟩ <;> (unfold wrap64; omega)
  rcases Int.lt_trichotomy n1 0 with h1 | h1 | h1
  ·rw [show sgn3 n1 = -1 from by unfold sgn3; rw [if_neg (by omega), if_pos h1], if_pos h1]
   rcases Int.lt_trichotomy n2 0 with h2 | h2 | h2
   ·rw [show sgn3 n2 = -1 from by unfold sgn3; rw [if_neg (by omega), if_pos h2], if_pos h2, if_pos (show cmp3 (-1) (-1) = 0 from rfl), (w _ _).2.1]
    unfold cmp3
    split
    ·omega
    ·split <;> omega
   ·rw [show sgn3 n2 = 0 from by unfold sgn3; rw [if_neg (by omega), if_neg (by omega)], if_neg (show ¬ cmp3 (-1) 0 = 0 from by decide), show cmp3 (-1) 0 = -1 from rfl]
    have := s1.2.1 h1
    have := s2.2.2 h2
    omega
   ·rw [show sgn3 n2 = 1 from by unfold sgn3; rw [if_pos h2], if_neg (show ¬ cmp3 (-1) 1 = 0 from by decide), show cmp3 (-1) 1 = -1 from rfl]
    have := s1.2.1 h1
    have := s2.1 h2
    omega
  ·rw [show sgn3 n1 = 0 from by unfold sgn3; rw [if_neg (by omega), if_neg (by omega)]]
   rcases Int.lt_trichotomy n2 0 with h2 | h2 | h2
   ·rw [show sgn3 n2 = -1 from by unfold sgn3; rw [if_neg (by omega), if_pos h2], if_neg (show ¬ cmp3 0 (-1) = 0 from by decide), show cmp3 0 (-1) = 1 from rfl]
    have := s1.2.2 h1
    have := s2.2.1 h2
    omega
   ·rw [show sgn3 n2 = 0 from by unfold sgn3; rw [if_neg (by omega), if_neg (by omega)], if_pos (show cmp3 0 0 = 0 from rfl), (w _ _).2.2]
    have := s1.2.2 h1
    have := s2.2.2 h2
    omega
   ·rw [show sgn3 n2 = 1 from by unfold sgn3; rw [if_pos h2], if_neg (show ¬ cmp3 0 1 = 0 from by decide), show cmp3 0 1 = -1 from rfl]
    have := s1.2.2 h1
    have := s2.1 h2
    omega
  ·rw [show sgn3 n1 = 1 from by unfold sgn3; rw [if_pos h1], if_neg (show ¬ n1 < 0 from by omega)]
   rcases Int.lt_trichotomy n2 0 with h2 | h2 | h2
   ·rw [show sgn3 n2 = -1 from by unfold sgn3; rw [if_neg (by omega), if_pos h2], if_neg (show ¬ cmp3 1 (-1) = 0 from by decide), show cmp3 1 (-1) = 1 from rfl]
    have := s1.1 h1
    have := s2.2.1 h2
    omega
   ·rw [show sgn3 n2 = 0 from by unfold sgn3; rw [if_neg (by omega), if_neg (by omega)], if_neg (show ¬ cmp3 1 0 = 0 from by decide), show cmp3 1 0 = 1 from rfl]
    have := s1.1 h1
    have := s2.2.2 h2
    omega
   ·rw [show sgn3 n2 = 1 from by unfold sgn3; rw [if_pos h2], if_neg (show ¬ n2 < 0 from by omega), if_pos (show cmp3 1 1 = 0 from rfl), (w _ _).1]
    unfold cmp3
    split
    ·omega
    ·split <;> omega
def fS (q : Rat) : S25 := ⟨q.num, (q.den : Int)⟩
def sm (q : Rat) : Prop := q.num.natAbs ≤ 8000000 ∧ q.den ≤ 2000
def mnI (L : List Rat) : Nat → Rat
 | 0 => L.getD 0 0
 | i + 1 => if L.getD i 0 < mnI L i then L.getD i 0 else mnI L i
def mxI (L : List Rat) : Nat → Rat
 | 0 => L.getD 0 0
 | i + 1 => if mxI L i < L.getD i 0 then L.getD i 0 else mxI L i
theorem mnI_one (L : List Rat) : mnI L 1 = L.getD 0 0 := by
 show (if L.getD 0 0 < L.getD 0 0 then L.getD 0 0 else L.getD 0 0) = _
 split <;> rfl
theorem mxI_one (L : List Rat) : mxI L 1 = L.getD 0 0 := by
 show (if L.getD 0 0 < L.getD 0 0 then L.getD 0 0 else L.getD 0 0) = _
 split <;> rfl
theorem mnI_mem (L : List Rat) : ∀ i, 1 ≤ i → ∃ j, j < i ∧ mnI L i = L.getD j 0
 | 0, h => by omega
 | 1, _ => ⟨0, by omega, mnI_one L⟩
 | i + 2, _ => by
  obtain ⟨j, h1, h2⟩ := mnI_mem L (i + 1) (by omega)
  unfold mnI
  split
  ·exact ⟨i + 1, by omega, rfl⟩
  ·exact ⟨j, by omega, h2⟩
theorem mxI_mem (L : List Rat) : ∀ i, 1 ≤ i → ∃ j, j < i ∧ mxI L i = L.getD j 0
 | 0, h => by omega
 | 1, _ => ⟨0, by omega, mxI_one L⟩
 | i + 2, _ => by
  obtain ⟨j, h1, h2⟩ := mxI_mem L (i + 1) (by omega)
  unfold mxI
  split
  ·exact ⟨i + 1, by omega, rfl⟩
  ·exact ⟨j, by omega, h2⟩
theorem mnI_le (L : List Rat) : ∀ i j, j < i → mnI L i ≤ L.getD j 0
 | 0, j, h => by omega
 | i + 1, j, h => by
  have ih := mnI_le L i j
  unfold mnI
  rcases Nat.lt_or_ge j i with h1 | h1
  ·have := ih h1
   split
   ·rename_i h2; exact Rat.le_trans (Rat.le_of_lt h2) this
   ·exact this
  ·obtain rfl : j = i := by omega
   split
   ·exact Rat.le_refl
   ·rename_i h2; exact Rat.not_lt.1 h2
theorem mxI_le (L : List Rat) : ∀ i j, j < i → L.getD j 0 ≤ mxI L i
 | 0, j, h => by omega
 | i + 1, j, h => by
  have ih := mxI_le L i j
  unfold mxI
  rcases Nat.lt_or_ge j i with h1 | h1
  ·have := ih h1
   split
   ·rename_i h2; exact Rat.le_trans this (Rat.le_of_lt h2)
   ·exact this
  ·obtain rfl : j = i := by omega
   split
   ·exact Rat.le_refl
   ·rename_i h2; exact Rat.not_lt.1 h2
theorem rdS {L : List Rat} {i : Nat} (h : i < L.length) : rd_T25 (L.map fS) (i : Int) = fS (L.getD i 0) := by
 show (L.map fS).getD (Int.toNat (i : Int)) z25 = _
 rw [Int.toNat_natCast, List.getD_eq_getElem?_getD, List.getElem?_map, List.getD_eq_getElem?_getD, List.getElem?_eq_getElem h]
 rfl
theorem getD_of {L : List Rat} (P : Rat → Prop) (hL : ∀ q ∈ L, P q) {i : Nat} (h : i < L.length) : P (L.getD i 0) := by
 rw [List.getD_eq_getElem?_getD, List.getElem?_eq_getElem h]
 exact hL _ (List.getElem_mem h)
theorem cmpQ {p q : Rat} (hp : sm p) (hq : sm q) : ∃ c, Ev (fun k => impl_compareFractions.f k p.num (p.den : Int) q.num (q.den : Int)) c ∧ (c < 0 ↔ p < q) ∧ (c > 0 ↔ q < p) := by
 have h1 := p.den_nz
 have h2 := q.den_nz
 obtain ⟨c, c1, c2, c3⟩ := cmpFr (n1 := p.num) (d1 := (p.den : Int)) (n2 := q.num) (d2 := (q.den : Int)) hp.1 (by omega) (by have := hp.2; omega) hq.1 (by omega) (by have := hq.2; omega)
 exact ⟨c, c1, by rw [c2, Rat.lt_iff], by rw [c3, Rat.lt_iff]⟩
theorem minE (L : List Rat) (h0 : 0 < L.length) (h1 : L.length ≤ 1000000) (hs : ∀ q ∈ L, sm q) : Ev (fun k => impl_Fraction_61.f k (L.map fS)) (frq (mnI L L.length)) := by
 unfold impl_Fraction_61.f
 rw [List.length_map]
 refine ev_if_neg (by omega) (ev_if_pos (by omega) ?_)
 have r0 : rd_T25 (L.map fS) 0 = fS (mnI L 1) := by rw [mnI_one]; exact rdS h0
 rw [r0]
 refine loop_up' (fun k i => impl_Fraction_61.l0 k (L.map fS) (i : Int) (mnI L i).num ((mnI L i).den : Int)) L.length _ (fun i => 1 ≤ i) (fun i hi hI => .inl ⟨by omega, fun hn => ?_⟩) (fun _ => ?_) _ 1 rfl (by omega) (by omega)
 ·have hx := getD_of sm hs hi
  obtain ⟨j, j1, j2⟩ := mnI_mem L i hI
  have hm : sm (mnI L i) := by rw [j2]; exact getD_of sm hs (by omega)
  obtain ⟨c, c1, c2, _⟩ := cmpQ hx hm
  refine ev_succ ?_
  simp only [impl_Fraction_61.l0]
  rw [List.length_map, rdS hi, succ_cast i (by omega)]
  refine ev_if_pos (by omega) (ev_if_pos (by omega) (ev_bind c1 ?_))
  have e : mnI L (i + 1) = if L.getD i 0 < mnI L i then L.getD i 0 else mnI L i := rfl
  rw [e] at hn
  by_cases h : L.getD i 0 < mnI L i
  ·rw [if_pos h] at hn
   exact ev_if_pos (c2.2 h) hn
  ·rw [if_neg h] at hn
   exact ev_if_neg (fun h' => h (c2.1 h')) hn
 ·refine ev_succ ?_
  simp only [impl_Fraction_61.l0]
  rw [List.length_map]
  exact ev_if_neg (by omega) (ev_now fun _ => rfl)
theorem maxE (L : List Rat) (h0 : 0 < L.length) (h1 : L.length ≤ 1000000) (hs : ∀ q ∈ L, sm q) : Ev (fun k => impl_Fraction_63.f k (L.map fS)) (frq (mxI L L.length)) := by
 unfold impl_Fraction_63.f
 rw [List.length_map]
 refine ev_if_neg (by omega) (ev_if_pos (by omega) ?_)
 have r0 : rd_T25 (L.map fS) 0 = fS (mxI L 1) := by rw [mxI_one]; exact rdS h0
 rw [r0]
 refine loop_up' (fun k i => impl_Fraction_63.l0 k (L.map fS) (i : Int) (mxI L i).num ((mxI L i).den : Int)) L.length _ (fun i => 1 ≤ i) (fun i hi hI => .inl ⟨by omega, fun hn => ?_⟩) (fun _ => ?_) _ 1 rfl (by omega) (by omega)
 ·have hx := getD_of sm hs hi
  obtain ⟨j, j1, j2⟩ := mxI_mem L i hI
  have hm : sm (mxI L i) := by rw [j2]; exact getD_of sm hs (by omega)
  obtain ⟨c, c1, _, c2⟩ := cmpQ hx hm
  refine ev_succ ?_
  simp only [impl_Fraction_63.l0]
  rw [List.length_map, rdS hi, succ_cast i (by omega)]
  refine ev_if_pos (by omega) (ev_if_pos (by omega) (ev_bind c1 ?_))
  have e : mxI L (i + 1) = if mxI L i < L.getD i 0 then L.getD i 0 else mxI L i := rfl
  rw [e] at hn
  by_cases h : mxI L i < L.getD i 0
  ·rw [if_pos h] at hn
   exact ev_if_pos (c2.2 h) hn
  ·rw [if_neg h] at hn
   exact ev_if_neg (fun h' => h (c2.1 h')) hn
 ·refine ev_succ ?_
  simp only [impl_Fraction_63.l0]
  rw [List.length_map]
  exact ev_if_neg (by omega) (ev_now fun _ => rfl)
end Go.Proofs.Ytcomncokgkeniaa.Pure

