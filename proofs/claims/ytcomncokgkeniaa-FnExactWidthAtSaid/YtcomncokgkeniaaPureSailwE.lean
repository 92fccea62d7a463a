import Derived.Test.YtcomncokgkeniaaHSailw0
import Derived.Test.YtcomncokgkeniaaPlain
import Derived.Test.YtcomncokgkeniaaPureSailwA
import Derived.Test.YtcomncokgkeniaaPureSailwB
import Derived.Test.YtcomncokgkeniaaPureSailwC
import Derived.Test.YtcomncokgkeniaaPureSailwD
namespace Go.Proofs.Ytcomncokgkeniaa.Pure
open Go.RowKit Go.Proofs.Ytcomncokgkeniaa.PSailw Go.Proofs.Ytcomncokgkeniaa.Plain Go.Proofs.YtcomncokgkeniaaW.PrintWords Go.Proofs.YtcomncokgkeniaaW.PrintMore
set_option linter.unusedVariables false
set_option linter.unusedSimpArgs false
theorem vQ_left {l : List S49} {y : Int} {i : Nat} (h : Y l i ≠ Y l (nx l i 1)) (e : Y l i = y) : vQ l y i = ((X l i : Int) : Rat) := by
 have h0 : ((vD l i : Int) : Rat) ≠ 0 := cast_ne (by unfold vD; omega)
 have hv := vQ_val (y := y) h
 have e1 : vN l y i = X l i * vD l i := by unfold vN vD; rw [e, Int.sub_self, Int.mul_zero, Int.add_zero]
 rw [e1, Rat.intCast_mul] at hv
 grind
theorem vQ_right {l : List S49} {y : Int} {i : Nat} (h : Y l i ≠ Y l (nx l i 1)) (e : Y l (nx l i 1) = y) : vQ l y i = ((X l (nx l i 1) : Int) : Rat) := by
 have h0 : ((vD l i : Int) : Rat) ≠ 0 := cast_ne (by unfold vD; omega)
 have hv := vQ_val (y := y) h
 have e1 : vN l y i = X l (nx l i 1) * vD l i := by unfold vN vD; rw [e, Int.sub_self, Int.mul_zero, Int.zero_add]
 rw [e1, Rat.intCast_mul] at hv
 grind
theorem e_mem {l : List S49} {y : Int} {i : Nat} (hi : i < l.length) (hr : inR l y i) : eX l y i ∈ plA l y l.length ∧ eZ l y i ∈ plA l y l.length := by
 have hn := nx_lt l i 1 (by omega)
 unfold inR at hr
 unfold eX eZ
 by_cases h : Y l i = Y l (nx l i 1)
 ·rw [if_pos h, if_pos h]
  exact ⟨(pl_mem _ _ _ _).2 ⟨i, hi, .inl ⟨by omega, rfl⟩⟩, (pl_mem _ _ _ _).2 ⟨nx l i 1, hn, .inl ⟨by omega, rfl⟩⟩⟩
 ·rw [if_neg h, if_neg h]
  have key : vQ l y i ∈ plA l y l.length := by
   by_cases h1 : Y l i = y
   ·rw [vQ_left h h1]
    exact (pl_mem _ _ _ _).2 ⟨i, hi, .inl ⟨h1, rfl⟩⟩
   ·by_cases h2 : Y l (nx l i 1) = y
    ·rw [vQ_right h h2]
     exact (pl_mem _ _ _ _).2 ⟨nx l i 1, hn, .inl ⟨h2, rfl⟩⟩
    ·exact (pl_mem _ _ _ _).2 ⟨i, hi, .inr ⟨by unfold stc; omega, rfl⟩⟩
  exact ⟨key, key⟩
theorem mem_e {l : List S49} {y : Int} {q : Rat} (hq : q ∈ plA l y l.length) : ∃ i, i < l.length ∧ inR l y i ∧ q = eX l y i := by
 obtain ⟨i, hi, h⟩ := (pl_mem _ _ _ _).1 hq
 refine ⟨i, hi, ?_⟩
 unfold inR eX
 rcases h with ⟨e, rfl⟩ | ⟨e, rfl⟩
 ·refine ⟨by omega, ?_⟩
  by_cases h : Y l i = Y l (nx l i 1)
  ·rw [if_pos h]
  ·rw [if_neg h, vQ_left h e]
 ·have hne := stc_ne e
  unfold stc at e
  refine ⟨by omega, ?_⟩
  rw [if_neg hne]
theorem lq_le (a b : Rat) : lq a b ≤ a ∧ lq a b ≤ b ∧ (lq a b = a ∨ lq a b = b) := by
 unfold lq
 split
 ·rename_i h; exact ⟨Rat.le_of_lt h, Rat.le_refl, .inr rfl⟩
 ·rename_i h; exact ⟨Rat.le_refl, Rat.not_lt.1 h, .inl rfl⟩
theorem gq_le (a b : Rat) : a ≤ gq a b ∧ b ≤ gq a b ∧ (gq a b = a ∨ gq a b = b) := by
 unfold gq
 split
 ·rename_i h; exact ⟨Rat.le_of_lt h, Rat.le_refl, .inr rfl⟩
 ·rename_i h; exact ⟨Rat.le_refl, Rat.not_lt.1 h, .inl rfl⟩
theorem lo_spec (l : List S49) (y : Int) : ∀ n, (∀ i, i < n → inR l y i → loA l y n ≤ eX l y i ∧ loA l y n ≤ eZ l y i) ∧ (loA l y n = ((2000 : Int) : Rat) ∨ ∃ i, i < n ∧ inR l y i ∧ (loA l y n = eX l y i ∨ loA l y n = eZ l y i))
 | 0 => ⟨fun i hi => by omega, .inl rfl⟩
 | n + 1 => by
  obtain ⟨ih1, ih2⟩ := lo_spec l y n
  have e : loA l y (n + 1) = if inR l y n then lq (lq (loA l y n) (eX l y n)) (eZ l y n) else loA l y n := rfl
  by_cases hr : inR l y n
  ·rw [if_pos hr] at e
   obtain ⟨a1, a2, a3⟩ := lq_le (loA l y n) (eX l y n)
   obtain ⟨b1, b2, b3⟩ := lq_le (lq (loA l y n) (eX l y n)) (eZ l y n)
   rw [← e] at b1 b2 b3
   have c := Rat.le_trans b1 a1
   refine ⟨fun i hi hri => ?_, ?_⟩
   ·rcases Nat.lt_or_ge i n with h | h
    ·obtain ⟨d1, d2⟩ := ih1 i h hri
     exact ⟨Rat.le_trans c d1, Rat.le_trans c d2⟩
    ·obtain rfl : i = n := by omega
     exact ⟨Rat.le_trans b1 a2, b2⟩
   ·rcases b3 with b3 | b3
    ·rcases a3 with a3 | a3
     ·rcases ih2 with d | ⟨i, i1, i2, i3⟩
      ·exact .inl (b3.trans (a3.trans d))
      ·exact .inr ⟨i, by omega, i2, by rw [b3, a3]; exact i3⟩
     ·exact .inr ⟨n, by omega, hr, .inl (b3.trans a3)⟩
    ·exact .inr ⟨n, by omega, hr, .inr b3⟩
  ·rw [if_neg hr] at e
   rw [e]
   refine ⟨fun i hi hri => ?_, ?_⟩
   ·rcases Nat.lt_or_ge i n with h | h
    ·exact ih1 i h hri
    ·obtain rfl : i = n := by omega
     exact absurd hri hr
   ·rcases ih2 with d | ⟨i, i1, i2, i3⟩
    ·exact .inl d
    ·exact .inr ⟨i, by omega, i2, i3⟩
theorem hi_spec (l : List S49) (y : Int) : ∀ n, (∀ i, i < n → inR l y i → eX l y i ≤ hiA l y n ∧ eZ l y i ≤ hiA l y n) ∧ (hiA l y n = ((0 : Int) : Rat) ∨ ∃ i, i < n ∧ inR l y i ∧ (hiA l y n = eX l y i ∨ hiA l y n = eZ l y i))
 | 0 => ⟨fun i hi => by omega, .inl rfl⟩
 | n + 1 => by
  obtain ⟨ih1, ih2⟩ := hi_spec l y n
  have e : hiA l y (n + 1) = if inR l y n then gq (gq (hiA l y n) (eX l y n)) (eZ l y n) else hiA l y n := rfl
  by_cases hr : inR l y n
  ·rw [if_pos hr] at e
   obtain ⟨a1, a2, a3⟩ := gq_le (hiA l y n) (eX l y n)
   obtain ⟨b1, b2, b3⟩ := gq_le (gq (hiA l y n) (eX l y n)) (eZ l y n)
   rw [← e] at b1 b2 b3
   have c := Rat.le_trans a1 b1
   refine ⟨fun i hi hri => ?_, ?_⟩
   ·rcases Nat.lt_or_ge i n with h | h
    ·obtain ⟨d1, d2⟩ := ih1 i h hri
     exact ⟨Rat.le_trans d1 c, Rat.le_trans d2 c⟩
    ·obtain rfl : i = n := by omega
     exact ⟨Rat.le_trans a2 b1, b2⟩
   ·rcases b3 with b3 | b3
    ·rcases a3 with a3 | a3
     ·rcases ih2 with d | ⟨i, i1, i2, i3⟩
      ·exact .inl (b3.trans (a3.trans d))
      ·exact .inr ⟨i, by omega, i2, by rw [b3, a3]; exact i3⟩
     ·exact .inr ⟨n, by omega, hr, .inl (b3.trans a3)⟩
    ·exact .inr ⟨n, by omega, hr, .inr b3⟩
  ·rw [if_neg hr] at e
   rw [e]
   refine ⟨fun i hi hri => ?_, ?_⟩
   ·rcases Nat.lt_or_ge i n with h | h
    ·exact ih1 i h hri
    ·obtain rfl : i = n := by omega
     exact absurd hri hr
   ·rcases ih2 with d | ⟨i, i1, i2, i3⟩
    ·exact .inl d
    ·exact .inr ⟨i, by omega, i2, i3⟩
theorem int_le {a b : Int} (h : a ≤ b) : ((a : Int) : Rat) ≤ ((b : Int) : Rat) := by
 rw [Rat.le_iff, Rat.num_intCast, Rat.den_intCast, Rat.num_intCast, Rat.den_intCast]
 omega
theorem q_box {q : Rat} {N D : Int} (hD : 0 < D) (hv : q * (D : Rat) = (N : Rat)) (h0 : 0 ≤ N) (h1 : N ≤ 2000 * D) : ((0 : Int) : Rat) ≤ q ∧ q ≤ ((2000 : Int) : Rat) := by
 obtain ⟨t, t0, e1, e2⟩ := frq_dvd (by omega) hv
 have hd : 0 < (q.den : Int) := by have := q.den_nz; omega
 have ht : 0 < t := by
  rw [e2] at hD
  exact Int.pos_of_mul_pos_right hD (by omega)
 rw [Rat.le_iff, Rat.le_iff, Rat.num_intCast, Rat.den_intCast, Rat.num_intCast, Rat.den_intCast]
 constructor
 ·have : 0 * t ≤ q.num * t := by rw [Int.zero_mul, ← e1]; exact h0
  have := Int.le_of_mul_le_mul_right this ht
  omega
 ·have h2 : q.num * t ≤ (2000 * (q.den : Int)) * t := by rw [Int.mul_assoc, ← e1, ← e2]; exact h1
  have := Int.le_of_mul_le_mul_right h2 ht
  omega
theorem pl_box {l : List S49} {y : Int} (hb : inbox l) {q : Rat} (hq : q ∈ plA l y l.length) : ((0 : Int) : Rat) ≤ q ∧ q ≤ ((2000 : Int) : Rat) := by
 obtain ⟨i, hi, h⟩ := (pl_mem _ _ _ _).1 hq
 have b0 := hb i hi
 have b1 := hb _ (nx_lt l i 1 (by omega))
 have x0 := b0.1
 have x1 := b1.1
 unfold inb at x0 x1
 rcases h with ⟨_, rfl⟩ | ⟨e, rfl⟩
 ·exact ⟨int_le x0.1, int_le x0.2⟩
 ·have hv := vQ_val (y := y) (stc_ne e)
  have up : ∀ a b : Int, 0 ≤ a → 0 ≤ b → 0 ≤ X l i * a + X l (nx l i 1) * b ∧ X l i * a + X l (nx l i 1) * b ≤ 2000 * (a + b) := by
   intro a b ha hb'
   have p1 := Int.mul_nonneg x0.1 ha
   have p2 := Int.mul_nonneg x1.1 hb'
   have p3 := Int.mul_le_mul_of_nonneg_right x0.2 ha
   have p4 := Int.mul_le_mul_of_nonneg_right x1.2 hb'
   omega
  rcases e with ⟨e1, e2⟩ | ⟨e1, e2⟩
  ·obtain ⟨u1, u2⟩ := up (Y l (nx l i 1) - y) (y - Y l i) (by omega) (by omega)
   exact q_box (by unfold vD; omega) hv u1 (by unfold vN vD; omega)
  ·obtain ⟨u1, u2⟩ := up (y - Y l (nx l i 1)) (Y l i - y) (by omega) (by omega)
   have hv2 : vQ l y i * ((-vD l i : Int) : Rat) = ((-vN l y i : Int) : Rat) := by
    simp only [Rat.intCast_neg]; grind
   have en : -vN l y i = X l i * (y - Y l (nx l i 1)) + X l (nx l i 1) * (Y l i - y) := by unfold vN; grind
   exact q_box (by unfold vD; omega) hv2 (by rw [en]; exact u1) (by rw [en]; unfold vD; omega)
theorem lo_mem (l : List S49) : ∀ n, ∃ j, (j < n ∨ j = 0) ∧ lo l n = Y l j
 | 0 => ⟨0, .inr rfl, rfl⟩
 | n + 1 => by
  obtain ⟨j, h1, h2⟩ := lo_mem l n
  show ∃ j, (j < n + 1 ∨ j = 0) ∧ min (lo l n) (Y l n) = Y l j
  rcases Int.le_total (lo l n) (Y l n) with h | h
  ·exact ⟨j, by omega, by omega⟩
  ·exact ⟨n, by omega, by omega⟩
theorem hi_mem (l : List S49) : ∀ n, ∃ j, (j < n ∨ j = 0) ∧ hi l n = Y l j
 | 0 => ⟨0, .inr rfl, rfl⟩
 | n + 1 => by
  obtain ⟨j, h1, h2⟩ := hi_mem l n
  show ∃ j, (j < n + 1 ∨ j = 0) ∧ max (hi l n) (Y l n) = Y l j
  rcases Int.le_total (hi l n) (Y l n) with h | h
  ·exact ⟨n, by omega, by omega⟩
  ·exact ⟨j, by omega, by omega⟩
theorem nx_succ {l : List S49} {i : Nat} (h : i + 1 < l.length) : nx l i 1 = i + 1 := by unfold nx; exact Nat.mod_eq_of_lt h
theorem pl_ne {l : List S49} {y : Int} (h0 : 0 < l.length) (h1 : lo l l.length ≤ y) (h2 : y ≤ hi l l.length) : 0 < (plA l y l.length).length := by
 rcases Nat.eq_zero_or_pos (plA l y l.length).length with h | h
 ·exfalso
  have hnil := List.length_eq_zero_iff.mp h
  have no : ∀ i, i < l.length → Y l i ≠ y ∧ ¬ stc l y i := fun i hi => by
   refine ⟨fun e => ?_, fun e => ?_⟩
   ·have : ((X l i : Int) : Rat) ∈ plA l y l.length := (pl_mem _ _ _ _).2 ⟨i, hi, .inl ⟨e, rfl⟩⟩
    rw [hnil] at this; exact absurd this List.not_mem_nil
   ·have : vQ l y i ∈ plA l y l.length := (pl_mem _ _ _ _).2 ⟨i, hi, .inr ⟨e, rfl⟩⟩
    rw [hnil] at this; exact absurd this List.not_mem_nil
  have side : ∀ i, i < l.length → (Y l i < y ↔ Y l 0 < y) := by
   intro i
   induction i with
   | zero => intro _; exact Iff.rfl
   | succ i ih =>
    intro hi
    have a := ih (by omega)
    have n1 := no i (by omega)
    have n2 := no (i + 1) hi
    have hs := n1.2
    unfold stc at hs
    rw [nx_succ hi] at hs
    omega
  obtain ⟨j, j1, j2⟩ := lo_mem l l.length
  obtain ⟨m, m1, m2⟩ := hi_mem l l.length
  have hj : j < l.length := by omega
  have hm : m < l.length := by omega
  have a := side j hj
  have b := side m hm
  have c := (no j hj).1
  have d := (no m hm).1
  omega
 ·exact h
theorem width_same {l : List S49} {y : Int} (hb : inbox l) (hne : 0 < (plA l y l.length).length) :
  loA l y l.length = mnI (plA l y l.length) (plA l y l.length).length ∧ hiA l y l.length = mxI (plA l y l.length) (plA l y l.length).length := by
 have hget : ∀ j, j < (plA l y l.length).length → (plA l y l.length).getD j 0 ∈ plA l y l.length := fun j hj => by
  rw [List.getD_eq_getElem?_getD, List.getElem?_eq_getElem hj]; exact List.getElem_mem hj
 have hidx : ∀ q, q ∈ plA l y l.length → ∃ j, j < (plA l y l.length).length ∧ (plA l y l.length).getD j 0 = q := fun q hq => by
  obtain ⟨j, hj, e⟩ := List.getElem_of_mem hq
  exact ⟨j, hj, by rw [List.getD_eq_getElem?_getD, List.getElem?_eq_getElem hj]; exact e⟩
 obtain ⟨s1, s2⟩ := lo_spec l y l.length
 obtain ⟨t1, t2⟩ := hi_spec l y l.length
 obtain ⟨j, j1, j2⟩ := mnI_mem (plA l y l.length) (plA l y l.length).length hne
 obtain ⟨m, m1, m2⟩ := mxI_mem (plA l y l.length) (plA l y l.length).length hne
 have mn_le : ∀ q, q ∈ plA l y l.length → mnI (plA l y l.length) (plA l y l.length).length ≤ q := fun q hq => by
  obtain ⟨a, ha, e⟩ := hidx q hq
  rw [← e]; exact mnI_le _ _ a ha
 have mx_le : ∀ q, q ∈ plA l y l.length → q ≤ mxI (plA l y l.length) (plA l y l.length).length := fun q hq => by
  obtain ⟨a, ha, e⟩ := hidx q hq
  rw [← e]; exact mxI_le _ _ a ha
 have mnin : mnI (plA l y l.length) (plA l y l.length).length ∈ plA l y l.length := by rw [j2]; exact hget j j1
 have mxin : mxI (plA l y l.length) (plA l y l.length).length ∈ plA l y l.length := by rw [m2]; exact hget m m1
 constructor
 ·refine Rat.le_antisymm ?_ ?_
  ·obtain ⟨i, i1, i2, i3⟩ := mem_e mnin
   rw [i3]; exact (s1 i i1 i2).1
  ·rcases s2 with e | ⟨i, i1, i2, e | e⟩
   ·rw [e]; exact (pl_box hb mnin).2
   ·rw [e]; exact mn_le _ (e_mem i1 i2).1
   ·rw [e]; exact mn_le _ (e_mem i1 i2).2
 ·refine Rat.le_antisymm ?_ ?_
  ·rcases t2 with e | ⟨i, i1, i2, e | e⟩
   ·rw [e]; exact (pl_box hb mxin).1
   ·rw [e]; exact mx_le _ (e_mem i1 i2).1
   ·rw [e]; exact mx_le _ (e_mem i1 i2).2
  ·obtain ⟨i, i1, i2, i3⟩ := mem_e mxin
   rw [i3]; exact (t1 i i1 i2).1
end Go.Proofs.Ytcomncokgkeniaa.Pure

