import Derived.Test.YtcomncokgkeniaaHSailw0
import Derived.Test.YtcomncokgkeniaaPlain
import Derived.Test.YtcomncokgkeniaaHSailwf
import Derived.Test.YtcomncokgkeniaaHSailwg
import Derived.Test.YtcomncokgkeniaaHSailwm
import Derived.Test.YtcomncokgkeniaaPureSailwA
import Derived.Test.YtcomncokgkeniaaPureSailwB
namespace Go.Proofs.Ytcomncokgkeniaa.Pure
open Go.RowKit Go.Proofs.Ytcomncokgkeniaa.PSailw Go.Proofs.Ytcomncokgkeniaa.Plain Go.Proofs.YtcomncokgkeniaaW.PrintWords Go.Proofs.YtcomncokgkeniaaW.PrintMore
set_option linter.unusedVariables false
set_option linter.unusedSimpArgs false
def vN (l : List S49) (y : Int) (i : Nat) : Int := X l i * (Y l (nx l i 1) - y) + X l (nx l i 1) * (y - Y l i)
def vD (l : List S49) (i : Nat) : Int := Y l (nx l i 1) - Y l i
def vQ (l : List S49) (y : Int) (i : Nat) : Rat := ((vN l y i : Int) : Rat) / ((vD l i : Int) : Rat)
def inR (l : List S49) (y : Int) (i : Nat) : Prop := min (Y l i) (Y l (nx l i 1)) ≤ y ∧ y ≤ max (Y l i) (Y l (nx l i 1))
instance (l : List S49) (y : Int) (i : Nat) : Decidable (inR l y i) := by unfold inR; infer_instance
def eX (l : List S49) (y : Int) (i : Nat) : Rat := if Y l i = Y l (nx l i 1) then ((X l i : Int) : Rat) else vQ l y i
def eZ (l : List S49) (y : Int) (i : Nat) : Rat := if Y l i = Y l (nx l i 1) then ((X l (nx l i 1) : Int) : Rat) else vQ l y i
theorem vQ_val {l : List S49} {y : Int} {i : Nat} (h : Y l i ≠ Y l (nx l i 1)) : vQ l y i * ((vD l i : Int) : Rat) = ((vN l y i : Int) : Rat) := by
 have h0 : ((vD l i : Int) : Rat) ≠ 0 := cast_ne (by unfold vD; omega)
 unfold vQ
 grind
theorem vN_bd {l : List S49} {y : Int} {i : Nat} (hb : inbox l) (hi : i < l.length) (hy : inb y) : (vN l y i).natAbs ≤ 8000000 ∧ (vD l i).natAbs ≤ 2000 := by
 have b0 := hb i hi
 have b1 := hb _ (nx_lt l i 1 (by omega))
 have x0 := b0.1
 have y0 := b0.2
 have x1 := b1.1
 have y1 := b1.2
 unfold inb at *
 have m1 := mul_bound (a := X l i) (b := Y l (nx l i 1) - y) (A := 2000) (B := 2000) (by omega) (by omega) (by omega) (by omega)
 have m2 := mul_bound (a := X l (nx l i 1)) (b := y - Y l i) (A := 2000) (B := 2000) (by omega) (by omega) (by omega) (by omega)
 unfold vN vD
 omega
theorem sm_int {x : Int} (h : inb x) : sm ((x : Int) : Rat) := by
 unfold inb at h
 refine ⟨?_, ?_⟩
 ·rw [Rat.num_intCast]; omega
 ·rw [Rat.den_intCast]; omega
theorem sm_vQ {l : List S49} {y : Int} {i : Nat} (hb : inbox l) (hi : i < l.length) (hy : inb y) (h : Y l i ≠ Y l (nx l i 1)) : sm (vQ l y i) := by
 obtain ⟨h1, h2⟩ := vN_bd hb hi hy
 obtain ⟨h3, h4⟩ := frq_bound (by unfold vD; omega) (vQ_val (y := y) h)
 exact ⟨by omega, by omega⟩
theorem sm_eX {l : List S49} {y : Int} {i : Nat} (hb : inbox l) (hi : i < l.length) (hy : inb y) : sm (eX l y i) := by
 unfold eX
 split
 ·exact sm_int (hb i hi).1
 ·rename_i h; exact sm_vQ hb hi hy h
theorem sm_eZ {l : List S49} {y : Int} {i : Nat} (hb : inbox l) (hi : i < l.length) (hy : inb y) : sm (eZ l y i) := by
 unfold eZ
 split
 ·exact sm_int (hb _ (nx_lt l i 1 (by omega))).1
 ·rename_i h; exact sm_vQ hb hi hy h
theorem specAt {l : List S49} {y : Int} {i : Nat} (hb : inbox l) (hi : i < l.length) (hy : inb y) (h : Y l i ≠ Y l (nx l i 1)) : Ev (fun k => spec_l13At.f k (X l i) (Y l i) (X l (nx l i 1)) (Y l (nx l i 1)) y) (frq (vQ l y i)) := by
 obtain ⟨h1, h2⟩ := vN_bd hb hi hy
 have hv := vQ_val (y := y) h
 have b0 := hb i hi
 have b1 := hb _ (nx_lt l i 1 (by omega))
 have x0 := b0.1
 have y0 := b0.2
 have x1 := b1.1
 have y1 := b1.2
 have hy' := hy
 unfold inb at x0 y0 x1 y1 hy'
 have m1 := mul_bound (a := X l i) (b := Y l (nx l i 1) - y) (A := 2000) (B := 2000) (by omega) (by omega) (by omega) (by omega)
 have m2 := mul_bound (a := X l (nx l i 1)) (b := y - Y l i) (A := 2000) (B := 2000) (by omega) (by omega) (by omega) (by omega)
 have eN : wrap64 (wrap64 (X l i * wrap64 (Y l (nx l i 1) - y)) + wrap64 (X l (nx l i 1) * wrap64 (y - Y l i))) = vN l y i := by
  rw [wrap_in (x := Y l (nx l i 1) - y) (by omega) (by omega), wrap_in (x := y - Y l i) (by omega) (by omega), wrap_in (x := X l i * (Y l (nx l i 1) - y)) (by omega) (by omega), wrap_in (x := X l (nx l i 1) * (y - Y l i)) (by omega) (by omega), wrap_in (by omega) (by omega)]
  rfl
 have eD : wrap64 (Y l (nx l i 1) - Y l i) = vD l i := wrap_in (by omega) (by omega)
 unfold spec_l13At.f
 rw [eN, eD, wrap_self (x := -vN l y i) (by omega), wrap_self (x := -vD l i) (by omega)]
 have hD : vD l i ≠ 0 := by unfold vD; omega
 by_cases hd : vD l i < 0
 ·refine ev_if_pos hd (ev_bind (makeQ (q := vQ l y i) (n := -vN l y i) (d := -vD l i) ?_ (by omega) (by omega) (by omega)) (ev_now fun _ => rfl))
  simp only [Rat.intCast_neg]; grind
 ·exact ev_if_neg hd (ev_bind (makeQ (q := vQ l y i) (n := vN l y i) (d := vD l i) hv (by omega) (by omega) (by omega)) (ev_now fun _ => rfl))
theorem lessQ {p q : Rat} (hp : sm p) (hq : sm q) : spec_l13Less.f p.num (p.den : Int) q.num (q.den : Int) = some (decide (p < q)) := by
 unfold spec_l13Less.f
 have h1 := p.den_nz
 have h2 := q.den_nz
 obtain ⟨a1, a2⟩ := hp
 obtain ⟨b1, b2⟩ := hq
 have m1 := mul_bound (a := p.num) (b := (q.den : Int)) (A := 8000000) (B := 2000) (by omega) (by omega) (by omega) (by omega)
 have m2 := mul_bound (a := q.num) (b := (p.den : Int)) (A := 8000000) (B := 2000) (by omega) (by omega) (by omega) (by omega)
 rw [wrap_in (x := p.num * (q.den : Int)) (by omega) (by omega), wrap_in (x := q.num * (p.den : Int)) (by omega) (by omega)]
 congr 1
 rw [decide_eq_decide, Rat.lt_iff]
def lq (a b : Rat) : Rat := if b < a then b else a
def gq (a b : Rat) : Rat := if a < b then b else a
theorem sm_lq {a b : Rat} (ha : sm a) (hb : sm b) : sm (lq a b) := by unfold lq; split <;> assumption
theorem sm_gq {a b : Rat} (ha : sm a) (hb : sm b) : sm (gq a b) := by unfold gq; split <;> assumption
def loA (l : List S49) (y : Int) : Nat → Rat
 | 0 => ((2000 : Int) : Rat)
 | i + 1 => if inR l y i then lq (lq (loA l y i) (eX l y i)) (eZ l y i) else loA l y i
def hiA (l : List S49) (y : Int) : Nat → Rat
 | 0 => ((0 : Int) : Rat)
 | i + 1 => if inR l y i then gq (gq (hiA l y i) (eX l y i)) (eZ l y i) else hiA l y i
theorem sm_loA {l : List S49} {y : Int} (hb : inbox l) (hy : inb y) : ∀ i, i ≤ l.length → sm (loA l y i)
 | 0, _ => sm_int (by unfold inb; omega)
 | i + 1, h => by
  have ih := sm_loA hb hy i (by omega)
  unfold loA
  split
  ·exact sm_lq (sm_lq ih (sm_eX hb (by omega) hy)) (sm_eZ hb (by omega) hy)
  ·exact ih
theorem sm_hiA {l : List S49} {y : Int} (hb : inbox l) (hy : inb y) : ∀ i, i ≤ l.length → sm (hiA l y i)
 | 0, _ => sm_int (by unfold inb; omega)
 | i + 1, h => by
  have ih := sm_hiA hb hy i (by omega)
  unfold hiA
  split
  ·exact sm_gq (sm_gq ih (sm_eX hb (by omega) hy)) (sm_eZ hb (by omega) hy)
  ·exact ih
theorem specJ {l : List S49} {y : Int} {i : Nat} {lo hi x z : Rat} {R : Int × Int} (hlo : sm lo) (hhi : sm hi) (hx : sm x) (hz : sm z) (hi' : i < 9223372036854775807)
  (next : Ev (fun k => spec_l13Width.l0 k l y (l.length : Int) ((i + 1 : Nat) : Int) (lq (lq lo x) z).num ((lq (lq lo x) z).den : Int) (gq (gq hi x) z).num ((gq (gq hi x) z).den : Int)) R) :
  Ev (fun k => spec_l13Width.j1 k l y (l.length : Int) (i : Int) lo.num (lo.den : Int) hi.num (hi.den : Int) x.num (x.den : Int) z.num (z.den : Int)) R := by
 have s4 : ∀ (a b : Rat), sm b → b = gq hi x → a = lq (lq lo x) z → Ev (fun k => spec_l13Width.j4 k l y (l.length : Int) (i : Int) a.num (a.den : Int) b.num (b.den : Int) z.num (z.den : Int)) R := by
  intro a b hb eb ea
  refine ev_succ ?_
  simp only [spec_l13Width.j4]
  rw [lessQ hb hz, succ_cast i hi']
  simp only [Option.bind_some]
  rw [← ea, ← eb] at next
  by_cases h : b < z
  ·rw [show gq b z = z from if_pos h] at next
   exact ev_if_pos (decide_eq_true h) next
  ·rw [show gq b z = b from if_neg h] at next
   exact ev_if_neg (by rw [decide_eq_false h]; exact Bool.false_ne_true) next
 have s3 : ∀ a : Rat, a = lq (lq lo x) z → Ev (fun k => spec_l13Width.j3 k l y (l.length : Int) (i : Int) a.num (a.den : Int) hi.num (hi.den : Int) x.num (x.den : Int) z.num (z.den : Int)) R := by
  intro a ea
  refine ev_succ ?_
  simp only [spec_l13Width.j3]
  rw [lessQ hhi hx]
  simp only [Option.bind_some]
  by_cases h : hi < x
  ·exact ev_if_pos (decide_eq_true h) (s4 a x hx (if_pos h).symm ea)
  ·exact ev_if_neg (by rw [decide_eq_false h]; exact Bool.false_ne_true) (s4 a hi hhi (if_neg h).symm ea)
 have s2 : ∀ a : Rat, sm a → a = lq lo x → Ev (fun k => spec_l13Width.j2 k l y (l.length : Int) (i : Int) a.num (a.den : Int) hi.num (hi.den : Int) x.num (x.den : Int) z.num (z.den : Int)) R := by
  intro a ha ea
  refine ev_succ ?_
  simp only [spec_l13Width.j2]
  rw [lessQ hz ha]
  simp only [Option.bind_some]
  by_cases h : z < a
  ·exact ev_if_pos (decide_eq_true h) (s3 z (by rw [← ea]; exact (if_pos h).symm))
  ·exact ev_if_neg (by rw [decide_eq_false h]; exact Bool.false_ne_true) (s3 a (by rw [← ea]; exact (if_neg h).symm))
 refine ev_succ ?_
 simp only [spec_l13Width.j1]
 rw [lessQ hx hlo]
 simp only [Option.bind_some]
 by_cases h : x < lo
 ·exact ev_if_pos (decide_eq_true h) (s2 x hx (if_pos h).symm)
 ·exact ev_if_neg (by rw [decide_eq_false h]; exact Bool.false_ne_true) (s2 lo hlo (if_neg h).symm)
theorem sum_bd {p q : Rat} (hp : sm p) (hq : sm q) : (lcN p q).natAbs ≤ 9223372036854775807 ∧ (lcD p q).natAbs ≤ 9223372036854775807 := by
 have h1 := p.den_nz
 have h2 := q.den_nz
 obtain ⟨a1, a2⟩ := hp
 obtain ⟨b1, b2⟩ := hq
 have d1 : (p.den : Int) / (Int.gcd p.den q.den : Int) ≤ (p.den : Int) := Int.ediv_le_self _ (by omega)
 have d2 : (q.den : Int) / (Int.gcd p.den q.den : Int) ≤ (q.den : Int) := Int.ediv_le_self _ (by omega)
 have d3 : 0 ≤ (p.den : Int) / (Int.gcd p.den q.den : Int) := Int.ediv_nonneg (by omega) (by omega)
 have d4 : 0 ≤ (q.den : Int) / (Int.gcd p.den q.den : Int) := Int.ediv_nonneg (by omega) (by omega)
 unfold lcN lcD
 generalize (p.den : Int) / (Int.gcd p.den q.den : Int) = u at *
 generalize (q.den : Int) / (Int.gcd p.den q.den : Int) = v at *
 have m1 := mul_bound (a := p.num) (b := v) (A := 8000000) (B := 2000) (by omega) (by omega) (by omega) (by omega)
 have m2 := mul_bound (a := q.num) (b := u) (A := 8000000) (B := 2000) (by omega) (by omega) (by omega) (by omega)
 have m3 := mul_bound (a := u) (b := (q.den : Int)) (A := 2000) (B := 2000) (by omega) (by omega) (by omega) (by omega)
 omega
theorem sm_neg {q : Rat} (h : sm q) : sm (-q) := by
 obtain ⟨h1, h2⟩ := h
 refine ⟨?_, ?_⟩
 ·rw [Rat.neg_num]; omega
 ·rw [Rat.neg_den]; exact h2
theorem sumS {p q : Rat} (hp : sm p) (hq : sm q) : Ev (fun k => spec_l13Sum.f k p.num (p.den : Int) q.num (q.den : Int)) (frq (p + q)) := by
 obtain ⟨s1, s2⟩ := sum_bd hp hq
 exact sumE (p := p) (q := q) (by have := hp.1; omega) (by have := hp.2; omega) (by have := hq.1; omega) (by have := hq.2; omega) s1 s2
theorem addS {p q : Rat} (hp : sm p) (hq : sm q) : Ev (fun k => impl_addFractions.f k p.num (p.den : Int) q.num (q.den : Int)) (frq (p + q)) := by
 obtain ⟨s1, s2⟩ := sum_bd hp hq
 exact adE (p := p) (q := q) (by have := hp.1; omega) (by have := hp.2; omega) (by have := hq.1; omega) (by have := hq.2; omega) s1 s2
theorem neg_fr {q : Rat} (h : sm q) : wrap64 (-q.num) = (-q).num ∧ (q.den : Int) = ((-q).den : Int) := by
 obtain ⟨h1, h2⟩ := h
 rw [Rat.neg_num, Rat.neg_den]
 exact ⟨wrap_self (by omega), rfl⟩
theorem specWidth {l : List S49} {y : Int} (hb : inbox l) (hy : inb y) (h0 : 0 < l.length) (h8 : l.length ≤ 8) : Ev (fun k => spec_l13Width.f k l y) (frq (hiA l y l.length + -loA l y l.length)) := by
 unfold spec_l13Width.f
 have e0 : (loA l y 0).num = 2000 ∧ ((loA l y 0).den : Int) = 1 := ⟨Rat.num_intCast 2000, by rw [show (loA l y 0).den = 1 from Rat.den_intCast 2000]; rfl⟩
 have e1 : (hiA l y 0).num = 0 ∧ ((hiA l y 0).den : Int) = 1 := ⟨Rat.num_intCast 0, by rw [show (hiA l y 0).den = 1 from Rat.den_intCast 0]; rfl⟩
 have key := loop_up' (fun k i => spec_l13Width.l0 k l y (l.length : Int) (i : Int) (loA l y i).num ((loA l y i).den : Int) (hiA l y i).num ((hiA l y i).den : Int)) l.length (frq (hiA l y l.length + -loA l y l.length)) (fun _ => True) (fun i hi _ => .inl ⟨trivial, fun hn => ?_⟩) (fun _ => ?_) l.length 0 (by omega) (by omega) trivial
 ·rw [e0.1, e0.2, e1.1, e1.2] at key
  exact key
 ·have e : Int.tmod (wrap64 ((i : Int) + 1)) (l.length : Int) = ((nx l i 1 : Nat) : Int) := succ_mod i l.length (by omega) 1 (by omega)
  have hlt := nx_lt l i 1 (by omega)
  have slo := sm_loA hb hy i (by omega)
  have shi := sm_hiA hb hy i (by omega)
  refine ev_succ ?_
  simp only [spec_l13Width.l0]
  rw [e]
  refine ev_if_pos (by omega) (ev_if_pos (by omega) (ev_if_pos (by omega) (ev_if_neg (by omega) (ev_if_pos (by omega) (ev_if_pos (by omega) ?_)))))
  simp only [rdX, rdY, spec_min, spec_max, specIn, Option.bind_some]
  have el : loA l y (i + 1) = if inR l y i then lq (lq (loA l y i) (eX l y i)) (eZ l y i) else loA l y i := rfl
  have eh : hiA l y (i + 1) = if inR l y i then gq (gq (hiA l y i) (eX l y i)) (eZ l y i) else hiA l y i := rfl
  rw [el, eh] at hn
  by_cases hr : inR l y i
  ·rw [if_pos hr, if_pos hr] at hn
   refine ev_if_pos (decide_eq_true hr) ?_
   by_cases hY : Y l i = Y l (nx l i 1)
   ·refine ev_if_pos hY ?_
    have := specJ (l := l) (y := y) (i := i) slo shi (sm_eX hb hi hy) (sm_eZ hb hi hy) (by omega) hn
    rw [show eX l y i = ((X l i : Int) : Rat) from if_pos hY, show eZ l y i = ((X l (nx l i 1) : Int) : Rat) from if_pos hY, Rat.num_intCast, Rat.den_intCast, Rat.num_intCast, Rat.den_intCast] at this
    exact this
   ·refine ev_if_neg hY (ev_bind (specAt hb hi hy hY) ?_)
    have := specJ (l := l) (y := y) (i := i) slo shi (sm_eX hb hi hy) (sm_eZ hb hi hy) (by omega) hn
    rw [show eX l y i = vQ l y i from if_neg hY, show eZ l y i = vQ l y i from if_neg hY] at this
    exact this
  ·rw [if_neg hr, if_neg hr] at hn
   rw [succ_cast i (by omega)]
   exact ev_if_neg (fun h => hr (of_decide_eq_true h)) hn
 ·have slo := sm_loA hb hy l.length (by omega)
  have shi := sm_hiA hb hy l.length (by omega)
  refine ev_succ ?_
  simp only [spec_l13Width.l0]
  rw [(neg_fr slo).1, (neg_fr slo).2]
  exact ev_if_neg (by omega) (ev_bind (sumS shi (sm_neg slo)) (ev_now fun _ => rfl))
end Go.Proofs.Ytcomncokgkeniaa.Pure

