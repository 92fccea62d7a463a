import Derived.Test.YtcomncokgkeniaaHSailw0
import Derived.Test.YtcomncokgkeniaaPlain
import Derived.Test.YtcomncokgkeniaaHSailwm
import Derived.Test.YtcomncokgkeniaaHSailwp
import Derived.Test.YtcomncokgkeniaaPureSailwA
import Derived.Test.YtcomncokgkeniaaPureSailwB
import Derived.Test.YtcomncokgkeniaaPureSailwC
namespace Go.Proofs.Ytcomncokgkeniaa.Pure
open Go.RowKit Go.Proofs.Ytcomncokgkeniaa.PSailw Go.Proofs.Ytcomncokgkeniaa.Plain Go.Proofs.YtcomncokgkeniaaW.PrintWords Go.Proofs.YtcomncokgkeniaaW.PrintMore
set_option linter.unusedVariables false
set_option linter.unusedSimpArgs false
def stc (l : List S49) (y : Int) (i : Nat) : Prop := (Y l i < y ∧ y < Y l (nx l i 1)) ∨ (Y l (nx l i 1) < y ∧ y < Y l i)
instance (l : List S49) (y : Int) (i : Nat) : Decidable (stc l y i) := by unfold stc; infer_instance
def plA (l : List S49) (y : Int) : Nat → List Rat
 | 0 => []
 | i + 1 => (plA l y i ++ if Y l i = y then [((X l i : Int) : Rat)] else []) ++ if stc l y i then [vQ l y i] else []
theorem pl_len (l : List S49) (y : Int) : ∀ i, (plA l y i).length ≤ 2 * i
 | 0 => Nat.le_refl 0
 | i + 1 => by
  have ih := pl_len l y i
  unfold plA
  rw [List.length_append, List.length_append]
  have a : (if Y l i = y then [((X l i : Int) : Rat)] else []).length ≤ 1 := by split <;> simp
  have b : (if stc l y i then [vQ l y i] else []).length ≤ 1 := by split <;> simp
  omega
theorem pl_mem (l : List S49) (y : Int) (q : Rat) : ∀ n, q ∈ plA l y n ↔ ∃ i, i < n ∧ ((Y l i = y ∧ q = ((X l i : Int) : Rat)) ∨ (stc l y i ∧ q = vQ l y i))
 | 0 => by simp [plA]
 | n + 1 => by
  have ih := pl_mem l y q n
  unfold plA
  rw [List.mem_append, List.mem_append, ih]
  constructor
  ·rintro ((⟨i, h1, h2⟩ | h) | h)
   ·exact ⟨i, by omega, h2⟩
   ·by_cases e : Y l n = y
    ·rw [if_pos e, List.mem_singleton] at h
     exact ⟨n, by omega, .inl ⟨e, h⟩⟩
    ·rw [if_neg e] at h; exact absurd h List.not_mem_nil
   ·by_cases e : stc l y n
    ·rw [if_pos e, List.mem_singleton] at h
     exact ⟨n, by omega, .inr ⟨e, h⟩⟩
    ·rw [if_neg e] at h; exact absurd h List.not_mem_nil
  ·rintro ⟨i, h1, h2⟩
   rcases Nat.lt_or_ge i n with h3 | h3
   ·exact .inl (.inl ⟨i, h3, h2⟩)
   ·obtain rfl : i = n := by omega
    rcases h2 with ⟨e, h⟩ | ⟨e, h⟩
    ·exact .inl (.inr (by rw [if_pos e, h]; exact List.mem_singleton.2 rfl))
    ·exact .inr (by rw [if_pos e, h]; exact List.mem_singleton.2 rfl)
theorem stc_ne {l : List S49} {y : Int} {i : Nat} (h : stc l y i) : Y l i ≠ Y l (nx l i 1) := by unfold stc at h; omega
theorem pl_sm {l : List S49} {y : Int} (hb : inbox l) (hy : inb y) {n : Nat} (hn : n ≤ l.length) : ∀ q ∈ plA l y n, sm q := by
 intro q hq
 obtain ⟨i, h1, h2⟩ := (pl_mem l y q n).1 hq
 rcases h2 with ⟨_, rfl⟩ | ⟨h2, rfl⟩
 ·exact sm_int (hb i (by omega)).1
 ·exact sm_vQ hb (by omega) hy (stc_ne h2)
theorem frq_int (x : Int) : frq ((x : Int) : Rat) = (x, 1) := by
 unfold frq
 rw [Rat.num_intCast, Rat.den_intCast]
 rfl
theorem fracX {x : Int} (h : inb x) : Ev (fun k => impl_fraction.f k x 1) (x, 1) := by
 unfold inb at h
 have := fracQ (q := ((x : Int) : Rat)) (n := x) (d := 1) (by simp) (by omega) (by omega) (by decide)
 rwa [frq_int] at this
theorem implJ {l : List S49} {y : Int} {i : Nat} {P : List Rat} {R : Int × Int} (hb : inbox l) (hi : i < l.length) (hy : inb y) (hP : P.length ≤ 1000) (hi8 : i ≤ 1000)
  (next : Ev (fun k => impl_widthAt.l0 k l y ((P ++ if stc l y i then [vQ l y i] else []).map fS) l (l.length : Int) ((i + 1 : Nat) : Int)) R) :
  Ev (fun k => impl_widthAt.j1 k l y (P.map fS) l (l.length : Int) (i : Int) (X l i) (Y l i) (X l (nx l i 1)) (Y l (nx l i 1))) R := by
 have b0 := hb i hi
 have b1 := hb _ (nx_lt l i 1 (by omega))
 have x0 := b0.1
 have y0 := b0.2
 have x1 := b1.1
 have y1 := b1.2
 have hy' := hy
 unfold inb at x0 y0 x1 y1 hy'
 have no : ¬ stc l y i → Ev (fun k => impl_widthAt.j2 k l y (P.map fS) l (l.length : Int) (i : Int) false (X l i) (Y l i) (X l (nx l i 1)) (Y l (nx l i 1))) R := by
  intro h
  rw [if_neg h, List.append_nil] at next
  refine ev_succ ?_
  simp only [impl_widthAt.j2]
  rw [succ_cast i (by omega)]
  exact ev_if_neg Bool.false_ne_true next
 have yes : stc l y i → Ev (fun k => impl_widthAt.j2 k l y (P.map fS) l (l.length : Int) (i : Int) true (X l i) (Y l i) (X l (nx l i 1)) (Y l (nx l i 1))) R := by
  intro h
  have hne := stc_ne h
  rw [if_pos h, List.map_append] at next
  have m1 := mul_bound (a := X l (nx l i 1) - X l i) (b := y - Y l i) (A := 2000) (B := 2000) (by omega) (by omega) (by omega) (by omega)
  have hD : Y l (nx l i 1) - Y l i ≠ 0 := by omega
  have hDr : ((Y l (nx l i 1) - Y l i : Int) : Rat) ≠ 0 := cast_ne hD
  have hw : (((X l (nx l i 1) - X l i) * (y - Y l i) : Int) : Rat) / ((Y l (nx l i 1) - Y l i : Int) : Rat) * ((Y l (nx l i 1) - Y l i : Int) : Rat) = (((X l (nx l i 1) - X l i) * (y - Y l i) : Int) : Rat) := by grind
  have sw : sm ((((X l (nx l i 1) - X l i) * (y - Y l i) : Int) : Rat) / ((Y l (nx l i 1) - Y l i : Int) : Rat)) := by
   obtain ⟨h3, h4⟩ := frq_bound hD hw
   exact ⟨by omega, by omega⟩
  have es : ((X l i : Int) : Rat) + (((X l (nx l i 1) - X l i) * (y - Y l i) : Int) : Rat) / ((Y l (nx l i 1) - Y l i : Int) : Rat) = vQ l y i := by
   unfold vQ vN vD
   simp only [Rat.intCast_mul, Rat.intCast_add, Rat.intCast_sub] at hDr ⊢
   grind
  have ha := addS (sm_int b0.1) sw
  rw [es, Rat.num_intCast, Rat.den_intCast] at ha
  refine ev_succ ?_
  simp only [impl_widthAt.j2]
  rw [wrap_in (x := X l (nx l i 1) - X l i) (by omega) (by omega), wrap_in (x := y - Y l i) (by omega) (by omega), wrap_in (x := (X l (nx l i 1) - X l i) * (y - Y l i)) (by omega) (by omega), wrap_in (x := Y l (nx l i 1) - Y l i) (by omega) (by omega), succ_cast i (by omega), List.length_map]
  refine ev_if_pos trivial (ev_bind (fracX b0.1) (ev_bind (fracQ hw (by omega) hD (by omega)) (ev_bind ha (ev_if_pos (by omega) ?_))))
  exact next
 refine ev_succ ?_
 simp only [impl_widthAt.j1]
 by_cases h1 : Y l i < y
 ·rw [decide_eq_true h1]
  by_cases h2 : Y l (nx l i 1) < y
  ·rw [decide_eq_true h2]
   exact ev_if_neg (by decide) (no (by unfold stc; omega))
  ·rw [decide_eq_false h2]
   refine ev_if_pos (by decide) (ev_if_neg (by omega) ?_)
   by_cases h3 : Y l (nx l i 1) = y
   ·rw [bne_eq_false_iff_eq.mpr h3]
    exact no (by unfold stc; omega)
   ·rw [bne_iff_ne.mpr h3]
    exact yes (by unfold stc; omega)
 ·rw [decide_eq_false h1]
  by_cases h2 : Y l (nx l i 1) < y
  ·rw [decide_eq_true h2]
   refine ev_if_pos (by decide) ?_
   by_cases h3 : Y l i = y
   ·exact ev_if_pos h3 (no (by unfold stc; omega))
   ·refine ev_if_neg h3 ?_
    rw [bne_iff_ne.mpr (show Y l (nx l i 1) ≠ y from by omega)]
    exact yes (by unfold stc; omega)
  ·rw [decide_eq_false h2]
   exact ev_if_neg (by decide) (no (by unfold stc; omega))
theorem implWidth0 {l : List S49} {y : Int} (hb : inbox l) (hy : inb y) (h0 : 0 < l.length) (h8 : l.length ≤ 8) (hne : 0 < (plA l y l.length).length) :
  Ev (fun k => impl_widthAt.f k l y) (frq (mxI (plA l y l.length) (plA l y l.length).length + -mnI (plA l y l.length) (plA l y l.length).length)) := by
 unfold impl_widthAt.f
 refine loop_up' (fun k i => impl_widthAt.l0 k l y ((plA l y i).map fS) l (l.length : Int) (i : Int)) l.length _ (fun _ => True) (fun i hi _ => .inl ⟨trivial, fun hn => ?_⟩) (fun _ => ?_) l.length 0 (by omega) (by omega) trivial
 ·have e : Int.tmod (wrap64 ((i : Int) + 1)) (l.length : Int) = ((nx l i 1 : Nat) : Int) := succ_mod i l.length (by omega) 1 (by omega)
  have hlt := nx_lt l i 1 (by omega)
  have hlen := pl_len l y i
  have ep : plA l y (i + 1) = (plA l y i ++ if Y l i = y then [((X l i : Int) : Rat)] else []) ++ if stc l y i then [vQ l y i] else [] := rfl
  rw [ep] at hn
  have hj := implJ (l := l) (y := y) (i := i) (P := plA l y i ++ if Y l i = y then [((X l i : Int) : Rat)] else []) hb hi hy (by
   rw [List.length_append]
   have a : (if Y l i = y then [((X l i : Int) : Rat)] else []).length ≤ 1 := by split <;> simp
   omega) (by omega) hn
  refine ev_succ ?_
  simp only [impl_widthAt.l0]
  rw [e]
  refine ev_if_pos (by omega) (ev_if_pos (by omega) (ev_if_pos (by omega) (ev_if_neg (by omega) (ev_if_pos (by omega) (ev_if_pos (by omega) ?_)))))
  simp only [rdX, rdY]
  by_cases hY : Y l i = y
  ·rw [if_pos hY, List.map_append] at hj
   refine ev_if_pos hY (ev_bind (fracX (hb i hi).1) (ev_if_pos (by rw [List.length_map]; omega) ?_))
   have ef : fS ((X l i : Int) : Rat) = ⟨X l i, 1⟩ := by unfold fS; rw [Rat.num_intCast, Rat.den_intCast]; rfl
   rw [show List.map fS [((X l i : Int) : Rat)] = [⟨X l i, 1⟩] from by rw [List.map_cons, ef]; rfl] at hj
   exact hj
  ·rw [if_neg hY, List.append_nil] at hj
   exact ev_if_neg hY hj
 ·have hsm := pl_sm hb hy (n := l.length) (Nat.le_refl _)
  have hlen := pl_len l y l.length
  obtain ⟨j, j1, j2⟩ := mnI_mem (plA l y l.length) (plA l y l.length).length hne
  obtain ⟨j', j1', j2'⟩ := mxI_mem (plA l y l.length) (plA l y l.length).length hne
  have smn : sm (mnI (plA l y l.length) (plA l y l.length).length) := by rw [j2]; exact getD_of sm hsm j1
  have smx : sm (mxI (plA l y l.length) (plA l y l.length).length) := by rw [j2']; exact getD_of sm hsm j1'
  have a1 := minE (plA l y l.length) hne (by omega) hsm
  have a2 := maxE (plA l y l.length) hne (by omega) hsm
  have a3 := addS smx (sm_neg smn)
  rw [← (neg_fr smn).1, ← (neg_fr smn).2] at a3
  refine ev_succ ?_
  simp only [impl_widthAt.l0]
  exact ev_if_neg (by omega) (ev_bind a1 (ev_bind a2 (ev_bind a3 (ev_now fun _ => rfl))))
end Go.Proofs.Ytcomncokgkeniaa.Pure

