/- The walks of the functions that the law reaches: each computes what its Lean function says. No condition beyond each contract's own. -/
import Derived.Lib.AppendIntMem
import Derived.Lib.ItoaLen
import Derived.Test.YtchngbjpjbahiaaDoorShelf
import Derived.Test.YtchngbjpjbahiaaDoorHFnExactReadSailx0
import Derived.Test.YtchngbjpjbahiaaDoorHFnExactReadSailx9
namespace Go.Proofs.YtchngbjpjbahiaaDoor.PFnExactReadSail
noncomputable section
open Go.RowKit Go.Proofs.YtchngbjpjbahiaaDoorW.PrintWords Go.Proofs.YtchngbjpjbahiaaDoorW.PrintLast Go.Proofs.YtchngbjpjbahiaaDoorW.PrintMore
attribute [local go_sem] max2_int min2_int max_two min_two max_three min_three max_four min_four   -- for this text's walks alone
set_option linter.unusedVariables false
set_option linter.unusedSimpArgs false

/-! ### strings_Split: function 23 -/
/-! by hand: strings.Split, by the library's contract -/
def LenW (w : World) : Prop := ∃ m, w.cell? ⟨0, 0, none⟩ = some (.int .i64 m)
theorem LenW.at_ {w w' : World} (h : LenW w) (hb : Below w.heap.size w w') : LenW w' := by
 obtain ⟨m, hm⟩ := h
 exact ⟨m, (hb.cell (World.block_lt_of_cell? w _ hm)).trans hm⟩
def strings_Split.f (k : Nat) (a0 a1 : ByteArray) : Option (List ByteArray) := if a0.size < 4294967281 ∧ 1 ≤ a1.size then some (Lib.splitB a1 0 (Lib.countB a0 a1) a0) else none
theorem strings_Split.mono : ∀ a0 a1 k, LeO (strings_Split.f k a0 a1) (strings_Split.f (k + 1) a0 a1) := fun _ _ _ => LeO.refl _
theorem strings_Split.calls (k : Nat) (a0 a1 : ByteArray) (r : List ByteArray) (w : World) (hM : LenW w) (h : strings_Split.f k a0 a1 = some r) :
  Calls Tryd.prog 23 #[.string a0, .string a1] w fun e w' => ∃ v0_ : Value, e = .returned v0_ ∧ Kd.R Kd.string 9 w' w.heap.size (fun _ => True) v0_ r ∧ Below w.heap.size w w' := by
 unfold strings_Split.f at h
 by_cases hg : a0.size < 4294967281 ∧ 1 ≤ a1.size
 ·rw [if_pos hg] at h
  obtain rfl := Option.some.inj h; obtain ⟨m, hm⟩ := hM; have hlen := Lib.splitB_all a1 hg.2 0 _ a0 rfl; have hle := Lib.countB_le a1 hg.2 a0.size a0 (Nat.le_refl _); obtain ⟨q, hq⟩ : ∃ q, Lib.splitB a1 0 (Lib.countB a0 a1) a0 = q := ⟨_, rfl⟩; rw [hq] at hlen; have c := Tryd.strings_Split a0 a1 m w hg.1 hm hg.2; rw [hq, ← hlen] at c; rw [hq]
  refine c.mono fun e w' ⟨he, hw⟩ => ⟨_, he, ?_, ?_⟩
  ·subst hw
   refine Kd.R_of_own (enc := Value.string) (h1 := fun _ => rfl) (xs := q) ?_ (fun _ _ => trivial)
   have hcell : (w.alloc (.cells (q.map Value.string).toArray 9)).heap[w.heap.size]? = some (.cells (q.map Value.string).toArray 9 (0, 0)) := by
    show (w.heap.push _)[w.heap.size]? = _
    exact Array.getElem?_push_size
   refine ⟨by simp [encs], .inr ⟨w.heap.size, _, _, rfl, Nat.le_refl _, hcell, Nat.le_refl _, ?_, ?_, ?_⟩⟩
   ·have := hg.1
    unfold maxLen
    omega
   ·simp
   ·simp [encs]
    exact List.take_of_length_le (by simp)
  ·rw [hw]
   exact below_alloc (Below.refl _ _) _
 ·rw [if_neg hg] at h
  cases h

/-! ### strings_Cut: function 24 -/
/-! by hand: strings.Cut, by the library's contract -/
def strings_Cut.f (k : Nat) (a0 a1 : ByteArray) : Option (ByteArray × ByteArray × Bool) := if a0.size < 4294967281 then some (⟨(Lib.cut a0.data.toList a1.data.toList).1.toArray⟩, ⟨(Lib.cut a0.data.toList a1.data.toList).2.1.toArray⟩, (Lib.cut a0.data.toList a1.data.toList).2.2) else none
theorem strings_Cut.mono : ∀ a0 a1 k, LeO (strings_Cut.f k a0 a1) (strings_Cut.f (k + 1) a0 a1) := fun _ _ _ => LeO.refl _
theorem strings_Cut.calls (k : Nat) (a0 a1 r1 r2 : ByteArray) (r3 : Bool) (w : World) (hM : LenW w) (h : strings_Cut.f k a0 a1 = some (r1, r2, r3)) :
  Calls Tryd.prog 24 #[.string a0, .string a1] w fun e w' => e = .returned (.tuple #[.string r1, .string r2, .bool r3]) ∧ Below w.heap.size w w' := by
 unfold strings_Cut.f at h
 by_cases hg : a0.size < 4294967281
 ·rw [if_pos hg] at h
  have h := Option.some.inj h
  simp only [Prod.mk.injEq] at h
  obtain ⟨rfl, rfl, rfl⟩ := h; obtain ⟨m, hm⟩ := hM
  refine (Tryd.strings_Cut a0 a1 m w hg hm).mono fun e w' ⟨he, n, hw⟩ => ⟨he, ?_⟩
  rw [hw]
  exact pw_below_drewN (Below.refl _ _) n
 ·rw [if_neg hg] at h
  cases h

/-! ### impl_Decimal: function 18 -/
/-! by hand: impl.Decimal, by the library's contract -/
def TabW (w : World) : Prop := Lib.TabBelow Tryd.prog w.heap.size w "internal/strconv.uint64pow10" .u64 Lib.pow10Tab
theorem TabW.at_ {w w' : World} (h : TabW w) (hb : Below w.heap.size w w') : Lib.TabIs Tryd.prog w' "internal/strconv.uint64pow10" .u64 Lib.pow10Tab := h w' hb
theorem TabW.on_ {w w' : World} (h : TabW w) (hb : Below w.heap.size w w') : TabW w' := Lib.tabBelow_of_tabIs (h w' hb)
def impl_Decimal.f (k : Nat) (a0 : Int) : Option ByteArray := if -9223372036854775808 ≤ a0 ∧ a0 ≤ 9223372036854775807 then some ⟨(Lib.itoa a0).toArray⟩ else none
theorem impl_Decimal.mono : ∀ a0 k, LeO (impl_Decimal.f k a0) (impl_Decimal.f (k + 1) a0) := fun _ _ => LeO.refl _
set_option maxHeartbeats 8000000 in
set_option maxRecDepth 100000 in
theorem impl_Decimal.calls (k : Nat) (a0 : Int) (r : ByteArray) (w : World) (hT : Lib.TabIs Tryd.prog w "internal/strconv.uint64pow10" .u64 Lib.pow10Tab) (h : impl_Decimal.f k a0 = some r) :
  Calls Tryd.prog 18 #[.int .i64 a0] w fun e w' => e = .returned (.string r) ∧ Below w.heap.size w w' := by
 unfold impl_Decimal.f at h
 by_cases hg : -9223372036854775808 ≤ a0 ∧ a0 ≤ 9223372036854775807
 ·rw [if_pos hg] at h
  obtain rfl := Option.some.inj h; have HT := zQ hT; have HG := zQ hg; clear h hT hg
  go_enter Tryd.func18, Tryd.ntmps18
  go_wp2_with (first
   | (go_at_call 35; refine (Tryd.strconv_FormatInt_10 a0 HG.out.1 HG.out.2 _ HT.out).mono ?_; rintro e w1 ⟨rfl, kk, os, hw1⟩; have HB := zQ (show Below w.heap.size w w1 from by rw [hw1]; exact Lib.below_grow _ _ (Nat.le_refl _) _ _); clear hw1))
  go_ret
  exact ⟨by first | rfl | (simp; done), HB.out⟩
 ·rw [if_neg hg] at h
  cases h

/-! ### stringslite_HasPrefix: function 70 -/
def stringslite_HasPrefix.f (a0 : ByteArray) (a1 : ByteArray) : Option (Bool) := if (a0.size : Int) ≥ (a1.size : Int) then (if 0 ≤ (a1.size : Int) then (if (a1.size : Int) ≤ (a0.size : Int) then (some ((a0.extract 0 ((a1.size : Int) : Int).toNat).toList == a1.toList)) else (none)) else (none)) else (some false)
set_option maxHeartbeats 8000000 in
set_option maxRecDepth 100000 in
theorem stringslite_HasPrefix.calls (a0 : ByteArray) (a1 : ByteArray) (r : Bool) (w : World) (h : stringslite_HasPrefix.f a0 a1 = some r) :
  Calls Tryd.prog 70 #[.string a0, .string a1] w fun e w' => e = .returned (.bool r) ∧ Drawn0 w w' := by
 have H : (if (a0.size : Int) ≥ (a1.size : Int) then (if 0 ≤ (a1.size : Int) then (if (a1.size : Int) ≤ (a0.size : Int) then (some ((a0.extract 0 ((a1.size : Int) : Int).toNat).toList == a1.toList)) else (none)) else (none)) else (some false)) = some r := h
 clear h
 by_cases c3 : (a0.size : Int) ≥ (a1.size : Int)
 ·rw [if_pos c3] at H
  have c3b0 : decide ((a1.size : Int) ≤ (a0.size : Int)) = true := decide_eq_true c3; have c3b1 : decide (a1.size ≤ a0.size) = true := decide_eq_true (Int.ofNat_le.mp c3); clear c3
  by_cases c4 : 0 ≤ (a1.size : Int)
  ·rw [if_pos c4] at H
   have c4b0 := eq_true c4; have c4b1 : decide (0 ≤ (a1.size : Int)) = true := decide_eq_true c4; clear c4
   by_cases c5 : (a1.size : Int) ≤ (a0.size : Int)
   ·rw [if_pos c5] at H
    have c5b0 := eq_true c5; have c5b1 : decide ((a1.size : Int) ≤ (a0.size : Int)) = true := decide_eq_true c5; clear c5; obtain rfl := Option.some.inj H
    go_enter Tryd.func70, Tryd.ntmps70
    go_wp2
    go_ret
    exact ⟨zF, by repeat (first | exact Drawn0.refl _ | apply Drawn0.step)⟩
   ·rw [if_neg c5] at H
    exact absurd H (by simp)
  ·rw [if_neg c4] at H
   exact absurd H (by simp)
 ·rw [if_neg c3] at H
  have c3b0 : decide ((a1.size : Int) ≤ (a0.size : Int)) = false := decide_eq_false c3; have c3b1 : decide (a1.size ≤ a0.size) = false := decide_eq_false (fun h => c3 (Int.ofNat_le.mpr h)); clear c3; obtain rfl := Option.some.inj H
  go_enter Tryd.func70, Tryd.ntmps70
  go_wp2
  go_ret
  exact ⟨zF, by repeat (first | exact Drawn0.refl _ | apply Drawn0.step)⟩

/-! ### stringslite_TrimPrefix: function 54 -/
def stringslite_TrimPrefix.f (a0 : ByteArray) (a1 : ByteArray) : Option (ByteArray) := (stringslite_HasPrefix.f a0 a1).bind fun t257 => (if t257 = true then (if 0 ≤ (a1.size : Int) then (if (a1.size : Int) ≤ (a0.size : Int) then (some (a0.extract ((a1.size : Int) : Int).toNat a0.size)) else (none)) else (none)) else (some a0))
set_option maxHeartbeats 8000000 in
set_option maxRecDepth 100000 in
theorem stringslite_TrimPrefix.calls (a0 : ByteArray) (a1 : ByteArray) (r : ByteArray) (w : World) (h : stringslite_TrimPrefix.f a0 a1 = some r) :
  Calls Tryd.prog 54 #[.string a0, .string a1] w fun e w' => e = .returned (.string r) ∧ Drawn0 w w' := by
 have H : ((stringslite_HasPrefix.f a0 a1).bind fun t257 => (if t257 = true then (if 0 ≤ (a1.size : Int) then (if (a1.size : Int) ≤ (a0.size : Int) then (some (a0.extract ((a1.size : Int) : Int).toNat a0.size)) else (none)) else (none)) else (some a0))) = some r := h
 clear h
 replace H := Option.bind_eq_some_iff.mp H
 obtain ⟨t257, A30, H⟩ := H
 replace H : (if t257 = true then (if 0 ≤ (a1.size : Int) then (if (a1.size : Int) ≤ (a0.size : Int) then (some (a0.extract ((a1.size : Int) : Int).toNat a0.size)) else (none)) else (none)) else (some a0)) = some r := H
 have A3 := zQ A30
 clear A30
 by_cases c4 : t257 = true
 ·subst c4
  have H1 : (if 0 ≤ (a1.size : Int) then (if (a1.size : Int) ≤ (a0.size : Int) then (some (a0.extract ((a1.size : Int) : Int).toNat a0.size)) else (none)) else (none)) = some r := by rw [if_pos rfl] at H; exact H
  clear H; have H := H1; clear H1
  by_cases c5 : 0 ≤ (a1.size : Int)
  ·rw [if_pos c5] at H
   have c5b0 := eq_true c5; have c5b1 : decide (0 ≤ (a1.size : Int)) = true := decide_eq_true c5; clear c5
   by_cases c6 : (a1.size : Int) ≤ (a0.size : Int)
   ·rw [if_pos c6] at H
    have c6b0 := eq_true c6; have c6b1 : decide ((a1.size : Int) ≤ (a0.size : Int)) = true := decide_eq_true c6; clear c6; obtain rfl := Option.some.inj H
    go_enter Tryd.func54, Tryd.ntmps54
    go_wp2_with (first | ((with_reducible refine zgc 70 ?_); refine goesL_ (some 7) rfl rfl Tryd.func70 (by kernel_rfl) rfl #[.string a0, .string a1] rfl zM ?_; (with_reducible refine (stringslite_HasPrefix.calls a0 a1 true _ A3.out).mono ?_); rintro e w' ⟨rfl, ⟨nd, rfl⟩⟩; refine ⟨_, rfl, ?_⟩))
    go_ret
    exact ⟨zF, by repeat (first | exact Drawn0.refl _ | apply Drawn0.step)⟩
   ·rw [if_neg c6] at H
    exact absurd H (by simp)
  ·rw [if_neg c5] at H
   exact absurd H (by simp)
 ·replace c4 := Bool.eq_false_iff.mpr c4
  subst c4
  have H1 : (some a0) = some r := by rw [if_neg (show ¬ (false = true) by decide)] at H; exact H
  clear H; have H := H1; clear H1; obtain rfl := Option.some.inj H
  go_enter Tryd.func54, Tryd.ntmps54
  go_wp2_with (first | ((with_reducible refine zgc 70 ?_); refine goesL_ (some 7) rfl rfl Tryd.func70 (by kernel_rfl) rfl #[.string a0, .string a1] rfl zM ?_; (with_reducible refine (stringslite_HasPrefix.calls a0 a1 false _ A3.out).mono ?_); rintro e w' ⟨rfl, ⟨nd, rfl⟩⟩; refine ⟨_, rfl, ?_⟩))
  go_ret
  exact ⟨zF, by repeat (first | exact Drawn0.refl _ | apply Drawn0.step)⟩

/-! ### strings_TrimPrefix: function 42 -/
def strings_TrimPrefix.f (a0 : ByteArray) (a1 : ByteArray) : Option (ByteArray) := (stringslite_TrimPrefix.f a0 a1).bind fun t258 => (some t258)
set_option maxHeartbeats 8000000 in
set_option maxRecDepth 100000 in
theorem strings_TrimPrefix.calls (a0 : ByteArray) (a1 : ByteArray) (r : ByteArray) (w : World) (h : strings_TrimPrefix.f a0 a1 = some r) :
  Calls Tryd.prog 42 #[.string a0, .string a1] w fun e w' => e = .returned (.string r) ∧ Drawn0 w w' := by
 have H : ((stringslite_TrimPrefix.f a0 a1).bind fun t258 => (some t258)) = some r := h
 clear h
 replace H := Option.bind_eq_some_iff.mp H
 obtain ⟨t258, A30, H⟩ := H
 replace H : (some t258) = some r := H
 have A3 := zQ A30
 clear A30
 obtain rfl := Option.some.inj H
 go_enter Tryd.func42, Tryd.ntmps42
 go_wp2_with (first | ((with_reducible refine zgc 54 ?_); refine goesL_ (some 7) rfl rfl Tryd.func54 (by kernel_rfl) rfl #[.string a0, .string a1] rfl zM ?_; (with_reducible refine (stringslite_TrimPrefix.calls a0 a1 t258 _ A3.out).mono ?_); rintro e w' ⟨rfl, ⟨nd, rfl⟩⟩; refine ⟨_, rfl, ?_⟩))
 go_ret
 exact ⟨zF, by repeat (first | exact Drawn0.refl _ | apply Drawn0.step)⟩

/-! ### impl_ReadDecimal: function 25 -/
mutual
def impl_ReadDecimal.j0 : Nat → ByteArray → ByteArray → Bool → Option (Int × Bool)
 | 0, _, _, _ => none
 | k + 1, x0, x4, x16 => if x16 = true then (some (0, false)) else (impl_ReadDecimal.l0 k x0 x4 0 0)
def impl_ReadDecimal.l0 : Nat → ByteArray → ByteArray → Int → Int → Option (Int × Bool)
 | 0, _, _, _, _ => none
 | k + 1, x0, x4, x5, x6 => if x6 < (x4.size : Int) then (if 0 ≤ x6 then (if (bt x4 x6) < 48 then (some (0, false)) else (if (bt x4 x6) > 57 then (some (0, false)) else (impl_ReadDecimal.l0 k x0 x4 (wrap64 ((wrap64 (10 * x5)) + (((bt x4 x6) - 48) % 256))) (wrap64 (x6 + 1))))) else (none)) else (if (x4.size : Int) < (x0.size : Int) then ((impl_Decimal.f k (wrap64 (-x5))).bind fun t260 => (if t260.toList = x0.toList then (some (wrap64 (-x5), true)) else (some (0, false)))) else ((impl_Decimal.f k x5).bind fun t261 => (if t261.toList = x0.toList then (some (x5, true)) else (some (0, false)))))
end
def impl_ReadDecimal.f (k : Nat) (a0 : ByteArray) : Option (Int × Bool) := (strings_TrimPrefix.f a0 (⟨#[45]⟩ : ByteArray)).bind fun t259 => (if (t259.size : Int) < 1 then (impl_ReadDecimal.j0 k a0 t259 true) else (impl_ReadDecimal.j0 k a0 t259 (decide ((t259.size : Int) > 18))))
theorem impl_ReadDecimal.mono_l : ∀ k, (∀ y0 y1 y2, LeO (impl_ReadDecimal.j0 k y0 y1 y2) (impl_ReadDecimal.j0 (k + 1) y0 y1 y2)) ∧ (∀ y0 y1 y2 y3, LeO (impl_ReadDecimal.l0 k y0 y1 y2 y3) (impl_ReadDecimal.l0 (k + 1) y0 y1 y2 y3))
 | 0 => ⟨fun _ _ _ r h => by simp [impl_ReadDecimal.j0] at h, fun _ _ _ _ r h => by simp [impl_ReadDecimal.l0] at h⟩
 | k + 1 => by
  obtain ⟨ih0, ih1⟩ := impl_ReadDecimal.mono_l k
  refine ⟨?_, ?_⟩
  ·intro y0 y1 y2
   unfold impl_ReadDecimal.j0
   (with_reducible repeat' first | apply ih0 | apply ih1 | apply impl_Decimal.mono | apply LeO.refl | apply LeO.none | refine LeO.ite ?_ ?_ | refine LeO.bind ?_ (fun _ => ?_))
   repeat' first | apply ih0 | apply ih1 | apply impl_Decimal.mono | apply LeO.none | refine LeO.ite ?_ ?_ | refine LeO.bind ?_ (fun _ => ?_)
  ·intro y0 y1 y2 y3
   unfold impl_ReadDecimal.l0
   (with_reducible repeat' first | apply ih0 | apply ih1 | apply impl_Decimal.mono | apply LeO.refl | apply LeO.none | refine LeO.ite ?_ ?_ | refine LeO.bind ?_ (fun _ => ?_))
   repeat' first | apply ih0 | apply ih1 | apply impl_Decimal.mono | apply LeO.none | refine LeO.ite ?_ ?_ | refine LeO.bind ?_ (fun _ => ?_)
theorem impl_ReadDecimal.mono : ∀ a0 k, LeO (impl_ReadDecimal.f k a0) (impl_ReadDecimal.f (k + 1) a0) := by
 intro a0 k
 obtain ⟨ih0, ih1⟩ := impl_ReadDecimal.mono_l k
 unfold impl_ReadDecimal.f
 (with_reducible repeat' first | apply ih0 | apply ih1 | apply impl_Decimal.mono | apply LeO.refl | apply LeO.none | refine LeO.ite ?_ ?_ | refine LeO.bind ?_ (fun _ => ?_))
 repeat' first | apply ih0 | apply ih1 | apply impl_Decimal.mono | apply LeO.none | refine LeO.ite ?_ ?_ | refine LeO.bind ?_ (fun _ => ?_)
set_option maxHeartbeats 8000000 in
set_option maxRecDepth 100000 in
theorem impl_ReadDecimal.calls (k : Nat) (a0 : ByteArray) (r1 : Int) (r2 : Bool) (w : World) (hT : TabW w) (h : impl_ReadDecimal.f k a0 = some (r1, r2)) :
  Calls Tryd.prog 25 #[.string a0] w fun e w' => e = .returned (.tuple #[.int .i64 r1, .bool r2]) ∧ Below w.heap.size w w' := by
 have HT := zQ hT
 clear hT
 have HB := zQ (Below.refl w.heap.size w)
 have H : ((strings_TrimPrefix.f a0 (⟨#[45]⟩ : ByteArray)).bind fun t259 => (if (t259.size : Int) < 1 then (impl_ReadDecimal.j0 k a0 t259 true) else (impl_ReadDecimal.j0 k a0 t259 (decide ((t259.size : Int) > 18))))) = some (r1, r2) := h
 clear h
 replace H := Option.bind_eq_some_iff.mp H
 obtain ⟨t259, A20, H⟩ := H
 replace H : (if (t259.size : Int) < 1 then (impl_ReadDecimal.j0 k a0 t259 true) else (impl_ReadDecimal.j0 k a0 t259 (decide ((t259.size : Int) > 18)))) = some (r1, r2) := H
 have A2 := zQ A20
 clear A20
 have HC3 := zQ H
 clear H
 go_enter Tryd.func25, Tryd.ntmps25
 go_upto_region 2 with (first | ((with_reducible refine zgc 42 ?_); refine goesL_ (some 8) rfl rfl Tryd.func42 (by kernel_rfl) rfl #[.string a0, .string (⟨#[45]⟩ : ByteArray)] rfl zM ?_; (with_reducible refine (strings_TrimPrefix.calls a0 (⟨#[45]⟩ : ByteArray) t259 _ A2.out).mono ?_); rintro e w' ⟨rfl, ⟨nd, rfl⟩⟩; refine ⟨_, rfl, ?_⟩))
 (try simp only [Act.put, List.setIfInBounds_toArray, List.set_cons_zero, List.set_cons_succ])
 go_cut [16] (fun v16 wc => ∃ (kq : Nat) (x16_2 : Bool), v16 = .bool x16_2 ∧ Aside0 (impl_ReadDecimal.j0 kq a0 t259 x16_2 = some (r1, r2)) ∧ Aside0 (kq ≤ k) ∧ Aside0 (Below w.heap.size w wc))
 case first =>
  have H := HC3.out; clear HC3
  by_cases c4 : (t259.size : Int) < 1
  ·rw [if_pos c4] at H
   have c4b0 : decide ((t259.size : Int) < 1) = true := decide_eq_true c4; have c4b1 : decide (t259.size < 1) = true := decide_eq_true (by omega); clear c4
   (first | rw [c4b0] | (simp only [i64_w, i32_w]; rw [c4b0]) | skip)
   have H' := zQ H; clear H
   go_wp2
   go_meet
   case rel => exact ⟨_, (true), (zF), H', ⟨by first | omega | exact Nat.le_refl _⟩, ⟨zB HB.out⟩⟩
  ·rw [if_neg c4] at H
   have c4b0 : decide ((t259.size : Int) < 1) = false := decide_eq_false c4; have c4b1 : decide (t259.size < 1) = false := decide_eq_false (by omega); clear c4
   (first | rw [c4b0] | (simp only [i64_w, i32_w]; rw [c4b0]) | skip)
   have H' := zQ H; clear H
   go_wp2
   go_meet
   case rel => exact ⟨_, (decide ((t259.size : Int) > 18)), (zF), H', ⟨by first | omega | exact Nat.le_refl _⟩, ⟨zB HB.out⟩⟩
 case rest =>
  clear HC3; (try clear c2); (try clear p2); (try clear c4); (try clear c4b0); (try clear c4b1); obtain ⟨kq, x16_2, rfl, HA, HJ2, HB⟩ := hcut
  cases kq with
  | zero => exact absurd HA.out (by simp [impl_ReadDecimal.j0])
  | succ kj2 =>
   have H := HA.out; clear HA
   simp only [impl_ReadDecimal.j0] at H
   by_cases c5 : x16_2 = true
   ·subst c5
    have H1 : (some (0, false)) = some (r1, r2) := by rw [if_pos rfl] at H; exact H
    clear H; have H := H1; clear H1
    simp only [Option.some.injEq, Prod.mk.injEq] at H
    obtain ⟨rfl, rfl⟩ := H
    go_wp2
    go_ret2
    exact ⟨zE, zB HB.out⟩
   ·replace c5 := Bool.eq_false_iff.mpr c5
    subst c5
    have H1 : (impl_ReadDecimal.l0 kj2 a0 t259 0 0) = some (r1, r2) := by rw [if_neg (show ¬ (false = true) by decide)] at H; exact H
    clear H; have H := H1; clear H1; have H' := zQ H; clear H
    go_wp2
    go_loopg [5, 6] kj2 (fun kq v5 v6 w' => ∃ (x5_2 : Int) (x6_2 : Int), v5 = .int .i64 x5_2 ∧ v6 = .int .i64 x6_2 ∧ Aside0 (impl_ReadDecimal.l0 kq a0 t259 x5_2 x6_2 = some (r1, r2)) ∧ Aside0 (kq ≤ kj2) ∧ Aside0 (Below w.heap.size w w'))
    case atStart => exact ⟨(0), (0), (zF), (zF), H', ⟨Nat.le_refl _⟩, ⟨zB HB.out⟩⟩
    case round =>
     clear H'; (try clear c2); (try clear p2); (try clear c4); (try clear c4b0); (try clear c4b1); (try clear c5); (try clear p2); obtain ⟨x5_2, x6_2, rfl, rfl, HA, HK2, HB⟩ := hrel
     cases gk with
     | zero => exact absurd HA.out (by simp [impl_ReadDecimal.l0])
     | succ k2 =>
      have H := HA.out; clear HA
      simp only [impl_ReadDecimal.l0] at H
      by_cases c6 : x6_2 < (t259.size : Int)
      ·rw [if_pos c6] at H
       have c6b0 : decide (x6_2 < (t259.size : Int)) = true := decide_eq_true c6; clear c6
       by_cases c7 : 0 ≤ x6_2
       ·rw [if_pos c7] at H
        have c7b0 : decide (0 ≤ x6_2) = true := decide_eq_true c7; clear c7
        by_cases c9 : (bt t259 x6_2) < 48
        ·rw [if_pos c9] at H
         have c9b0 : decide ((bt t259 x6_2) < 48) = true := decide_eq_true c9; clear c9
         simp only [Option.some.injEq, Prod.mk.injEq] at H
         obtain ⟨rfl, rfl⟩ := H; have p8 : 0 ≤ (x6_2 : Int) := of_decide_eq_true zA; have q8 : x6_2 < (t259.size : Int) := of_decide_eq_true zA; have hx8 := bt_at t259 x6_2; replace p8 := eq_true p8; replace q8 := eq_true q8
         go_wp2
         go_ret2
         exact ⟨zE, zB HB.out⟩
        ·rw [if_neg c9] at H
         have c9b0 : decide ((bt t259 x6_2) < 48) = false := decide_eq_false c9; clear c9
         by_cases c11 : (bt t259 x6_2) > 57
         ·rw [if_pos c11] at H
          have c11b0 : decide (57 < (bt t259 x6_2)) = true := decide_eq_true c11; clear c11
          simp only [Option.some.injEq, Prod.mk.injEq] at H
          obtain ⟨rfl, rfl⟩ := H; have p8 : 0 ≤ (x6_2 : Int) := of_decide_eq_true zA; have q8 : x6_2 < (t259.size : Int) := of_decide_eq_true zA; have hx8 := bt_at t259 x6_2; replace p8 := eq_true p8; replace q8 := eq_true q8; have p10 : 0 ≤ (x6_2 : Int) := of_decide_eq_true zA; have q10 : x6_2 < (t259.size : Int) := of_decide_eq_true zA; have hx10 := bt_at t259 x6_2; replace p10 := eq_true p10; replace q10 := eq_true q10
          go_wp2
          go_ret2
          exact ⟨zE, zB HB.out⟩
         ·rw [if_neg c11] at H
          have c11b0 : decide (57 < (bt t259 x6_2)) = false := decide_eq_false c11; clear c11; have H' := zQ H; clear H; have p8 : 0 ≤ (x6_2 : Int) := of_decide_eq_true zA; have q8 : x6_2 < (t259.size : Int) := of_decide_eq_true zA; have hx8 := bt_at t259 x6_2; replace p8 := eq_true p8; replace q8 := eq_true q8; have p10 : 0 ≤ (x6_2 : Int) := of_decide_eq_true zA; have q10 : x6_2 < (t259.size : Int) := of_decide_eq_true zA; have hx10 := bt_at t259 x6_2; replace p10 := eq_true p10; replace q10 := eq_true q10; have p12 : 0 ≤ (x6_2 : Int) := of_decide_eq_true zA; have q12 : x6_2 < (t259.size : Int) := of_decide_eq_true zA; have hx12 := bt_at t259 x6_2; replace p12 := eq_true p12; replace q12 := eq_true q12
          go_wp2
          go_roundg k2
          case measure => have := HJ2.out; have := HK2.out; omega
          case rel => exact ⟨(wrap64 ((wrap64 (10 * x5_2)) + (((bt t259 x6_2) - 48) % 256))), (wrap64 (x6_2 + 1)), (zF), (zF), H', ⟨by have := HJ2.out; have := HK2.out; omega⟩, ⟨zB HB.out⟩⟩
       ·rw [if_neg c7] at H
        exact absurd H (by simp)
      ·rw [if_neg c6] at H
       have c6b0 : decide (x6_2 < (t259.size : Int)) = false := decide_eq_false c6; clear c6
       by_cases c13 : (t259.size : Int) < (a0.size : Int)
       ·rw [if_pos c13] at H
        have c13b0 : decide ((t259.size : Int) < (a0.size : Int)) = true := decide_eq_true c13; have c13b1 : decide (t259.size < a0.size) = true := decide_eq_true (Int.ofNat_lt.mp c13); clear c13; replace H := Option.bind_eq_some_iff.mp H; obtain ⟨t260, A140, H⟩ := H; replace H : (if t260.toList = a0.toList then (some (wrap64 (-x5_2), true)) else (some (0, false))) = some (r1, r2) := H; have A14 := zQ A140; clear A140
        by_cases c15 : t260.toList = a0.toList
        ·rw [if_pos c15] at H
         have c15b0 : (t260.toList == a0.toList) = true := beq_iff_eq.mpr c15; have c15b1 : (t260.toList != a0.toList) = false := bne_eq_false_iff_eq.mpr c15; clear c15
         simp only [Option.some.injEq, Prod.mk.injEq] at H
         obtain ⟨rfl, rfl⟩ := H
         go_wp2_with (first | ((with_reducible refine zgc 18 ?_); refine goesL_ (some 49) rfl rfl Tryd.func18 (by kernel_rfl) rfl #[.int .i64 (wrap64 (-x5_2))] rfl zM ?_; (with_reducible refine (impl_Decimal.calls k2 (wrap64 (-x5_2)) t260 _ (HT.out.at_ (zB HB.out)) A14.out).mono ?_); rintro e w16 ⟨rfl, hb⟩; refine ⟨_, rfl, ?_⟩; replace HB := zbs HB.out hb; (try clear hb)))
         go_ret2
         exact ⟨zE, zB HB.out⟩
        ·rw [if_neg c15] at H
         have c15b0 : (t260.toList == a0.toList) = false := beq_eq_false_iff_ne.mpr c15; have c15b1 : (t260.toList != a0.toList) = true := bne_iff_ne.mpr c15
         simp only [Option.some.injEq, Prod.mk.injEq] at H
         obtain ⟨rfl, rfl⟩ := H
         go_wp2_with (first | ((with_reducible refine zgc 18 ?_); refine goesL_ (some 49) rfl rfl Tryd.func18 (by kernel_rfl) rfl #[.int .i64 (wrap64 (-x5_2))] rfl zM ?_; (with_reducible refine (impl_Decimal.calls k2 (wrap64 (-x5_2)) t260 _ (HT.out.at_ (zB HB.out)) A14.out).mono ?_); rintro e w17 ⟨rfl, hb⟩; refine ⟨_, rfl, ?_⟩; replace HB := zbs HB.out hb; (try clear hb)))
         go_ret2
         exact ⟨zE, zB HB.out⟩
       ·rw [if_neg c13] at H
        have c13b0 : decide ((t259.size : Int) < (a0.size : Int)) = false := decide_eq_false c13; have c13b1 : decide (t259.size < a0.size) = false := decide_eq_false (fun h => c13 (Int.ofNat_lt.mpr h)); clear c13; replace H := Option.bind_eq_some_iff.mp H; obtain ⟨t261, A180, H⟩ := H; replace H : (if t261.toList = a0.toList then (some (x5_2, true)) else (some (0, false))) = some (r1, r2) := H; have A18 := zQ A180; clear A180
        by_cases c19 : t261.toList = a0.toList
        ·rw [if_pos c19] at H
         have c19b0 : (t261.toList == a0.toList) = true := beq_iff_eq.mpr c19; have c19b1 : (t261.toList != a0.toList) = false := bne_eq_false_iff_eq.mpr c19; clear c19
         simp only [Option.some.injEq, Prod.mk.injEq] at H
         obtain ⟨rfl, rfl⟩ := H
         go_wp2_with (first | ((with_reducible refine zgc 18 ?_); refine goesL_ (some 49) rfl rfl Tryd.func18 (by kernel_rfl) rfl #[.int .i64 x5_2] rfl zM ?_; (with_reducible refine (impl_Decimal.calls k2 x5_2 t261 _ (HT.out.at_ (zB HB.out)) A18.out).mono ?_); rintro e w20 ⟨rfl, hb⟩; refine ⟨_, rfl, ?_⟩; replace HB := zbs HB.out hb; (try clear hb)))
         go_ret2
         exact ⟨zE, zB HB.out⟩
        ·rw [if_neg c19] at H
         have c19b0 : (t261.toList == a0.toList) = false := beq_eq_false_iff_ne.mpr c19; have c19b1 : (t261.toList != a0.toList) = true := bne_iff_ne.mpr c19
         simp only [Option.some.injEq, Prod.mk.injEq] at H
         obtain ⟨rfl, rfl⟩ := H
         go_wp2_with (first | ((with_reducible refine zgc 18 ?_); refine goesL_ (some 49) rfl rfl Tryd.func18 (by kernel_rfl) rfl #[.int .i64 x5_2] rfl zM ?_; (with_reducible refine (impl_Decimal.calls k2 x5_2 t261 _ (HT.out.at_ (zB HB.out)) A18.out).mono ?_); rintro e w21 ⟨rfl, hb⟩; refine ⟨_, rfl, ?_⟩; replace HB := zbs HB.out hb; (try clear hb)))
         go_ret2
         exact ⟨zE, zB HB.out⟩

/-! ### impl_ReadSail: function 11 -/
def impl_ReadSail.l0 : Nat → List (S35) → List ByteArray → Int → Int → Option ((List (S35)) × Bool)
 | 0, _, _, _, _ => none
 | k + 1, x4, x16, x17, x18 => if x18 < x17 then (if 0 ≤ x18 then (if x18 < (x16.length : Int) then ((strings_Cut.f k (rdOf ByteArray.empty x16 x18) (⟨#[44]⟩ : ByteArray)).bind fun bt270 => ((impl_ReadDecimal.f k bt270.1).bind fun bt273 => ((impl_ReadDecimal.f k bt270.2.1).bind fun bt275 => (if bt270.2.2 = true then (if bt273.2 = true then (if bt275.2 = true then (if x4.length < 8796093022208 then (impl_ReadSail.l0 k (x4 ++ [(⟨bt273.1, bt275.1⟩ : S35)]) x16 x17 (wrap64 (x18 + 1))) else (none)) else (some (([] : List (S35)), false))) else (some (([] : List (S35)), false))) else (some (([] : List (S35)), false)))))) else (none)) else (none)) else ((impl_ValidSail.f k x4).bind fun t268 => (if t268 = true then (some (x4, true)) else (some (([] : List (S35)), false))))
def impl_ReadSail.f (k : Nat) (a0 : ByteArray) : Option ((List (S35)) × Bool) := (strings_Split.f k a0 (⟨#[32]⟩ : ByteArray)).bind fun t265 => (impl_ReadSail.l0 k (([] : List (S35))) t265 (t265.length : Int) 0)
theorem impl_ReadSail.mono_l : ∀ k, (∀ y0 y1 y2 y3, LeO (impl_ReadSail.l0 k y0 y1 y2 y3) (impl_ReadSail.l0 (k + 1) y0 y1 y2 y3))
 | 0 => fun _ _ _ _ r h => by simp [impl_ReadSail.l0] at h
 | k + 1 => by
  have ih0 := impl_ReadSail.mono_l k
  ·intro y0 y1 y2 y3
   unfold impl_ReadSail.l0
   (with_reducible repeat' first | apply ih0 | apply impl_ReadDecimal.mono | apply impl_ValidSail.mono | apply strings_Cut.mono | apply strings_Split.mono | apply LeO.refl | apply LeO.none | refine LeO.ite ?_ ?_ | refine LeO.bind ?_ (fun _ => ?_))
   repeat' first | apply ih0 | apply impl_ReadDecimal.mono | apply impl_ValidSail.mono | apply strings_Cut.mono | apply strings_Split.mono | apply LeO.none | refine LeO.ite ?_ ?_ | refine LeO.bind ?_ (fun _ => ?_)
theorem impl_ReadSail.mono : ∀ a0 k, LeO (impl_ReadSail.f k a0) (impl_ReadSail.f (k + 1) a0) := by
 intro a0 k
 have ih0 := impl_ReadSail.mono_l k
 unfold impl_ReadSail.f
 (with_reducible repeat' first | apply ih0 | apply impl_ReadDecimal.mono | apply impl_ValidSail.mono | apply strings_Cut.mono | apply strings_Split.mono | apply LeO.refl | apply LeO.none | refine LeO.ite ?_ ?_ | refine LeO.bind ?_ (fun _ => ?_))
 repeat' first | apply ih0 | apply impl_ReadDecimal.mono | apply impl_ValidSail.mono | apply strings_Cut.mono | apply strings_Split.mono | apply LeO.none | refine LeO.ite ?_ ?_ | refine LeO.bind ?_ (fun _ => ?_)
set_option maxHeartbeats 8000000 in
set_option maxRecDepth 100000 in
theorem impl_ReadSail.calls (k : Nat) (a0 : ByteArray) (r1 : List (S35)) (r2 : Bool) (w : World) (hT : TabW w) (hM : LenW w) (h : impl_ReadSail.f k a0 = some (r1, r2)) :
  Calls Tryd.prog 11 #[.string a0] w fun e w' => ∃ v0_ : Value, e = .returned (.tuple #[v0_, .bool r2]) ∧ Kd.R k35 35 w' w.heap.size (fun _ => True) v0_ r1 ∧ Below w.heap.size w w' := by
 have HT := zQ hT
 have HM := zQ hM
 clear hT hM
 have hu35 := Tryd.underlying35
 have HB := zQ (Below.refl w.heap.size w)
 have H : ((strings_Split.f k a0 (⟨#[32]⟩ : ByteArray)).bind fun t265 => (impl_ReadSail.l0 k (([] : List (S35))) t265 (t265.length : Int) 0)) = some (r1, r2) := h
 clear h
 obtain ⟨y262, hy262⟩ : ∃ y_ : List (S35), y_ = (([] : List (S35))) := ⟨_, rfl⟩
 replace H : ((strings_Split.f k a0 (⟨#[32]⟩ : ByteArray)).bind fun t265 => (impl_ReadSail.l0 k y262 t265 (t265.length : Int) 0)) = some (r1, r2) := zh H
 have Ny262 := zQ hy262
 clear hy262
 replace H := Option.bind_eq_some_iff.mp H
 obtain ⟨t265, A20, H⟩ := H
 replace H : (impl_ReadSail.l0 k y262 t265 (t265.length : Int) 0) = some (r1, r2) := H
 have A2 := zQ A20
 clear A20
 have H' := zQ H
 clear H
 go_enter Tryd.func11, Tryd.ntmps11
 go_wp2_with (first | ((with_reducible refine zd 14 ?_); refine Kd.R_lit k35 _ 35 ?hg (N := 14) ?hd (xs := ([] : List (S35))) (inner := []) (ok := fun _ => True) (okp := fun _ => True) ?hr ?hp (fun _ hk => hk) trivial (Below.refl _ _) (Nat.le_refl _) (by simp) ?_; (case hd => rfl); (case hg => rfl); (case hr => first | (go_simp; done) | (go_simp; rfl)); (case hp => exact (Reps.none _ _)); intro v263 w3 ho4 hb hg_ hnew_; clear hg_ hnew_; (first | rw [← Ny262.out] at ho4 | (simp only [Int.reduceToNat] at ho4; rw [← Ny262.out] at ho4)); have HO264 := zQ (Kd.R_lower ho4 (below_size (zB HB.out))); replace HB := zbs HB.out hb; clear hb ho4) | ((with_reducible refine zgc 23 ?_); refine goesL_ (some 16) rfl rfl Tryd.func23 (by kernel_rfl) rfl #[.string a0, .string (⟨#[32]⟩ : ByteArray)] rfl zM ?_; (with_reducible refine (strings_Split.calls k a0 (⟨#[32]⟩ : ByteArray) t265 _ (HM.out.at_ (zB HB.out)) A2.out).mono ?_); rintro e w5 ⟨v266, rfl, ho0, hb⟩; refine ⟨_, rfl, ?_⟩; have HO267 := zQ (Kd.R_lower ho0 (below_size (zB HB.out))); replace HO264 := zQ (Kd.R_below (zR HO264.out) hb); replace HB := zbs HB.out hb; (try clear hb); (try clear ho0); obtain ⟨Ao6, co6, eo6⟩ := Kd.R_slice HO267.out; subst eo6))
 go_loopg [4, 18] k (fun kq v4 v18 w' => ∃ (x4_1 : List (S35)) (x18_1 : Int), v18 = .int .i64 x18_1 ∧ Aside0 (impl_ReadSail.l0 kq x4_1 t265 (t265.length : Int) x18_1 = some (r1, r2)) ∧ Aside0 (kq ≤ k) ∧ Aside0 (Kd.R k35 35 w' w.heap.size (fun _ => True) v4 x4_1) ∧ Aside0 (Kd.R Kd.string 9 w' w.heap.size (fun _ => True) (.slice Ao6 t265.length co6) t265) ∧ Aside0 (Below w.heap.size w w'))
 case atStart => exact ⟨(y262), (0), (zF), H', ⟨Nat.le_refl _⟩, ⟨zR HO264.out⟩, ⟨zR HO267.out⟩, ⟨zB HB.out⟩⟩
 case round =>
  clear H'; (try clear c1); (try clear c2); (try clear p2); obtain ⟨x4_1, x18_1, rfl, HA, HK1, HO_4, HO_16, HB⟩ := hrel
  cases gk with
  | zero => exact absurd HA.out (by simp [impl_ReadSail.l0])
  | succ k1 =>
   have H := HA.out; clear HA
   simp only [impl_ReadSail.l0] at H
   by_cases c7 : x18_1 < (t265.length : Int)
   ·rw [if_pos c7] at H
    have c7b0 : decide (x18_1 < (t265.length : Int)) = true := decide_eq_true c7; clear c7
    by_cases c8 : 0 ≤ x18_1
    ·rw [if_pos c8] at H
     have c8b0 : decide (0 ≤ x18_1) = true := decide_eq_true c8; clear c8
     by_cases c9 : x18_1 < (t265.length : Int)
     ·rw [if_pos c9] at H
      have c9b0 : decide (x18_1 < (t265.length : Int)) = true := decide_eq_true c9; clear c9; replace H := Option.bind_eq_some_iff.mp H; obtain ⟨⟨t270, t271, t272⟩, A100, H⟩ := H; replace H : ((impl_ReadDecimal.f k1 t270).bind fun bt273 => ((impl_ReadDecimal.f k1 t271).bind fun bt275 => (if t272 = true then (if bt273.2 = true then (if bt275.2 = true then (if x4_1.length < 8796093022208 then (impl_ReadSail.l0 k1 (x4_1 ++ [(⟨bt273.1, bt275.1⟩ : S35)]) t265 (t265.length : Int) (wrap64 (x18_1 + 1))) else (none)) else (some (([] : List (S35)), false))) else (some (([] : List (S35)), false))) else (some (([] : List (S35)), false))))) = some (r1, r2) := H; have A10 := zQ A100; clear A100; replace H := Option.bind_eq_some_iff.mp H; obtain ⟨⟨t273, t274⟩, A110, H⟩ := H; replace H : ((impl_ReadDecimal.f k1 t271).bind fun bt275 => (if t272 = true then (if t274 = true then (if bt275.2 = true then (if x4_1.length < 8796093022208 then (impl_ReadSail.l0 k1 (x4_1 ++ [(⟨t273, bt275.1⟩ : S35)]) t265 (t265.length : Int) (wrap64 (x18_1 + 1))) else (none)) else (some (([] : List (S35)), false))) else (some (([] : List (S35)), false))) else (some (([] : List (S35)), false)))) = some (r1, r2) := H; have A11 := zQ A110; clear A110; replace H := Option.bind_eq_some_iff.mp H; obtain ⟨⟨t275, t276⟩, A120, H⟩ := H
      replace H : (if t272 = true then (if t274 = true then (if t276 = true then (if x4_1.length < 8796093022208 then (impl_ReadSail.l0 k1 (x4_1 ++ [(⟨t273, t275⟩ : S35)]) t265 (t265.length : Int) (wrap64 (x18_1 + 1))) else (none)) else (some (([] : List (S35)), false))) else (some (([] : List (S35)), false))) else (some (([] : List (S35)), false))) = some (r1, r2) := H; have A12 := zQ A120; clear A120
      by_cases c13 : t272 = true
      ·subst c13
       have H1 : (if t274 = true then (if t276 = true then (if x4_1.length < 8796093022208 then (impl_ReadSail.l0 k1 (x4_1 ++ [(⟨t273, t275⟩ : S35)]) t265 (t265.length : Int) (wrap64 (x18_1 + 1))) else (none)) else (some (([] : List (S35)), false))) else (some (([] : List (S35)), false))) = some (r1, r2) := by rw [if_pos rfl] at H; exact H
       clear H; have H := H1; clear H1
       by_cases c14 : t274 = true
       ·subst c14
        have H1 : (if t276 = true then (if x4_1.length < 8796093022208 then (impl_ReadSail.l0 k1 (x4_1 ++ [(⟨t273, t275⟩ : S35)]) t265 (t265.length : Int) (wrap64 (x18_1 + 1))) else (none)) else (some (([] : List (S35)), false))) = some (r1, r2) := by rw [if_pos rfl] at H; exact H
        clear H; have H := H1; clear H1
        by_cases c15 : t276 = true
        ·subst c15
         have H1 : (if x4_1.length < 8796093022208 then (impl_ReadSail.l0 k1 (x4_1 ++ [(⟨t273, t275⟩ : S35)]) t265 (t265.length : Int) (wrap64 (x18_1 + 1))) else (none)) = some (r1, r2) := by rw [if_pos rfl] at H; exact H
         clear H; have H := H1; clear H1
         by_cases c16 : x4_1.length < 8796093022208
         ·rw [if_pos c16] at H
          have LMc16 := zQ c16; clear c16; obtain ⟨y277, hy277⟩ : ∃ y_ : List (S35), y_ = (x4_1 ++ [(⟨t273, t275⟩ : S35)]) := ⟨_, rfl⟩; replace H : (impl_ReadSail.l0 k1 y277 t265 (t265.length : Int) (wrap64 (x18_1 + 1))) = some (r1, r2) := zh H; have Ny277 := zQ hy277; clear hy277; have H' := zQ H; clear H; have p269 : 0 ≤ (x18_1 : Int) := of_decide_eq_true zA; have q269 : x18_1 < (t265.length : Int) := of_decide_eq_true zA; obtain ⟨ad269, e269, hx269_0⟩ := Kd.at_string (Kd.R_reads' HO_16.out).2.2 x18_1 p269 q269
          cases e269
          replace p269 := eq_true p269; replace q269 := eq_true q269
          go_wp2_with (first | ((with_reducible refine zgc 24 ?_); refine goesL_ (some 24) rfl rfl Tryd.func24 (by kernel_rfl) rfl #[.string (rdOf ByteArray.empty t265 x18_1), .string (⟨#[44]⟩ : ByteArray)] rfl zM ?_; (with_reducible refine (strings_Cut.calls k1 (rdOf ByteArray.empty t265 x18_1) (⟨#[44]⟩ : ByteArray) t270 t271 true _ (HM.out.at_ (zB HB.out)) A10.out).mono ?_); rintro e w17 ⟨rfl, hb⟩; refine ⟨_, rfl, ?_⟩; replace HO_4 := zQ (Kd.R_below (zR HO_4.out) hb); replace HO_16 := zQ (Kd.R_below (zR HO_16.out) hb); replace HB := zbs HB.out hb; (try clear hb)) | ((with_reducible refine zgc 25 ?_); refine goesL_ (some 30) rfl rfl Tryd.func25 (by kernel_rfl) rfl #[.string t270] rfl zM ?_; (with_reducible refine (impl_ReadDecimal.calls k1 t270 t273 true _ (HT.out.on_ (zB HB.out)) A11.out).mono ?_); rintro e w18 ⟨rfl, hb⟩; refine ⟨_, rfl, ?_⟩; replace HO_4 := zQ (Kd.R_below (zR HO_4.out) hb); replace HO_16 := zQ (Kd.R_below (zR HO_16.out) hb); replace HB := zbs HB.out hb; (try clear hb)) | ((with_reducible refine zgc 25 ?_); refine goesL_ (some 35) rfl rfl Tryd.func25 (by kernel_rfl) rfl #[.string t271] rfl zM ?_; (with_reducible refine (impl_ReadDecimal.calls k1 t271 t275 true _ (HT.out.on_ (zB HB.out)) A12.out).mono ?_); rintro e w19 ⟨rfl, hb⟩; refine ⟨_, rfl, ?_⟩; replace HO_4 := zQ (Kd.R_below (zR HO_4.out) hb); replace HO_16 := zQ (Kd.R_below (zR HO_16.out) hb); replace HB := zbs HB.out hb; (try clear hb)) | ((with_reducible refine gate_builtin (b := .append) (xs := #[.tmp 48, .tmp 52]) rfl ?_); at_builtin; refine Kd.R_append k35 (w0 := w) w.heap.size rfl (.tmp 48) (.tmp 52) 25 35 (.agg #[(.int .i64 0), (.int .i64 0)]) 16 rfl Tryd.underlying25 info35 rfl (by decide) (by omega) u4 x4_1 (⟨t273, t275⟩ : S35) [.int .i64 t273, .int .i64 t275] (fun _ => True) (fun _ => False) rfl rfl ?aP (fun _ hk => hk.elim) ?aF ?aO ?aB ?aS ?aL ?_; (case aP => exact k35_mkM _ _ _ (⟨t273, t275⟩ : S35)); (case aB => exact (zB HB.out)); (case aF => exact (fun _ _ => trivial)); (case aO => exact (zR HO_4.out)); (case aS => exact (below_size (zB HB.out))); (case aL => have := LMc16.out; omega); intro v278 w20 ho hb hg hat; rw [← Ny277.out] at ho; have HO279 := zQ (ho); replace HO_16 := zQ (Kd.R_over' (zR HO_16.out) (Kd.R_typed (zR HO_4.out)) (by decide) hg); replace HB := zQ (hb); clear HO_4 ho hb hg hat))
          go_roundg k1
          case measure => have := HK1.out; omega
          case rel => exact ⟨(y277), (wrap64 (x18_1 + 1)), (zF), H', ⟨by have := HK1.out; omega⟩, ⟨zR HO279.out⟩, ⟨zR HO_16.out⟩, ⟨zB HB.out⟩⟩
         ·rw [if_neg c16] at H
          exact absurd H (by simp)
        ·replace c15 := Bool.eq_false_iff.mpr c15
         subst c15
         have H1 : (some (([] : List (S35)), false)) = some (r1, r2) := by rw [if_neg (show ¬ (false = true) by decide)] at H; exact H
         clear H; have H := H1; clear H1
         simp only [Option.some.injEq, Prod.mk.injEq] at H
         obtain ⟨rfl, rfl⟩ := H; have p269 : 0 ≤ (x18_1 : Int) := of_decide_eq_true zA; have q269 : x18_1 < (t265.length : Int) := of_decide_eq_true zA; obtain ⟨ad269, e269, hx269_0⟩ := Kd.at_string (Kd.R_reads' HO_16.out).2.2 x18_1 p269 q269
         cases e269
         replace p269 := eq_true p269; replace q269 := eq_true q269
         go_wp2_with (first | ((with_reducible refine zgc 24 ?_); refine goesL_ (some 24) rfl rfl Tryd.func24 (by kernel_rfl) rfl #[.string (rdOf ByteArray.empty t265 x18_1), .string (⟨#[44]⟩ : ByteArray)] rfl zM ?_; (with_reducible refine (strings_Cut.calls k1 (rdOf ByteArray.empty t265 x18_1) (⟨#[44]⟩ : ByteArray) t270 t271 true _ (HM.out.at_ (zB HB.out)) A10.out).mono ?_); rintro e w21 ⟨rfl, hb⟩; refine ⟨_, rfl, ?_⟩; replace HO_4 := zQ (Kd.R_below (zR HO_4.out) hb); replace HO_16 := zQ (Kd.R_below (zR HO_16.out) hb); replace HB := zbs HB.out hb; (try clear hb)) | ((with_reducible refine zgc 25 ?_); refine goesL_ (some 30) rfl rfl Tryd.func25 (by kernel_rfl) rfl #[.string t270] rfl zM ?_; (with_reducible refine (impl_ReadDecimal.calls k1 t270 t273 true _ (HT.out.on_ (zB HB.out)) A11.out).mono ?_); rintro e w22 ⟨rfl, hb⟩; refine ⟨_, rfl, ?_⟩; replace HO_4 := zQ (Kd.R_below (zR HO_4.out) hb); replace HO_16 := zQ (Kd.R_below (zR HO_16.out) hb); replace HB := zbs HB.out hb; (try clear hb)) | ((with_reducible refine zgc 25 ?_); refine goesL_ (some 35) rfl rfl Tryd.func25 (by kernel_rfl) rfl #[.string t271] rfl zM ?_; (with_reducible refine (impl_ReadDecimal.calls k1 t271 t275 false _ (HT.out.on_ (zB HB.out)) A12.out).mono ?_); rintro e w23 ⟨rfl, hb⟩; refine ⟨_, rfl, ?_⟩; replace HO_4 := zQ (Kd.R_below (zR HO_4.out) hb); replace HO_16 := zQ (Kd.R_below (zR HO_16.out) hb); replace HB := zbs HB.out hb; (try clear hb)))
         go_ret2
         exact ⟨_, zE, by first | exact Kd.R_nil _ _ _ _ _ | exact Kd.N_nil _ _ _ _ _ | exact Kd.V_nil _ _ _ _ _ | exact Kd.Q_nil _ _ _ _ _ | exact Kd.S_nil _ _ _ _ _, zB HB.out⟩
       ·replace c14 := Bool.eq_false_iff.mpr c14
        subst c14
        have H1 : (some (([] : List (S35)), false)) = some (r1, r2) := by rw [if_neg (show ¬ (false = true) by decide)] at H; exact H
        clear H; have H := H1; clear H1
        simp only [Option.some.injEq, Prod.mk.injEq] at H
        obtain ⟨rfl, rfl⟩ := H; have p269 : 0 ≤ (x18_1 : Int) := of_decide_eq_true zA; have q269 : x18_1 < (t265.length : Int) := of_decide_eq_true zA; obtain ⟨ad269, e269, hx269_0⟩ := Kd.at_string (Kd.R_reads' HO_16.out).2.2 x18_1 p269 q269
        cases e269
        replace p269 := eq_true p269; replace q269 := eq_true q269
        go_wp2_with (first | ((with_reducible refine zgc 24 ?_); refine goesL_ (some 24) rfl rfl Tryd.func24 (by kernel_rfl) rfl #[.string (rdOf ByteArray.empty t265 x18_1), .string (⟨#[44]⟩ : ByteArray)] rfl zM ?_; (with_reducible refine (strings_Cut.calls k1 (rdOf ByteArray.empty t265 x18_1) (⟨#[44]⟩ : ByteArray) t270 t271 true _ (HM.out.at_ (zB HB.out)) A10.out).mono ?_); rintro e w24 ⟨rfl, hb⟩; refine ⟨_, rfl, ?_⟩; replace HO_4 := zQ (Kd.R_below (zR HO_4.out) hb); replace HO_16 := zQ (Kd.R_below (zR HO_16.out) hb); replace HB := zbs HB.out hb; (try clear hb)) | ((with_reducible refine zgc 25 ?_); refine goesL_ (some 30) rfl rfl Tryd.func25 (by kernel_rfl) rfl #[.string t270] rfl zM ?_; (with_reducible refine (impl_ReadDecimal.calls k1 t270 t273 false _ (HT.out.on_ (zB HB.out)) A11.out).mono ?_); rintro e w25 ⟨rfl, hb⟩; refine ⟨_, rfl, ?_⟩; replace HO_4 := zQ (Kd.R_below (zR HO_4.out) hb); replace HO_16 := zQ (Kd.R_below (zR HO_16.out) hb); replace HB := zbs HB.out hb; (try clear hb)) | ((with_reducible refine zgc 25 ?_); refine goesL_ (some 35) rfl rfl Tryd.func25 (by kernel_rfl) rfl #[.string t271] rfl zM ?_; (with_reducible refine (impl_ReadDecimal.calls k1 t271 t275 t276 _ (HT.out.on_ (zB HB.out)) A12.out).mono ?_); rintro e w26 ⟨rfl, hb⟩; refine ⟨_, rfl, ?_⟩; replace HO_4 := zQ (Kd.R_below (zR HO_4.out) hb); replace HO_16 := zQ (Kd.R_below (zR HO_16.out) hb); replace HB := zbs HB.out hb; (try clear hb)))
        go_ret2
        exact ⟨_, zE, by first | exact Kd.R_nil _ _ _ _ _ | exact Kd.N_nil _ _ _ _ _ | exact Kd.V_nil _ _ _ _ _ | exact Kd.Q_nil _ _ _ _ _ | exact Kd.S_nil _ _ _ _ _, zB HB.out⟩
      ·replace c13 := Bool.eq_false_iff.mpr c13
       subst c13
       have H1 : (some (([] : List (S35)), false)) = some (r1, r2) := by rw [if_neg (show ¬ (false = true) by decide)] at H; exact H
       clear H; have H := H1; clear H1
       simp only [Option.some.injEq, Prod.mk.injEq] at H
       obtain ⟨rfl, rfl⟩ := H; have p269 : 0 ≤ (x18_1 : Int) := of_decide_eq_true zA; have q269 : x18_1 < (t265.length : Int) := of_decide_eq_true zA; obtain ⟨ad269, e269, hx269_0⟩ := Kd.at_string (Kd.R_reads' HO_16.out).2.2 x18_1 p269 q269
       cases e269
       replace p269 := eq_true p269; replace q269 := eq_true q269
       go_wp2_with (first | ((with_reducible refine zgc 24 ?_); refine goesL_ (some 24) rfl rfl Tryd.func24 (by kernel_rfl) rfl #[.string (rdOf ByteArray.empty t265 x18_1), .string (⟨#[44]⟩ : ByteArray)] rfl zM ?_; (with_reducible refine (strings_Cut.calls k1 (rdOf ByteArray.empty t265 x18_1) (⟨#[44]⟩ : ByteArray) t270 t271 false _ (HM.out.at_ (zB HB.out)) A10.out).mono ?_); rintro e w27 ⟨rfl, hb⟩; refine ⟨_, rfl, ?_⟩; replace HO_4 := zQ (Kd.R_below (zR HO_4.out) hb); replace HO_16 := zQ (Kd.R_below (zR HO_16.out) hb); replace HB := zbs HB.out hb; (try clear hb)) | ((with_reducible refine zgc 25 ?_); refine goesL_ (some 30) rfl rfl Tryd.func25 (by kernel_rfl) rfl #[.string t270] rfl zM ?_; (with_reducible refine (impl_ReadDecimal.calls k1 t270 t273 t274 _ (HT.out.on_ (zB HB.out)) A11.out).mono ?_); rintro e w28 ⟨rfl, hb⟩; refine ⟨_, rfl, ?_⟩; replace HO_4 := zQ (Kd.R_below (zR HO_4.out) hb); replace HO_16 := zQ (Kd.R_below (zR HO_16.out) hb); replace HB := zbs HB.out hb; (try clear hb)) | ((with_reducible refine zgc 25 ?_); refine goesL_ (some 35) rfl rfl Tryd.func25 (by kernel_rfl) rfl #[.string t271] rfl zM ?_; (with_reducible refine (impl_ReadDecimal.calls k1 t271 t275 t276 _ (HT.out.on_ (zB HB.out)) A12.out).mono ?_); rintro e w29 ⟨rfl, hb⟩; refine ⟨_, rfl, ?_⟩; replace HO_4 := zQ (Kd.R_below (zR HO_4.out) hb); replace HO_16 := zQ (Kd.R_below (zR HO_16.out) hb); replace HB := zbs HB.out hb; (try clear hb)))
       go_ret2
       exact ⟨_, zE, by first | exact Kd.R_nil _ _ _ _ _ | exact Kd.N_nil _ _ _ _ _ | exact Kd.V_nil _ _ _ _ _ | exact Kd.Q_nil _ _ _ _ _ | exact Kd.S_nil _ _ _ _ _, zB HB.out⟩
     ·rw [if_neg c9] at H
      exact absurd H (by simp)
    ·rw [if_neg c8] at H
     exact absurd H (by simp)
   ·rw [if_neg c7] at H
    have c7b0 : decide (x18_1 < (t265.length : Int)) = false := decide_eq_false c7; clear c7; replace H := Option.bind_eq_some_iff.mp H; obtain ⟨t268, A300, H⟩ := H; replace H : (if t268 = true then (some (x4_1, true)) else (some (([] : List (S35)), false))) = some (r1, r2) := H; have A30 := zQ A300; clear A300
    by_cases c31 : t268 = true
    ·subst c31
     have H1 : (some (x4_1, true)) = some (r1, r2) := by rw [if_pos rfl] at H; exact H
     clear H; have H := H1; clear H1
     simp only [Option.some.injEq, Prod.mk.injEq] at H
     obtain ⟨rfl, rfl⟩ := H; obtain ⟨Ao32, co32, eo32⟩ := Kd.R_slice HO_4.out; subst eo32
     go_wp2_with (first | ((with_reducible refine zgc 17 ?_); refine goesL_ (some 56) rfl rfl Tryd.func17 (by kernel_rfl) rfl #[.slice Ao32 x4_1.length co32] rfl zM ?_; (with_reducible refine (impl_ValidSail.calls k1 _ _ x4_1 true _ ?side1 ((Kd.R_reads' HO_4.out).2.1) A30.out).mono ?_); (case side1 => repeat (first | exact (Kd.R_reads' HO_4.out).2.2 | (with_reducible refine Kd.C_alloc ?_ _) | (with_reducible refine Kd.C_drewN ?_ _) | (with_reducible refine Kd.C_drew ?_))); rintro e w33 ⟨rfl, hb⟩; refine ⟨_, rfl, ?_⟩; replace HO_4 := zQ (Kd.R_below (zR HO_4.out) hb); replace HO_16 := zQ (Kd.R_below (zR HO_16.out) hb); replace HB := zbs HB.out hb; (try clear hb)))
     go_ret2
     exact ⟨_, zE, zR HO_4.out, zB HB.out⟩
    ·replace c31 := Bool.eq_false_iff.mpr c31
     subst c31
     have H1 : (some (([] : List (S35)), false)) = some (r1, r2) := by rw [if_neg (show ¬ (false = true) by decide)] at H; exact H
     clear H; have H := H1; clear H1
     simp only [Option.some.injEq, Prod.mk.injEq] at H
     obtain ⟨rfl, rfl⟩ := H; obtain ⟨Ao34, co34, eo34⟩ := Kd.R_slice HO_4.out; subst eo34
     go_wp2_with (first | ((with_reducible refine zgc 17 ?_); refine goesL_ (some 56) rfl rfl Tryd.func17 (by kernel_rfl) rfl #[.slice Ao34 x4_1.length co34] rfl zM ?_; (with_reducible refine (impl_ValidSail.calls k1 _ _ x4_1 false _ ?side1 ((Kd.R_reads' HO_4.out).2.1) A30.out).mono ?_); (case side1 => repeat (first | exact (Kd.R_reads' HO_4.out).2.2 | (with_reducible refine Kd.C_alloc ?_ _) | (with_reducible refine Kd.C_drewN ?_ _) | (with_reducible refine Kd.C_drew ?_))); rintro e w35 ⟨rfl, hb⟩; refine ⟨_, rfl, ?_⟩; replace HO_4 := zQ (Kd.R_below (zR HO_4.out) hb); replace HO_16 := zQ (Kd.R_below (zR HO_16.out) hb); replace HB := zbs HB.out hb; (try clear hb)))
     go_ret2
     exact ⟨_, zE, by first | exact Kd.R_nil _ _ _ _ _ | exact Kd.N_nil _ _ _ _ _ | exact Kd.V_nil _ _ _ _ _ | exact Kd.Q_nil _ _ _ _ _ | exact Kd.S_nil _ _ _ _ _, zB HB.out⟩

/-! ### laws_markSpotS: function 12 -/
def laws_markSpotS.l0 : Nat → List (S35) → Int → Int → Option (Int × (List (S35)))
 | 0, _, _, _ => none
 | k + 1, x0, x1, x5 => if x5 < (x0.length : Int) then (if 0 ≤ x5 then ((some (x0.set (x5 : Int).toNat (⟨x1, (rd_T35 x0 x5).f1⟩ : S35) : List (S35))).bind fun y280 => (laws_markSpotS.l0 k (y280.set (x5 : Int).toNat (⟨(rd_T35 y280 x5).f0, wrap64 (x1 + 1)⟩ : S35)) (wrap64 ((wrap64 (x1 + 1)) + 1)) (wrap64 (x5 + 1)))) else (none)) else (some (x1, x0))
def laws_markSpotS.f (k : Nat) (l0 : List (S35)) (a1 : Int) : Option (Int × (List (S35))) := laws_markSpotS.l0 k l0 a1 0
theorem laws_markSpotS.mono_l : ∀ k, (∀ y0 y1 y2, LeO (laws_markSpotS.l0 k y0 y1 y2) (laws_markSpotS.l0 (k + 1) y0 y1 y2))
 | 0 => fun _ _ _ r h => by simp [laws_markSpotS.l0] at h
 | k + 1 => by
  have ih0 := laws_markSpotS.mono_l k
  ·intro y0 y1 y2
   unfold laws_markSpotS.l0
   (with_reducible repeat' first | apply ih0 | apply LeO.refl | apply LeO.none | refine LeO.ite ?_ ?_ | refine LeO.bind ?_ (fun _ => ?_))
   repeat' first | apply ih0 | apply LeO.none | refine LeO.ite ?_ ?_ | refine LeO.bind ?_ (fun _ => ?_)
theorem laws_markSpotS.mono : ∀ a0 a1 k, LeO (laws_markSpotS.f k a0 a1) (laws_markSpotS.f (k + 1) a0 a1) := by
 intro a0 a1 k
 have ih0 := laws_markSpotS.mono_l k
 unfold laws_markSpotS.f
 (with_reducible repeat' first | apply ih0 | apply LeO.refl | apply LeO.none | refine LeO.ite ?_ ?_ | refine LeO.bind ?_ (fun _ => ?_))
 repeat' first | apply ih0 | apply LeO.none | refine LeO.ite ?_ ?_ | refine LeO.bind ?_ (fun _ => ?_)
set_option maxHeartbeats 8000000 in
set_option maxRecDepth 100000 in
theorem laws_markSpotS.calls (k : Nat) (P0_ : Nat → Prop) (u9000_ : Value) (l0 : List (S35)) (a1 : Int) (r1 : Int) (r2 : List (S35)) (w0 w : World) (hB : Below w0.heap.size w0 w) (ho0 : Kd.R k35 35 w w0.heap.size P0_ u9000_ l0) (h : laws_markSpotS.f k l0 a1 = some (r1, r2)) :
  Calls Tryd.prog 12 #[u9000_, .int .i64 a1] w fun e w' => e = .returned (.int .i64 r1) ∧ Kd.R k35 35 w' w0.heap.size (fun k_ => (P0_ k_ ∨ w.heap.size ≤ k_)) u9000_ r2 ∧ Below w0.heap.size w0 w' ∧ Kept w w' (fun k_ => P0_ k_) := by
 have HO0 := zQ (show Kd.R k35 35 w w0.heap.size (fun k_ => (P0_ k_ ∨ w.heap.size ≤ k_)) u9000_ l0 from Kd.R_mono ho0 (fun k_ hk => (.inl hk)))
 have HK := zQ (Kept.refl w (fun k_ => P0_ k_))
 have HW0 := zQ hB.size
 have HB := zQ hB
 clear hB
 have H : (laws_markSpotS.l0 k l0 a1 0) = some (r1, r2) := h
 clear h
 have H' := zQ H
 clear H
 go_enter Tryd.func12, Tryd.ntmps12
 go_wp2
 go_loopg [1, 5] k (fun kq v1 v5 w' => ∃ (x0_1 : List (S35)) (x1_1 : Int) (x5_1 : Int), v1 = .int .i64 x1_1 ∧ v5 = .int .i64 x5_1 ∧ Aside0 (laws_markSpotS.l0 kq x0_1 x1_1 x5_1 = some (r1, r2)) ∧ Aside0 (kq ≤ k) ∧ Aside0 (Kd.R k35 35 w' w0.heap.size (fun k_ => (P0_ k_ ∨ w.heap.size ≤ k_)) u9000_ x0_1) ∧ Aside0 (Kept w w' (fun k_ => P0_ k_)) ∧ Aside0 (Below w0.heap.size w0 w'))
 case atStart => exact ⟨(l0), (a1), (0), (zF), (zF), H', ⟨Nat.le_refl _⟩, ⟨zR HO0.out⟩, ⟨by repeat (first | (with_reducible first | exact HK.out | apply Kept.alloc | apply Kept.drewN | apply Kept.drew) | exact HK.out)⟩, ⟨zB HB.out⟩⟩
 case round =>
  clear H'; (try clear c1); (try clear p2); obtain ⟨x0_1, x1_1, x5_1, rfl, rfl, HA, HK1, HO_0, HK, HB⟩ := hrel
  cases gk with
  | zero => exact absurd HA.out (by simp [laws_markSpotS.l0])
  | succ k1 =>
   have H := HA.out; clear HA
   simp only [laws_markSpotS.l0] at H
   by_cases c3 : x5_1 < (x0_1.length : Int)
   ·rw [if_pos c3] at H
    have c3b0 : decide (x5_1 < (x0_1.length : Int)) = true := decide_eq_true c3; clear c3
    by_cases c4 : 0 ≤ x5_1
    ·rw [if_pos c4] at H
     have c4b0 : decide (0 ≤ x5_1) = true := decide_eq_true c4; clear c4; obtain ⟨y280, hy280⟩ : ∃ y_ : List (S35), y_ = (x0_1.set (x5_1 : Int).toNat (⟨x1_1, (rd_T35 x0_1 x5_1).f1⟩ : S35)) := ⟨_, rfl⟩; replace H : (laws_markSpotS.l0 k1 (y280.set (x5_1 : Int).toNat (⟨(rd_T35 y280 x5_1).f0, wrap64 (x1_1 + 1)⟩ : S35)) (wrap64 ((wrap64 (x1_1 + 1)) + 1)) (wrap64 (x5_1 + 1))) = some (r1, r2) := zh H; have Ny280 := zQ hy280; clear hy280; obtain ⟨y281, hy281⟩ : ∃ y_ : List (S35), y_ = (y280.set (x5_1 : Int).toNat (⟨(rd_T35 y280 x5_1).f0, wrap64 (x1_1 + 1)⟩ : S35)) := ⟨_, rfl⟩; replace H : (laws_markSpotS.l0 k1 y281 (wrap64 ((wrap64 (x1_1 + 1)) + 1)) (wrap64 (x5_1 + 1))) = some (r1, r2) := zh H; have Ny281 := zQ hy281; clear hy281; have H' := zQ H; clear H; obtain ⟨Ao7, co7, eo7⟩ := Kd.R_slice HO_0.out; subst eo7; have p5 : 0 ≤ (x5_1 : Int) := of_decide_eq_true zA; have q5 : (x5_1 : Int) < ((x0_1.length : Int) : Int) := of_decide_eq_true zA; obtain ⟨go5, co5, eo5, gb5, gl5, cl5, HG5⟩ := Kd.R_form HO_0.out (by omega)
     (first | cases eo5 | (injection eo5 with ea_ en_ ec_; (first | subst ea_ | (injection ea_ with ea_; subst ea_)); subst ec_; clear en_))
     have GB5 := zQ gb5; have GG5 := zQ HG5; clear gb5 gl5 HG5; have HMgo5 := zQ (show (P0_ go5 ∨ w.heap.size ≤ go5) from (HO_0.out.1 _ rfl)); obtain ⟨ce5, hcl5, hM5, hcc5, hfr5⟩ := Kd.R_elem HO_0.out z35 (x5_1 : Int) p5 q5; obtain rfl := k35_openM hM5; have hx5_0 : wr.cell? ⟨go5, (x5_1 : Int).toNat * 2, none⟩ = some (.int .i64 ((rd_T35 x0_1 x5_1).f0)) := hcc5 0 _ rfl; have hx5_1 : wr.cell? ⟨go5, (x5_1 : Int).toNat * 2 + 1, none⟩ = some (.int .i64 ((rd_T35 x0_1 x5_1).f1)) := hcc5 1 _ rfl; have hf5_0 : wr.frozen? ⟨go5, (x5_1 : Int).toNat * 2, none⟩ = false := hfr5 0; have hf5_1 : wr.frozen? ⟨go5, (x5_1 : Int).toNat * 2 + 1, none⟩ = false := hfr5 1
     (try clear hM5); clear hcl5 hcc5 hfr5
     replace p5 := eq_true p5; replace q5 := eq_true q5; have HX8 := zQ (show Kd.R k35 35 wr w0.heap.size (fun k_ => (P0_ k_ ∨ w.heap.size ≤ k_)) (.slice (some ⟨go5, 0, none⟩) x0_1.length co7) x0_1 from (zR HO_0.out)); obtain ⟨ce8, hcl8, hM8, hcc8, hfr8⟩ := Kd.R_elem HX8.out z35 (x5_1 : Int) (of_decide_eq_true zA) (by have h_ : (x5_1 : Int) < ((x0_1.length : Int) : Int) := of_decide_eq_true zA; first | exact h_ | (have e_ := (Kd.R_reads' HO_0.out).1; omega) | simpa using h_); obtain rfl := k35_openM hM8; have HP8 := Kd.R_seg HX8.out (x5_1 : Int) (of_decide_eq_true zA) (by have h_ : (x5_1 : Int) < ((x0_1.length : Int) : Int) := of_decide_eq_true zA; first | exact h_ | (have e_ := (Kd.R_reads' HO_0.out).1; omega) | simpa using h_) (seg := [.int .i64 x1_1]) (j := 0) hcl8 hcc8 (show 1 ≤ 2 from by decide) (x' := (⟨x1_1, (rd_T35 x0_1 x5_1).f1⟩ : S35)) (k35_mkM _ _ _ (⟨x1_1, (rd_T35 x0_1 x5_1).f1⟩ : S35) ) (fun _ hk => hk); have hx8_0 := hcc8 0 _ rfl
     (try simp only [show (k35).sz = 2 from rfl, Nat.mul_one, Nat.add_zero] at hx8_0)
     have hf8_0 := hfr8 0
     (try simp only [show (k35).sz = 2 from rfl, Nat.mul_one, Nat.add_zero] at hf8_0)
     (try clear hM8); clear hcl8 hcc8 hfr8
     go_wp2_with (first | ((with_reducible refine gate_store (t := 2) (p := 16) rfl ?_); refine store_event (t := 2) (p := 16) (v := ?vo_w9) (w1 := (wr.setCell ⟨go5, (x5_1 : Int).toNat * 2, none⟩ (.int .i64 x1_1))) ?hg ?ho ?hn ?hr ?_; (case ho => rfl); (case hg => rfl); (case hn => rfl); (case hr => first | (go_simp; done) | (go_simp; rfl)); intro w9 hw; have hg : wr.grownBy w9 (some go5) := (by rw [hw]; exact HP8.2); have hp_ : Kd.R k35 35 w9 w0.heap.size (fun k_ => (P0_ k_ ∨ w.heap.size ≤ k_)) (.slice (some ⟨go5, 0, none⟩) x0_1.length co7) y280 := (by rw [hw, Ny280.out]; exact HP8.1); clear HP8; replace HB := zQ ((by rw [hw]; exact below_set (HB.out) GB5.out : Below w0.heap.size w0 w9)); replace HK := zQ (Kept.of_grown (S := (fun k_ => P0_ k_)) hg (by repeat (first | (with_reducible first | exact HK.out | apply Kept.alloc | apply Kept.drewN | apply Kept.drew) | exact HK.out)) (fun k_ e_ => (HO_0.out.1 k_ e_))); replace HO_0 := zQ (hp_); clear hg hw hp_; have p6 : 0 ≤ (x5_1 : Int) := of_decide_eq_true zA; have q6 : (x5_1 : Int) < ((x0_1.length : Int) : Int) := of_decide_eq_true zA; obtain ⟨ce6, hcl6, hM6, hcc6, hfr6⟩ := Kd.R_elem HO_0.out z35 (x5_1 : Int) p6 q6; obtain rfl := k35_openM hM6; have hx6_0 : w9.cell? ⟨go5, (x5_1 : Int).toNat * 2, none⟩ = some (.int .i64 ((rd_T35 y280 x5_1).f0)) := hcc6 0 _ rfl; have hx6_1 : w9.cell? ⟨go5, (x5_1 : Int).toNat * 2 + 1, none⟩ = some (.int .i64 ((rd_T35 y280 x5_1).f1)) := hcc6 1 _ rfl; have hf6_0 : w9.frozen? ⟨go5, (x5_1 : Int).toNat * 2, none⟩ = false := hfr6 0; have hf6_1 : w9.frozen? ⟨go5, (x5_1 : Int).toNat * 2 + 1, none⟩ = false := hfr6 1; (try clear hM6); clear hcl6 hcc6 hfr6; replace p6 := eq_true p6; replace q6 := eq_true q6; have HX10 := zQ (show Kd.R k35 35 w9 w0.heap.size (fun k_ => (P0_ k_ ∨ w.heap.size ≤ k_)) (.slice (some ⟨go5, 0, none⟩) x0_1.length co7) y280 from (zR HO_0.out)); obtain ⟨ce10, hcl10, hM10, hcc10, hfr10⟩ := Kd.R_elem HX10.out z35 (x5_1 : Int) (of_decide_eq_true zA) (by have h_ : (x5_1 : Int) < ((x0_1.length : Int) : Int) := of_decide_eq_true zA; first | exact h_ | (have e_ := (Kd.R_reads' HO_0.out).1; omega) | simpa using h_); obtain rfl := k35_openM hM10; have HP10 := Kd.R_seg HX10.out (x5_1 : Int) (of_decide_eq_true zA) (by have h_ : (x5_1 : Int) < ((x0_1.length : Int) : Int) := of_decide_eq_true zA; first | exact h_ | (have e_ := (Kd.R_reads' HO_0.out).1; omega) | simpa using h_) (seg := [.int .i64 (wrap64 (x1_1 + 1))]) (j := 1) hcl10 hcc10 (show 2 ≤ 2 from by decide) (x' := (⟨(rd_T35 y280 x5_1).f0, wrap64 (x1_1 + 1)⟩ : S35)) (k35_mkM _ _ _ (⟨(rd_T35 y280 x5_1).f0, wrap64 (x1_1 + 1)⟩ : S35) ) (fun _ hk => hk); have hx10_1 := hcc10 1 _ rfl; (try simp only [show (k35).sz = 2 from rfl, Nat.mul_one, Nat.add_zero] at hx10_1); have hf10_1 := hfr10 1; (try simp only [show (k35).sz = 2 from rfl, Nat.mul_one, Nat.add_zero] at hf10_1); (try clear hM10); clear hcl10 hcc10 hfr10) | ((with_reducible refine gate_store (t := 2) (p := 23) rfl ?_); refine store_event (t := 2) (p := 23) (v := ?vo_w11) (w1 := (w9.setCell ⟨go5, (x5_1 : Int).toNat * 2 + 1, none⟩ (.int .i64 (wrap64 (x1_1 + 1))))) ?hg ?ho ?hn ?hr ?_; (case ho => rfl); (case hg => rfl); (case hn => rfl); (case hr => first | (go_simp; done) | (go_simp; rfl)); intro w11 hw; have hg : w9.grownBy w11 (some go5) := (by rw [hw]; exact HP10.2); have hp_ : Kd.R k35 35 w11 w0.heap.size (fun k_ => (P0_ k_ ∨ w.heap.size ≤ k_)) (.slice (some ⟨go5, 0, none⟩) x0_1.length co7) y281 := (by rw [hw, Ny281.out]; exact HP10.1); clear HP10; replace HB := zQ ((by rw [hw]; exact below_set (HB.out) GB5.out : Below w0.heap.size w0 w11)); replace HK := zQ (Kept.of_grown (S := (fun k_ => P0_ k_)) hg (by repeat (first | (with_reducible first | exact HK.out | apply Kept.alloc | apply Kept.drewN | apply Kept.drew) | exact HK.out)) (fun k_ e_ => (HO_0.out.1 k_ e_))); replace HO_0 := zQ (hp_); clear hg hw hp_))
     go_roundg k1
     case measure => have := HK1.out; omega
     case rel => exact ⟨(y281), (wrap64 ((wrap64 (x1_1 + 1)) + 1)), (wrap64 (x5_1 + 1)), (zF), (zF), H', ⟨by have := HK1.out; omega⟩, ⟨zR HO_0.out⟩, ⟨by repeat (first | (with_reducible first | exact HK.out | apply Kept.alloc | apply Kept.drewN | apply Kept.drew) | exact HK.out)⟩, ⟨zB HB.out⟩⟩
    ·rw [if_neg c4] at H
     exact absurd H (by simp)
   ·rw [if_neg c3] at H
    have c3b0 : decide (x5_1 < (x0_1.length : Int)) = false := decide_eq_false c3; clear c3
    simp only [Option.some.injEq, Prod.mk.injEq] at H
    obtain ⟨rfl, rfl⟩ := H; obtain ⟨Ao12, co12, eo12⟩ := Kd.R_slice HO_0.out; subst eo12
    go_wp2
    go_ret
    exact ⟨zE, zR HO_0.out, zB HB.out, by repeat (first | (with_reducible first | exact HK.out | apply Kept.alloc | apply Kept.drewN | apply Kept.drew) | exact HK.out)⟩

end
end Go.Proofs.YtchngbjpjbahiaaDoor.PFnExactReadSail
