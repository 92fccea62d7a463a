import Derived.Lib.AppendIntMem
import Derived.Lib.ItoaLen
import Derived.Lib.Join
import Derived.Lib.SplitLaws
import Derived.Test.YtchngbjpjbahiaaGreatDoorShelf
import Derived.Test.YtchngbjpjbahiaaGreatDoorHSailz0
namespace Go.Proofs.YtchngbjpjbahiaaGreatDoor.PSailz
noncomputable section
open Go.RowKit Go.Proofs.YtchngbjpjbahiaaGreatDoorW.PrintWords Go.Proofs.YtchngbjpjbahiaaGreatDoorW.PrintLast Go.Proofs.YtchngbjpjbahiaaGreatDoorW.PrintMore
attribute [local go_sem] max2_int min2_int max_two min_two max_three min_three max_four min_four   -- for this text's walks alone
set_option linter.unusedVariables false
set_option linter.unusedSimpArgs false
set_option maxHeartbeats 8000000
set_option maxRecDepth 100000

def TabW (w : World) : Prop := Lib.TabBelow Tryz.prog w.heap.size w "internal/strconv.uint64pow10" .u64 Lib.pow10Tab
theorem TabW.at_ {w w' : World} (h : TabW w) (hb : Below w.heap.size w w') : Lib.TabIs Tryz.prog w' "internal/strconv.uint64pow10" .u64 Lib.pow10Tab := h w' hb
theorem TabW.on_ {w w' : World} (h : TabW w) (hb : Below w.heap.size w w') : TabW w' := Lib.tabBelow_of_tabIs (h w' hb)
def impl_Decimal.f (k : Nat) (a0 : Int) : Option ByteArray := if -9223372036854775808 ≤ a0 ∧ a0 ≤ 9223372036854775807 then some ⟨(Lib.itoa a0).toArray⟩ else none
theorem impl_Decimal.calls (k : Nat) (a0 : Int) (r : ByteArray) (w : World) (hT : Lib.TabIs Tryz.prog w "internal/strconv.uint64pow10" .u64 Lib.pow10Tab) (h : impl_Decimal.f k a0 = some r) :
  Calls Tryz.prog 38 #[.int .i64 a0] w fun e w' => e = .returned (.string r) ∧ Below w.heap.size w w' := by
 unfold impl_Decimal.f at h
 by_cases hg : -9223372036854775808 ≤ a0 ∧ a0 ≤ 9223372036854775807
 ·rw [if_pos hg] at h
  obtain rfl := Option.some.inj h; have HT := zQ hT; have HG := zQ hg; clear h hT hg
  go_enter Tryz.func38, Tryz.ntmps38
  go_wp2_with (first
   | (go_at_call 57; refine (Tryz.strconv_FormatInt_10 a0 HG.out.1 HG.out.2 _ HT.out).mono ?_; rintro e w1 ⟨rfl, kk, os, hw1⟩; have HB := zQ (show Below w.heap.size w w1 from by rw [hw1]; exact Lib.below_grow _ _ (Nat.le_refl _) _ _); clear hw1))
  go_ret
  exact ⟨by first | rfl | (simp; done), HB.out⟩
 ·rw [if_neg hg] at h
  cases h

def strings_Join.f (k : Nat) (l0 : List ByteArray) (a1 : ByteArray) : Option ByteArray := if l0.length ≤ 140737488355328 ∧ (Lib.join (l0.map (·.data.toList)) a1.data.toList).length ≤ 140737488355328 then some ⟨(Lib.join (l0.map (·.data.toList)) a1.data.toList).toArray⟩ else none
theorem strings_Join.calls (k : Nat) (A0 : Option Addr) (c0 : Nat) (l0 : List ByteArray) (a1 : ByteArray) (r : ByteArray) (w : World) (hr0 : ∃ base ok, Kd.R Kd.string 9 w base ok (.slice A0 l0.length c0) l0) (hc0 : l0.length ≤ c0) (h : strings_Join.f k l0 a1 = some r) :
  Calls Tryz.prog 39 #[.slice A0 l0.length c0, .string a1] w fun e w' => e = .returned (.string r) ∧ Below w.heap.size w w' := by
 unfold strings_Join.f at h
 by_cases hg : l0.length ≤ 140737488355328 ∧ (Lib.join (l0.map (·.data.toList)) a1.data.toList).length ≤ 140737488355328
 ·rw [if_pos hg] at h
  obtain rfl := Option.some.inj h; obtain ⟨base, ok, hR⟩ := hr0
  cases l0 with
  | nil => exact (Tryz.strings_Join_none A0 c0 a1 w).mono fun e w' ⟨he, hw⟩ => ⟨he, hw ▸ Below.refl _ _⟩
  | cons x l =>
   obtain ⟨g, rfl⟩ : ∃ g, A0 = some ⟨g, 0, none⟩ := by
    obtain ⟨h0, inner, ho, hr⟩ := hR
    rcases ho.2 with ⟨hv, h2⟩ | ⟨g, cap', cur, hv, _⟩
    ·injection hv with _ hn _; cases hn
    ·injection hv with ha _ _; exact ⟨g, ha⟩
   refine Tryz.strings_Join g 0 c0 (x :: l) a1 w (fun j y hj => ?_) (Kd.R_lt hR g rfl) hg.1 hc0 hg.2
   have hj2 : j < (x :: l).length := by
    rcases Nat.lt_or_ge j (x :: l).length with q | q
    ·exact q
    ·rw [List.getElem?_eq_none q] at hj; cases hj
   have := (Kd.R_celln (ByteArray.empty) hR (j : Int) (by omega) (by omega)).1; rw [Int.toNat_natCast] at this; rw [Nat.zero_add, this]
   unfold rdOf
   rw [Int.toNat_natCast, List.getD_eq_getElem?_getD, hj]
   rfl
 ·rw [if_neg hg] at h
  cases h

def LenW (w : World) : Prop := ∃ m, w.cell? ⟨0, 0, none⟩ = some (.int .i64 m)
theorem LenW.at_ {w w' : World} (h : LenW w) (hb : Below w.heap.size w w') : LenW w' := by
 obtain ⟨m, hm⟩ := h
 exact ⟨m, (hb.cell (World.block_lt_of_cell? w _ hm)).trans hm⟩
def strings_Split.f (k : Nat) (a0 a1 : ByteArray) : Option (List ByteArray) := if a0.size < 4294967281 ∧ 1 ≤ a1.size then some (Lib.splitB a1 0 (Lib.countB a0 a1) a0) else none
theorem strings_Split.calls (k : Nat) (a0 a1 : ByteArray) (r : List ByteArray) (w : World) (hM : LenW w) (h : strings_Split.f k a0 a1 = some r) :
  Calls Tryz.prog 40 #[.string a0, .string a1] w fun e w' => ∃ v0_ : Value, e = .returned v0_ ∧ Kd.R Kd.string 9 w' w.heap.size (fun _ => True) v0_ r ∧ Below w.heap.size w w' := by
 unfold strings_Split.f at h
 by_cases hg : a0.size < 4294967281 ∧ 1 ≤ a1.size
 ·rw [if_pos hg] at h
  obtain rfl := Option.some.inj h; obtain ⟨m, hm⟩ := hM; have hlen := Lib.splitB_all a1 hg.2 0 _ a0 rfl; have hle := Lib.countB_le a1 hg.2 a0.size a0 (Nat.le_refl _); obtain ⟨q, hq⟩ : ∃ q, Lib.splitB a1 0 (Lib.countB a0 a1) a0 = q := ⟨_, rfl⟩; rw [hq] at hlen; have c := Tryz.strings_Split a0 a1 m w hg.1 hm hg.2; rw [hq, ← hlen] at c; rw [hq]
  refine c.mono fun e w' ⟨he, hw⟩ => ⟨_, he, ?_, ?_⟩
  ·subst hw
   refine Kd.R_of_own (enc := Value.string) (h1 := fun _ => rfl) (xs := q) ?_ (fun _ _ => trivial)
   have hcell : (w.alloc (.cells (q.map Value.string).toArray 9)).heap[w.heap.size]? = some (.cells (q.map Value.string).toArray 9 (0, 0)) := by
    show (w.heap.push _)[w.heap.size]? = _
    exact Array.getElem?_push_size
   refine ⟨by simp [encs], .inr ⟨w.heap.size, _, _, rfl, Nat.le_refl _, hcell, Nat.le_refl _, ?_, ?_, ?_⟩⟩
   ·have := hg.1
    unfold maxLen
    omega
   ·simp
   ·simp [encs]
    exact List.take_of_length_le (by simp)
  ·rw [hw]
   exact below_alloc (Below.refl _ _) _
 ·rw [if_neg hg] at h
  cases h

def strings_Cut.f (k : Nat) (a0 a1 : ByteArray) : Option (ByteArray × ByteArray × Bool) := if a0.size < 4294967281 then some (⟨(Lib.cut a0.data.toList a1.data.toList).1.toArray⟩, ⟨(Lib.cut a0.data.toList a1.data.toList).2.1.toArray⟩, (Lib.cut a0.data.toList a1.data.toList).2.2) else none
theorem strings_Cut.calls (k : Nat) (a0 a1 r1 r2 : ByteArray) (r3 : Bool) (w : World) (hM : LenW w) (h : strings_Cut.f k a0 a1 = some (r1, r2, r3)) :
  Calls Tryz.prog 41 #[.string a0, .string a1] w fun e w' => e = .returned (.tuple #[.string r1, .string r2, .bool r3]) ∧ Below w.heap.size w w' := by
 unfold strings_Cut.f at h
 by_cases hg : a0.size < 4294967281
 ·rw [if_pos hg] at h
  have h := Option.some.inj h
  simp only [Prod.mk.injEq] at h
  obtain ⟨rfl, rfl, rfl⟩ := h; obtain ⟨m, hm⟩ := hM
  refine (Tryz.strings_Cut a0 a1 m w hg hm).mono fun e w' ⟨he, n, hw⟩ => ⟨he, ?_⟩
  rw [hw]
  exact pw_below_drewN (Below.refl _ _) n
 ·rw [if_neg hg] at h
  cases h

end
end Go.Proofs.YtchngbjpjbahiaaGreatDoor.PSailz

