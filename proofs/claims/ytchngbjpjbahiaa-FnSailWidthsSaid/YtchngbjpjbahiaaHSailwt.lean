import Derived.Test.YtchngbjpjbahiaaHSailw0
import Derived.Test.YtchngbjpjbahiaaHSailwa
import Derived.Test.YtchngbjpjbahiaaHSailwd
import Derived.Test.YtchngbjpjbahiaaHSailwe
import Derived.Test.YtchngbjpjbahiaaHSailwh
import Derived.Test.YtchngbjpjbahiaaHSailwk
import Derived.Test.YtchngbjpjbahiaaHSailwl
namespace Go.Proofs.Ytchngbjpjbahiaa.PSailw
noncomputable section
open Go.RowKit Go.Proofs.YtchngbjpjbahiaaW.PrintWords Go.Proofs.YtchngbjpjbahiaaW.PrintLast Go.Proofs.YtchngbjpjbahiaaW.PrintMore
attribute [local go_sem] max2_int min2_int max_two min_two max_three min_three max_four min_four   -- for this text's walks alone
set_option linter.unusedVariables false
set_option linter.unusedSimpArgs false
set_option maxHeartbeats 8000000
set_option maxRecDepth 100000

def impl_HeightOfSail.f (k : Nat) (l0 : List (S49)) : Option (Int × Int × Int) := (impl_ValidSail.f k l0).bind fun AB => (if AB = true then ((impl_heightsOf.f k l0).bind fun kB => (some (kB.1, kB.2, 0))) else (some (0, 0, 1)))
theorem impl_HeightOfSail.calls (k : Nat) (A0 : Option Addr) (c0 : Nat) (l0 : List (S49)) (r1 : Int) (r2 : Int) (r3 : Int) (w : World) (rA : Kd.C k49 w A0 l0.length l0) (sA : l0.length ≤ c0) (h : impl_HeightOfSail.f k l0 = some (r1, r2, r3)) :
  Calls Try.prog 13 #[.slice A0 l0.length c0] w fun e w' => e = .returned (.tuple #[.int .i64 r1, .int .i64 r2, .int .i64 r3]) ∧ Below w.heap.size w w' := by
 have mA := zQ rA
 have nA := zQ sA
 clear rA sA
 have HB := zQ (Below.refl w.heap.size w)
 have H := h; unfold impl_HeightOfSail.f at H
 clear h
 replace H := zob H; obtain ⟨AB, A2, H⟩ := H
 by_cases c3 : AB = true
 ·subst c3
  rw [if_pos rfl] at H; replace H := zob H; obtain ⟨⟨DC, CC⟩, A4, H⟩ := H
  simp only [Option.some.injEq, Prod.mk.injEq] at H
  obtain ⟨rfl, rfl, rfl⟩ := H
  go_enter Try.func13, Try.ntmps13
  go_wp2_with (first | ((with_reducible refine zgc 31 ?_); refine zgo (some 8) Try.func31 #[.slice A0 l0.length c0] ?_; (with_reducible refine (impl_ValidSail.calls k _ _ l0 true _ ?side1 nA.out A2.out).mono ?_); (case side1 => repeat (first | exact mA.out | (with_reducible refine Kd.C_alloc ?_ _) | (with_reducible refine Kd.C_drewN ?_ _) | (with_reducible refine Kd.C_drew ?_))); rintro e w5 ⟨rfl, hb⟩; refine ⟨_, rfl, ?_⟩; replace HB := zbs HB.out hb; (try clear hb)) | ((with_reducible refine zgc 32 ?_); refine zgo (some 12) Try.func32 #[.slice A0 l0.length c0] ?_; (with_reducible refine (impl_heightsOf.calls k _ _ l0 DC CC _ (zC mA.out HB.out) nA.out A4.out).mono ?_); rintro e w6 ⟨rfl, hb⟩; refine ⟨_, rfl, ?_⟩; replace HB := zbs HB.out hb; (try clear hb)))
  go_ret3
  exact ⟨zE, zB HB.out⟩
 ·replace c3 := Bool.eq_false_iff.mpr c3
  subst c3
  rw [if_neg Bool.false_ne_true] at H
  simp only [Option.some.injEq, Prod.mk.injEq] at H
  obtain ⟨rfl, rfl, rfl⟩ := H
  go_enter Try.func13, Try.ntmps13
  go_wp2_with (first | ((with_reducible refine zgc 31 ?_); refine zgo (some 8) Try.func31 #[.slice A0 l0.length c0] ?_; (with_reducible refine (impl_ValidSail.calls k _ _ l0 false _ ?side1 nA.out A2.out).mono ?_); (case side1 => repeat (first | exact mA.out | (with_reducible refine Kd.C_alloc ?_ _) | (with_reducible refine Kd.C_drewN ?_ _) | (with_reducible refine Kd.C_drew ?_))); rintro e w7 ⟨rfl, hb⟩; refine ⟨_, rfl, ?_⟩; replace HB := zbs HB.out hb; (try clear hb)))
  go_ret3
  exact ⟨zE, zB HB.out⟩

def spec_HeightOfSail.f (k : Nat) (l0 : List (S49)) : Option (Int × Int × Int) := (spec_l13Ok.f k l0).bind fun yB => (if yB = true then ((spec_l13Limits.f k l0).bind fun jB => (some (jB.1, jB.2, 0))) else (some (0, 0, 1)))
theorem spec_HeightOfSail.calls (k : Nat) (A0 : Option Addr) (c0 : Nat) (l0 : List (S49)) (r1 : Int) (r2 : Int) (r3 : Int) (w : World) (rA : Kd.C k49 w A0 l0.length l0) (sA : l0.length ≤ c0) (h : spec_HeightOfSail.f k l0 = some (r1, r2, r3)) :
  Calls Try.prog 14 #[.slice A0 l0.length c0] w fun e w' => e = .returned (.tuple #[.int .i64 r1, .int .i64 r2, .int .i64 r3]) ∧ Below w.heap.size w w' := by
 have mA := zQ rA
 have nA := zQ sA
 clear rA sA
 have HB := zQ (Below.refl w.heap.size w)
 have H := h; unfold spec_HeightOfSail.f at H
 clear h
 replace H := zob H; obtain ⟨yB, A2, H⟩ := H
 by_cases c3 : yB = true
 ·subst c3
  rw [if_pos rfl] at H; replace H := zob H; obtain ⟨⟨BC, AC⟩, A4, H⟩ := H
  simp only [Option.some.injEq, Prod.mk.injEq] at H
  obtain ⟨rfl, rfl, rfl⟩ := H
  go_enter Try.func14, Try.ntmps14
  go_wp2_with (first | ((with_reducible refine zgc 25 ?_); refine zgo (some 8) Try.func25 #[.slice A0 l0.length c0] ?_; (with_reducible refine (spec_l13Ok.calls k _ _ l0 true _ ?side1 nA.out A2.out).mono ?_); (case side1 => repeat (first | exact mA.out | (with_reducible refine Kd.C_alloc ?_ _) | (with_reducible refine Kd.C_drewN ?_ _) | (with_reducible refine Kd.C_drew ?_))); rintro e w5 ⟨rfl, hb⟩; refine ⟨_, rfl, ?_⟩; replace HB := zbs HB.out hb; (try clear hb)) | ((with_reducible refine zgc 26 ?_); refine zgo (some 12) Try.func26 #[.slice A0 l0.length c0] ?_; (with_reducible refine (spec_l13Limits.calls k _ _ l0 BC AC _ (zC mA.out HB.out) nA.out A4.out).mono ?_); rintro e w' ⟨rfl, ⟨nd, rfl⟩⟩; refine ⟨_, rfl, ?_⟩))
  go_ret3
  exact ⟨zE, zB HB.out⟩
 ·replace c3 := Bool.eq_false_iff.mpr c3
  subst c3
  rw [if_neg Bool.false_ne_true] at H
  simp only [Option.some.injEq, Prod.mk.injEq] at H
  obtain ⟨rfl, rfl, rfl⟩ := H
  go_enter Try.func14, Try.ntmps14
  go_wp2_with (first | ((with_reducible refine zgc 25 ?_); refine zgo (some 8) Try.func25 #[.slice A0 l0.length c0] ?_; (with_reducible refine (spec_l13Ok.calls k _ _ l0 false _ ?side1 nA.out A2.out).mono ?_); (case side1 => repeat (first | exact mA.out | (with_reducible refine Kd.C_alloc ?_ _) | (with_reducible refine Kd.C_drewN ?_ _) | (with_reducible refine Kd.C_drew ?_))); rintro e w6 ⟨rfl, hb⟩; refine ⟨_, rfl, ?_⟩; replace HB := zbs HB.out hb; (try clear hb)))
  go_ret3
  exact ⟨zE, zB HB.out⟩

def impl_IsBulged.f (k : Nat) (l0 : List (S49)) : Option (Bool × Int) := (impl_ValidSail.f k l0).bind fun xB => (if xB = true then ((impl_isBulged.f k l0).bind fun wB => (some (wB, 0))) else (some (false, 1)))
theorem impl_IsBulged.calls (k : Nat) (A0 : Option Addr) (c0 : Nat) (l0 : List (S49)) (r1 : Bool) (r2 : Int) (w : World) (rA : Kd.C k49 w A0 l0.length l0) (sA : l0.length ≤ c0) (h : impl_IsBulged.f k l0 = some (r1, r2)) :
  Calls Try.prog 15 #[.slice A0 l0.length c0] w fun e w' => e = .returned (.tuple #[.bool r1, .int .i64 r2]) ∧ Below w.heap.size w w' := by
 have mA := zQ rA
 have nA := zQ sA
 clear rA sA
 have HB := zQ (Below.refl w.heap.size w)
 have H := h; unfold impl_IsBulged.f at H
 clear h
 replace H := zob H; obtain ⟨xB, A2, H⟩ := H
 by_cases c3 : xB = true
 ·subst c3
  rw [if_pos rfl] at H; replace H := zob H; obtain ⟨wB, A4, H⟩ := H
  simp only [Option.some.injEq, Prod.mk.injEq] at H
  obtain ⟨rfl, rfl⟩ := H
  go_enter Try.func15, Try.ntmps15
  go_wp2_with (first | ((with_reducible refine zgc 31 ?_); refine zgo (some 5) Try.func31 #[.slice A0 l0.length c0] ?_; (with_reducible refine (impl_ValidSail.calls k _ _ l0 true _ ?side1 nA.out A2.out).mono ?_); (case side1 => repeat (first | exact mA.out | (with_reducible refine Kd.C_alloc ?_ _) | (with_reducible refine Kd.C_drewN ?_ _) | (with_reducible refine Kd.C_drew ?_))); rintro e w5 ⟨rfl, hb⟩; refine ⟨_, rfl, ?_⟩; replace HB := zbs HB.out hb; (try clear hb)) | ((with_reducible refine zgc 34 ?_); refine zgo (some 8) Try.func34 #[.slice A0 l0.length c0] ?_; (with_reducible refine (impl_isBulged.calls k _ _ l0 wB _ (zC mA.out HB.out) nA.out A4.out).mono ?_); rintro e w6 ⟨rfl, hb⟩; refine ⟨_, rfl, ?_⟩; replace HB := zbs HB.out hb; (try clear hb)))
  go_ret2
  exact ⟨zE, zB HB.out⟩
 ·replace c3 := Bool.eq_false_iff.mpr c3
  subst c3
  rw [if_neg Bool.false_ne_true] at H
  simp only [Option.some.injEq, Prod.mk.injEq] at H
  obtain ⟨rfl, rfl⟩ := H
  go_enter Try.func15, Try.ntmps15
  go_wp2_with (first | ((with_reducible refine zgc 31 ?_); refine zgo (some 5) Try.func31 #[.slice A0 l0.length c0] ?_; (with_reducible refine (impl_ValidSail.calls k _ _ l0 false _ ?side1 nA.out A2.out).mono ?_); (case side1 => repeat (first | exact mA.out | (with_reducible refine Kd.C_alloc ?_ _) | (with_reducible refine Kd.C_drewN ?_ _) | (with_reducible refine Kd.C_drew ?_))); rintro e w7 ⟨rfl, hb⟩; refine ⟨_, rfl, ?_⟩; replace HB := zbs HB.out hb; (try clear hb)))
  go_ret2
  exact ⟨zE, zB HB.out⟩

def spec_IsBulged.f (k : Nat) (l0 : List (S49)) : Option (Bool × Int) := (spec_l13Ok.f k l0).bind fun vB => (if vB = true then ((spec_l13Bulged.f k l0).bind fun uB => (some (uB, 0))) else (some (false, 1)))
theorem spec_IsBulged.calls (k : Nat) (A0 : Option Addr) (c0 : Nat) (l0 : List (S49)) (r1 : Bool) (r2 : Int) (w : World) (rA : Kd.C k49 w A0 l0.length l0) (sA : l0.length ≤ c0) (h : spec_IsBulged.f k l0 = some (r1, r2)) :
  Calls Try.prog 16 #[.slice A0 l0.length c0] w fun e w' => e = .returned (.tuple #[.bool r1, .int .i64 r2]) ∧ Below w.heap.size w w' := by
 have mA := zQ rA
 have nA := zQ sA
 clear rA sA
 have HB := zQ (Below.refl w.heap.size w)
 have H := h; unfold spec_IsBulged.f at H
 clear h
 replace H := zob H; obtain ⟨vB, A2, H⟩ := H
 by_cases c3 : vB = true
 ·subst c3
  rw [if_pos rfl] at H; replace H := zob H; obtain ⟨uB, A4, H⟩ := H
  simp only [Option.some.injEq, Prod.mk.injEq] at H
  obtain ⟨rfl, rfl⟩ := H
  go_enter Try.func16, Try.ntmps16
  go_wp2_with (first | ((with_reducible refine zgc 25 ?_); refine zgo (some 5) Try.func25 #[.slice A0 l0.length c0] ?_; (with_reducible refine (spec_l13Ok.calls k _ _ l0 true _ ?side1 nA.out A2.out).mono ?_); (case side1 => repeat (first | exact mA.out | (with_reducible refine Kd.C_alloc ?_ _) | (with_reducible refine Kd.C_drewN ?_ _) | (with_reducible refine Kd.C_drew ?_))); rintro e w5 ⟨rfl, hb⟩; refine ⟨_, rfl, ?_⟩; replace HB := zbs HB.out hb; (try clear hb)) | ((with_reducible refine zgc 28 ?_); refine zgo (some 8) Try.func28 #[.slice A0 l0.length c0] ?_; (with_reducible refine (spec_l13Bulged.calls k _ _ l0 uB _ (zC mA.out HB.out) nA.out A4.out).mono ?_); rintro e w6 ⟨rfl, hb⟩; refine ⟨_, rfl, ?_⟩; replace HB := zbs HB.out hb; (try clear hb)))
  go_ret2
  exact ⟨zE, zB HB.out⟩
 ·replace c3 := Bool.eq_false_iff.mpr c3
  subst c3
  rw [if_neg Bool.false_ne_true] at H
  simp only [Option.some.injEq, Prod.mk.injEq] at H
  obtain ⟨rfl, rfl⟩ := H
  go_enter Try.func16, Try.ntmps16
  go_wp2_with (first | ((with_reducible refine zgc 25 ?_); refine zgo (some 5) Try.func25 #[.slice A0 l0.length c0] ?_; (with_reducible refine (spec_l13Ok.calls k _ _ l0 false _ ?side1 nA.out A2.out).mono ?_); (case side1 => repeat (first | exact mA.out | (with_reducible refine Kd.C_alloc ?_ _) | (with_reducible refine Kd.C_drewN ?_ _) | (with_reducible refine Kd.C_drew ?_))); rintro e w7 ⟨rfl, hb⟩; refine ⟨_, rfl, ?_⟩; replace HB := zbs HB.out hb; (try clear hb)))
  go_ret2
  exact ⟨zE, zB HB.out⟩

def impl_edgeCode.f (k : Nat) (l0 : List (S49)) (a1 : Int) : Option (Int) := (impl_ValidSail.f k l0).bind fun tB => (if tB = true then ((impl_within.f a1 0 (wrap64 ((l0.length : Int) - 1))).bind fun sB => (if sB = true then (some 0) else (some 2))) else (some 1))
theorem impl_edgeCode.calls (k : Nat) (A0 : Option Addr) (c0 : Nat) (l0 : List (S49)) (a1 : Int) (r : Int) (w : World) (rA : Kd.C k49 w A0 l0.length l0) (sA : l0.length ≤ c0) (h : impl_edgeCode.f k l0 a1 = some r) :
  Calls Try.prog 45 #[.slice A0 l0.length c0, .int .i64 a1] w fun e w' => e = .returned (.int .i64 r) ∧ Below w.heap.size w w' := by
 have mA := zQ rA
 have nA := zQ sA
 clear rA sA
 have HB := zQ (Below.refl w.heap.size w)
 have H := h; unfold impl_edgeCode.f at H
 clear h
 replace H := zob H; obtain ⟨tB, A3, H⟩ := H
 by_cases c4 : tB = true
 ·subst c4
  rw [if_pos rfl] at H; replace H := zob H; obtain ⟨sB, A5, H⟩ := H
  by_cases c6 : sB = true
  ·subst c6
   rw [if_pos rfl] at H; obtain rfl := Option.some.inj H
   go_enter Try.func45, Try.ntmps45
   go_wp2_with (first | ((with_reducible refine zgc 31 ?_); refine zgo (some 6) Try.func31 #[.slice A0 l0.length c0] ?_; (with_reducible refine (impl_ValidSail.calls k _ _ l0 true _ ?side1 nA.out A3.out).mono ?_); (case side1 => repeat (first | exact mA.out | (with_reducible refine Kd.C_alloc ?_ _) | (with_reducible refine Kd.C_drewN ?_ _) | (with_reducible refine Kd.C_drew ?_))); rintro e w7 ⟨rfl, hb⟩; refine ⟨_, rfl, ?_⟩; replace HB := zbs HB.out hb; (try clear hb)) | ((with_reducible refine zgc 33 ?_); refine zgo (some 12) Try.func33 #[.int .i64 a1, .int .i64 0, .int .i64 (wrap64 ((l0.length : Int) - 1))] ?_; (with_reducible refine (impl_within.calls a1 0 (wrap64 ((l0.length : Int) - 1)) true _ A5.out).mono ?_); rintro e w' ⟨rfl, ⟨nd, rfl⟩⟩; refine ⟨_, rfl, ?_⟩))
   go_ret
   exact ⟨zE, zB HB.out⟩
  ·replace c6 := Bool.eq_false_iff.mpr c6
   subst c6
   rw [if_neg Bool.false_ne_true] at H; obtain rfl := Option.some.inj H
   go_enter Try.func45, Try.ntmps45
   go_wp2_with (first | ((with_reducible refine zgc 31 ?_); refine zgo (some 6) Try.func31 #[.slice A0 l0.length c0] ?_; (with_reducible refine (impl_ValidSail.calls k _ _ l0 true _ ?side1 nA.out A3.out).mono ?_); (case side1 => repeat (first | exact mA.out | (with_reducible refine Kd.C_alloc ?_ _) | (with_reducible refine Kd.C_drewN ?_ _) | (with_reducible refine Kd.C_drew ?_))); rintro e w8 ⟨rfl, hb⟩; refine ⟨_, rfl, ?_⟩; replace HB := zbs HB.out hb; (try clear hb)) | ((with_reducible refine zgc 33 ?_); refine zgo (some 12) Try.func33 #[.int .i64 a1, .int .i64 0, .int .i64 (wrap64 ((l0.length : Int) - 1))] ?_; (with_reducible refine (impl_within.calls a1 0 (wrap64 ((l0.length : Int) - 1)) false _ A5.out).mono ?_); rintro e w' ⟨rfl, ⟨nd, rfl⟩⟩; refine ⟨_, rfl, ?_⟩))
   go_ret
   exact ⟨zE, zB HB.out⟩
 ·replace c4 := Bool.eq_false_iff.mpr c4
  subst c4
  rw [if_neg Bool.false_ne_true] at H; obtain rfl := Option.some.inj H
  go_enter Try.func45, Try.ntmps45
  go_wp2_with (first | ((with_reducible refine zgc 31 ?_); refine zgo (some 6) Try.func31 #[.slice A0 l0.length c0] ?_; (with_reducible refine (impl_ValidSail.calls k _ _ l0 false _ ?side1 nA.out A3.out).mono ?_); (case side1 => repeat (first | exact mA.out | (with_reducible refine Kd.C_alloc ?_ _) | (with_reducible refine Kd.C_drewN ?_ _) | (with_reducible refine Kd.C_drew ?_))); rintro e w9 ⟨rfl, hb⟩; refine ⟨_, rfl, ?_⟩; replace HB := zbs HB.out hb; (try clear hb)))
  go_ret
  exact ⟨zE, zB HB.out⟩

def impl_squareOfEdge.f (l0 : List (S49)) (a1 : Int) : Option (Int) := if 0 ≤ a1 then (if a1 < (l0.length : Int) then (if (l0.length : Int) = 0 then (none) else (if 0 ≤ (Int.tmod (wrap64 (a1 + 1)) (l0.length : Int)) then (if (Int.tmod (wrap64 (a1 + 1)) (l0.length : Int)) < (l0.length : Int) then (some (wrap64 ((wrap64 ((wrap64 (((rd_T49 l0 (Int.tmod (wrap64 (a1 + 1)) (l0.length : Int))).f0) - ((rd_T49 l0 a1).f0))) * (wrap64 (((rd_T49 l0 (Int.tmod (wrap64 (a1 + 1)) (l0.length : Int))).f0) - ((rd_T49 l0 a1).f0))))) + (wrap64 ((wrap64 (((rd_T49 l0 (Int.tmod (wrap64 (a1 + 1)) (l0.length : Int))).f1) - ((rd_T49 l0 a1).f1))) * (wrap64 (((rd_T49 l0 (Int.tmod (wrap64 (a1 + 1)) (l0.length : Int))).f1) - ((rd_T49 l0 a1).f1)))))))) else (none)) else (none))) else (none)) else (none)
def impl_squareOfEdge.T1 : Bool × List (List Nat × List Nat) := (true, [([], []), ([], []), ([0, 1], [0, 1]), ([2], [2]), ([], []), ([], []), ([5], [5]), ([], []), ([7], [7]), ([6, 8], [6, 8]), ([4, 9], [4, 9]), ([10], [10]), ([], []), ([], []), ([12, 3, 0, 1, 2, 3, 12, 13], [3, 12]), ([13, 11, 14, 0, 1, 2, 3, 4, 5, 6, 7, 8, 9, 10, 11, 12, 13, 14], [11, 13])])
def impl_squareOfEdge.B1 : List Nat := [0, 0, 3, 7, 0, 0, 32, 0, 128, 480, 1008, 2032, 0, 0, 12303, 32767]
theorem impl_squareOfEdge.tab1 : rtab .any (opsOf Try.f46 1) = impl_squareOfEdge.T1 := by kernel_rfl
theorem impl_squareOfEdge.bits1 : waitsOk impl_squareOfEdge.T1.2 impl_squareOfEdge.B1 = true := by kernel_rfl
theorem impl_squareOfEdge.calls (A0 : Option Addr) (c0 : Nat) (l0 : List (S49)) (a1 : Int) (r : Int) (w : World) (rA : Kd.C k49 w A0 l0.length l0) (sA : l0.length ≤ c0) (h : impl_squareOfEdge.f l0 a1 = some r) :
  Calls Try.prog 46 #[.slice A0 l0.length c0, .int .i64 a1] w fun e w' => e = .returned (.int .i64 r) ∧ Below w.heap.size w w' := by
 have EC := Try.underlying49
 have mA := zQ rA
 have nA := zQ sA
 clear rA sA
 have HB := zQ (Below.refl w.heap.size w)
 have H := h; unfold impl_squareOfEdge.f at H
 clear h
 by_cases c3 : 0 ≤ a1
 ·rw [if_pos c3] at H
  have QC := decide_eq_true c3; clear c3
  by_cases c4 : a1 < (l0.length : Int)
  ·rw [if_pos c4] at H
   have NA := decide_eq_true c4; clear c4
   by_cases c5 : (l0.length : Int) = 0
   ·rw [if_pos c5] at H
    exact absurd H (by simp)
   ·rw [if_neg c5] at H
    have eB : ((l0.length : Int) == 0) = false := beq_eq_false_iff_ne.mpr c5; have PC : ((l0.length : Int) != 0) = true := bne_iff_ne.mpr c5
    have OC : ¬ (l0 = []) := fun h_ => c5 (by rw [h_]; rfl)
    obtain ⟨wA, QA⟩ : ∃ j_ : Int, (Int.tmod (wrap64 (a1 + 1)) (l0.length : Int)) = j_ := ⟨_, rfl⟩
    replace H : (if 0 ≤ (wA) then (if (wA) < (l0.length : Int) then (some (wrap64 ((wrap64 ((wrap64 (((rd_T49 l0 (wA)).f0) - ((rd_T49 l0 a1).f0))) * (wrap64 (((rd_T49 l0 (wA)).f0) - ((rd_T49 l0 a1).f0))))) + (wrap64 ((wrap64 (((rd_T49 l0 (wA)).f1) - ((rd_T49 l0 a1).f1))) * (wrap64 (((rd_T49 l0 (wA)).f1) - ((rd_T49 l0 a1).f1)))))))) else (none)) else (none)) = some r := by first | (rw [QA] at H; exact H) | (simp only [QA] at H ⊢; exact H)
    by_cases c7 : 0 ≤ (wA)
    ·rw [if_pos c7] at H
     have NC := decide_eq_true c7; clear c7
     by_cases c8 : (wA) < (l0.length : Int)
     ·rw [if_pos c8] at H
      have RA := decide_eq_true c8; clear c8; obtain rfl := Option.some.inj H
      go_enter Try.func46, Try.ntmps46
      try go_wp2
      have n0_ := zQ (below_drew1 HB.out); clear HB; have HB := n0_; clear n0_; have JB : 0 ≤ (a1 : Int) := zD; have EB : a1 < (l0.length : Int) := zD; obtain ⟨lA, MC, GA, FA⟩ := at_T49 mA.out a1 JB EB; have cA := FA; have dA := GA
      cases MC
      replace GA := zw HB.out GA; replace FA := zw HB.out FA; replace JB := eq_true JB; replace EB := eq_true EB; have IB : 0 ≤ ((wA) : Int) := zD; have DB : (wA) < (l0.length : Int) := zD; obtain ⟨MB, LC, EA, DA⟩ := at_T49 mA.out (wA) IB DB; have aA := DA; have bA := EA; obtain rfl : lA = MB := (by injection LC); replace EA := zw HB.out EA; replace DA := zw HB.out DA; replace IB := eq_true IB; replace DB := eq_true DB
      refine zs (fun w' => w'.cell? (lA.add ((a1).toNat * 2)) = some (.int .i64 ((rd_T49 l0 a1).f0)) ∧ w'.cell? ⟨(lA.add ((a1).toNat * 2)).block, (lA.add ((a1).toNat * 2)).off + 1, none⟩ = some (.int .i64 ((rd_T49 l0 a1).f1)) ∧ w'.cell? (lA.add (((wA)).toNat * 2)) = some (.int .i64 ((rd_T49 l0 (wA)).f0)) ∧ w'.cell? ⟨(lA.add (((wA)).toNat * 2)).block, (lA.add (((wA)).toNat * 2)).off + 1, none⟩ = some (.int .i64 ((rd_T49 l0 (wA)).f1))) [] 16 ⟨((HB.out.cell (World.block_lt_of_cell? w _ dA)).trans dA), ((HB.out.cell (World.block_lt_of_cell? w _ cA)).trans cA), ((HB.out.cell (World.block_lt_of_cell? w _ bA)).trans bA), ((HB.out.cell (World.block_lt_of_cell? w _ aA)).trans aA)⟩ (fun iA => ?_); refine with_tabW impl_squareOfEdge.tab1 impl_squareOfEdge.bits1 (fun HT_ HW_ => ?_)
      generalize w.drew = w9 at HB GA FA EA DA iA ⊢
      refine zp 0 7 ?_
      refine zp 1 8 ?_
      refine zp 2 9 ?_
      refine zp 4 11 ?_
      refine zp 5 12 ?_
      refine zp 6 13 ?_
      refine zp 7 14 ?_
      refine zp 8 15 ?_
      refine zp 9 16 ?_
      refine zp 10 17 ?_
      refine zt 3 10 iA ?_
      refine zt 11 18 iA ?_
      refine join_ (σ := Nat × Nat) 2 (zm 16 16383) (fun s_ => [(5, .pointer (some ⟨s_.1, 0, none⟩)), (6, .pointer (some ⟨s_.2, 0, none⟩))]) (fun s_ w' => (w'.cell? (lA.add ((a1).toNat * 2)) = some (.int .i64 ((rd_T49 l0 a1).f0)) ∧ w'.cell? ⟨(lA.add ((a1).toNat * 2)).block, (lA.add ((a1).toNat * 2)).off + 1, none⟩ = some (.int .i64 ((rd_T49 l0 a1).f1)) ∧ w'.cell? (lA.add (((wA)).toNat * 2)) = some (.int .i64 ((rd_T49 l0 (wA)).f0)) ∧ w'.cell? ⟨(lA.add (((wA)).toNat * 2)).block, (lA.add (((wA)).toNat * 2)).off + 1, none⟩ = some (.int .i64 ((rd_T49 l0 (wA)).f1))) ∧ (w'.heap[s_.1]? = some (.cells #[.int .i64 0, .int .i64 0] 49 (0, 0))) ∧ (w'.heap[s_.2]? = some (.cells #[.int .i64 0, .int .i64 0] 49 (0, 0))) ∧ (w.heap.size ≤ s_.1) ∧ (w.heap.size ≤ s_.1) ∧ (s_.2 ≠ s_.1) ∧ (s_.1 ≠ s_.2) ∧ (w.heap.size ≤ s_.2) ∧ (w.heap.size ≤ s_.2) ∧ (Below w.heap.size w w')) ?_ ?_
      rotate_left
      ·intro hCont
       refine two_ (i := 12) (j := 13) (Ni := some 5) (Nj := some 6) (zm 16 8191) (zm 16 12287) rfl rfl rfl rfl (two_of HT_.out (by kernel_rfl)) (by decide) (by decide) (fun K hK => ?_) (fun K hK => ?_)
       ·skip
        refine box_step ?hg (N := 5) ?hd (cs := #[.int .i64 0, .int .i64 0]) (t := 49) ?hr ?_; (case hd => rfl); (case hg => rfl); (case hr => first | (go_simp; done) | (go_simp; rfl))
        intro kA hg yC tA hb
        have n0_ := zbs HB.out hb; have n1_ := zQ (tA); have n2_ := zgz hg HB.out; have n3_ := zgz hg HB.out; clear HB; have HB := n0_; have qA := n1_; have fA := n2_; have CA := n3_; clear n0_ n1_ n2_ n3_; clear hb tA hg
        refine hK.out _ _ ⟨((HB.out.cell (World.block_lt_of_cell? w _ dA)).trans dA), ((HB.out.cell (World.block_lt_of_cell? w _ cA)).trans cA), ((HB.out.cell (World.block_lt_of_cell? w _ bA)).trans bA), ((HB.out.cell (World.block_lt_of_cell? w _ aA)).trans aA)⟩ (fun iA => ?_)
        clear hK K
        refine zn 5 ?_
        refine zo 13 (some 6) (fun K hK => ?_)
        refine box_step ?hg (N := 6) ?hd (cs := #[.int .i64 0, .int .i64 0]) (t := 49) ?hr ?_; (case hd => rfl); (case hg => rfl); (case hr => first | (go_simp; done) | (go_simp; rfl))
        intro jA hg TB tA hb
        have n0_ := zbl qA.out hb; have n1_ := zbs2 HB.out CA.out hb; have n2_ := zQ (tA); have n3_ := zgz2 hg HB.out CA.out; have n4_ := zgz2 hg HB.out CA.out; have n5_ := zn1 hg qA.out; have n6_ := zn2 hg qA.out; clear qA; clear HB; have qA := n0_; have HB := n1_; have pA := n2_; have eA := n3_; have BA := n4_; have hA := n5_; have gA := n6_; clear n0_ n1_ n2_ n3_ n4_ n5_ n6_; clear hb tA hg
        refine hK.out _ _ ⟨((HB.out.cell (World.block_lt_of_cell? w _ dA)).trans dA), ((HB.out.cell (World.block_lt_of_cell? w _ cA)).trans cA), ((HB.out.cell (World.block_lt_of_cell? w _ bA)).trans bA), ((HB.out.cell (World.block_lt_of_cell? w _ aA)).trans aA)⟩ (fun iA => ?_)
        clear hK K
        refine zn 6 ?_
        exact norm_ (by simp only [putAll, Act.put, List.setIfInBounds_toArray, List.set_cons_zero, List.set_cons_succ]) (hCont (kA, jA) _ ⟨iA, (zb qA.out), (zb pA.out), fA.out, CA.out, gA.out, hA.out, eA.out, BA.out, (zB3 HB.out CA.out BA.out)⟩)
       ·skip
        refine box_step ?hg (N := 6) ?hd (cs := #[.int .i64 0, .int .i64 0]) (t := 49) ?hr ?_; (case hd => rfl); (case hg => rfl); (case hr => first | (go_simp; done) | (go_simp; rfl))
        intro jA hg yC tA hb
        have n0_ := zbs HB.out hb; have n1_ := zQ (tA); have n2_ := zgz hg HB.out; have n3_ := zgz hg HB.out; clear HB; have HB := n0_; have pA := n1_; have eA := n2_; have BA := n3_; clear n0_ n1_ n2_ n3_; clear hb tA hg
        refine hK.out _ _ ⟨((HB.out.cell (World.block_lt_of_cell? w _ dA)).trans dA), ((HB.out.cell (World.block_lt_of_cell? w _ cA)).trans cA), ((HB.out.cell (World.block_lt_of_cell? w _ bA)).trans bA), ((HB.out.cell (World.block_lt_of_cell? w _ aA)).trans aA)⟩ (fun iA => ?_)
        clear hK K
        refine zn 6 ?_
        refine zo 12 (some 5) (fun K hK => ?_)
        refine box_step ?hg (N := 5) ?hd (cs := #[.int .i64 0, .int .i64 0]) (t := 49) ?hr ?_; (case hd => rfl); (case hg => rfl); (case hr => first | (go_simp; done) | (go_simp; rfl))
        intro kA hg TB tA hb
        have n0_ := zbl pA.out hb; have n1_ := zbs2 HB.out BA.out hb; have n2_ := zQ (tA); have n3_ := zgz2 hg HB.out BA.out; have n4_ := zgz2 hg HB.out BA.out; have n5_ := zn1 hg pA.out; have n6_ := zn2 hg pA.out; clear pA; clear HB; have pA := n0_; have HB := n1_; have qA := n2_; have fA := n3_; have CA := n4_; have gA := n5_; have hA := n6_; clear n0_ n1_ n2_ n3_ n4_ n5_ n6_; clear hb tA hg
        refine hK.out _ _ ⟨((HB.out.cell (World.block_lt_of_cell? w _ dA)).trans dA), ((HB.out.cell (World.block_lt_of_cell? w _ cA)).trans cA), ((HB.out.cell (World.block_lt_of_cell? w _ bA)).trans bA), ((HB.out.cell (World.block_lt_of_cell? w _ aA)).trans aA)⟩ (fun iA => ?_)
        clear hK K
        refine zn 5 ?_
        exact norm_ (by simp only [putAll, Act.put, List.setIfInBounds_toArray, List.set_cons_zero, List.set_cons_succ]) (hCont (kA, jA) _ ⟨iA, (zb qA.out), (zb pA.out), fA.out, CA.out, gA.out, hA.out, eA.out, BA.out, (zB3 HB.out BA.out CA.out)⟩)
      rintro ⟨kA, jA⟩ VA ⟨hS_, h0_, h1_, h2_, h3_, h4_, h5_, h6_, h7_, h8_⟩
      have n0_ : Aside0 (VA.heap[kA]? = some (.cells #[.int .i64 0, .int .i64 0] 49 (0, 0))) := ⟨h0_⟩; have n1_ : Aside0 (VA.heap[jA]? = some (.cells #[.int .i64 0, .int .i64 0] 49 (0, 0))) := ⟨h1_⟩; have n2_ : Aside0 (w.heap.size ≤ kA) := ⟨h2_⟩; have n3_ : Aside0 (w.heap.size ≤ kA) := ⟨h3_⟩; have n4_ : Aside0 (jA ≠ kA) := ⟨h4_⟩; have n5_ : Aside0 (kA ≠ jA) := ⟨h5_⟩; have n6_ : Aside0 (w.heap.size ≤ jA) := ⟨h6_⟩; have n7_ : Aside0 (w.heap.size ≤ jA) := ⟨h7_⟩; have n8_ : Aside0 (Below w.heap.size w VA) := ⟨h8_⟩; clear HB; clear h0_ h1_ h2_ h3_ h4_ h5_ h6_ h7_ h8_; have qA := n0_; have pA := n1_; have fA := n2_; have CA := n3_; have gA := n4_; have hA := n5_; have eA := n6_; have BA := n7_; have HB := n8_; clear n0_ n1_ n2_ n3_ n4_ n5_ n6_ n7_ n8_; have iA : VA.cell? (lA.add ((a1).toNat * 2)) = some (.int .i64 ((rd_T49 l0 a1).f0)) ∧ VA.cell? ⟨(lA.add ((a1).toNat * 2)).block, (lA.add ((a1).toNat * 2)).off + 1, none⟩ = some (.int .i64 ((rd_T49 l0 a1).f1)) ∧ VA.cell? (lA.add (((wA)).toNat * 2)) = some (.int .i64 ((rd_T49 l0 (wA)).f0)) ∧ VA.cell? ⟨(lA.add (((wA)).toNat * 2)).block, (lA.add (((wA)).toNat * 2)).off + 1, none⟩ = some (.int .i64 ((rd_T49 l0 (wA)).f1)) := hS_
      refine norm_ (a' := ?_) ?_ ?_
      rotate_left
      ·simp only [putAll, Act.put, List.setIfInBounds_toArray, List.set_cons_zero, List.set_cons_succ]
       rfl
      refine zo 14 none (fun K hK => ?_)
      have gD : VA.cell? ⟨kA, 0, none⟩ = some (.int .i64 0) := (blk_cell qA.out 0).trans rfl; have YC := zfz qA.out 0; have ZB := gA.out; have dC := hA.out; have fD : VA.cell? ⟨kA, 1, none⟩ = some (.int .i64 0) := (blk_cell qA.out 1).trans rfl; have XC := zfz qA.out 1; have YB := gA.out; have cC := hA.out
      refine skip_ (w1 := ?_) (by rfl) rfl ?_ ?_
      rotate_left
      ·go_simp
       rfl
      refine hK.out _ _ ⟨((cell_far (p := ⟨kA, _, none⟩) (by first | exact Nat.ne_of_lt (Nat.lt_of_lt_of_le (by have := World.block_lt_of_cell? _ _ dA; first | rwa [add_block] at this | exact this) fA.out) | (rw [add_block]; exact Nat.ne_of_lt (Nat.lt_of_lt_of_le (by have := World.block_lt_of_cell? _ _ dA; first | rwa [add_block] at this | exact this) fA.out)) | (show (Addr.add _ _).block ≠ _; rw [add_block]; exact Nat.ne_of_lt (Nat.lt_of_lt_of_le (by have := World.block_lt_of_cell? _ _ dA; first | rwa [add_block] at this | exact this) fA.out)) | (dsimp only; exact Nat.ne_of_lt (Nat.lt_of_lt_of_le (by have := World.block_lt_of_cell? _ _ dA; first | rwa [add_block] at this | exact this) fA.out))) _).trans (((cell_far (p := ⟨kA, _, none⟩) (by first | exact Nat.ne_of_lt (Nat.lt_of_lt_of_le (by have := World.block_lt_of_cell? _ _ dA; first | rwa [add_block] at this | exact this) fA.out) | (rw [add_block]; exact Nat.ne_of_lt (Nat.lt_of_lt_of_le (by have := World.block_lt_of_cell? _ _ dA; first | rwa [add_block] at this | exact this) fA.out)) | (show (Addr.add _ _).block ≠ _; rw [add_block]; exact Nat.ne_of_lt (Nat.lt_of_lt_of_le (by have := World.block_lt_of_cell? _ _ dA; first | rwa [add_block] at this | exact this) fA.out)) | (dsimp only; exact Nat.ne_of_lt (Nat.lt_of_lt_of_le (by have := World.block_lt_of_cell? _ _ dA; first | rwa [add_block] at this | exact this) fA.out))) _).trans (iA.1)))), ((cell_far (p := ⟨kA, _, none⟩) (by first | exact Nat.ne_of_lt (Nat.lt_of_lt_of_le (by have := World.block_lt_of_cell? _ _ cA; first | rwa [add_block] at this | exact this) fA.out) | (rw [add_block]; exact Nat.ne_of_lt (Nat.lt_of_lt_of_le (by have := World.block_lt_of_cell? _ _ cA; first | rwa [add_block] at this | exact this) fA.out)) | (show (Addr.add _ _).block ≠ _; rw [add_block]; exact Nat.ne_of_lt (Nat.lt_of_lt_of_le (by have := World.block_lt_of_cell? _ _ cA; first | rwa [add_block] at this | exact this) fA.out)) | (dsimp only; exact Nat.ne_of_lt (Nat.lt_of_lt_of_le (by have := World.block_lt_of_cell? _ _ cA; first | rwa [add_block] at this | exact this) fA.out))) _).trans (((cell_far (p := ⟨kA, _, none⟩) (by first | exact Nat.ne_of_lt (Nat.lt_of_lt_of_le (by have := World.block_lt_of_cell? _ _ cA; first | rwa [add_block] at this | exact this) fA.out) | (rw [add_block]; exact Nat.ne_of_lt (Nat.lt_of_lt_of_le (by have := World.block_lt_of_cell? _ _ cA; first | rwa [add_block] at this | exact this) fA.out)) | (show (Addr.add _ _).block ≠ _; rw [add_block]; exact Nat.ne_of_lt (Nat.lt_of_lt_of_le (by have := World.block_lt_of_cell? _ _ cA; first | rwa [add_block] at this | exact this) fA.out)) | (dsimp only; exact Nat.ne_of_lt (Nat.lt_of_lt_of_le (by have := World.block_lt_of_cell? _ _ cA; first | rwa [add_block] at this | exact this) fA.out))) _).trans (iA.2.1)))), ((cell_far (p := ⟨kA, _, none⟩) (by first | exact Nat.ne_of_lt (Nat.lt_of_lt_of_le (by have := World.block_lt_of_cell? _ _ bA; first | rwa [add_block] at this | exact this) fA.out) | (rw [add_block]; exact Nat.ne_of_lt (Nat.lt_of_lt_of_le (by have := World.block_lt_of_cell? _ _ bA; first | rwa [add_block] at this | exact this) fA.out)) | (show (Addr.add _ _).block ≠ _; rw [add_block]; exact Nat.ne_of_lt (Nat.lt_of_lt_of_le (by have := World.block_lt_of_cell? _ _ bA; first | rwa [add_block] at this | exact this) fA.out)) | (dsimp only; exact Nat.ne_of_lt (Nat.lt_of_lt_of_le (by have := World.block_lt_of_cell? _ _ bA; first | rwa [add_block] at this | exact this) fA.out))) _).trans (((cell_far (p := ⟨kA, _, none⟩) (by first | exact Nat.ne_of_lt (Nat.lt_of_lt_of_le (by have := World.block_lt_of_cell? _ _ bA; first | rwa [add_block] at this | exact this) fA.out) | (rw [add_block]; exact Nat.ne_of_lt (Nat.lt_of_lt_of_le (by have := World.block_lt_of_cell? _ _ bA; first | rwa [add_block] at this | exact this) fA.out)) | (show (Addr.add _ _).block ≠ _; rw [add_block]; exact Nat.ne_of_lt (Nat.lt_of_lt_of_le (by have := World.block_lt_of_cell? _ _ bA; first | rwa [add_block] at this | exact this) fA.out)) | (dsimp only; exact Nat.ne_of_lt (Nat.lt_of_lt_of_le (by have := World.block_lt_of_cell? _ _ bA; first | rwa [add_block] at this | exact this) fA.out))) _).trans (iA.2.2.1)))), ((cell_far (p := ⟨kA, _, none⟩) (by first | exact Nat.ne_of_lt (Nat.lt_of_lt_of_le (by have := World.block_lt_of_cell? _ _ aA; first | rwa [add_block] at this | exact this) fA.out) | (rw [add_block]; exact Nat.ne_of_lt (Nat.lt_of_lt_of_le (by have := World.block_lt_of_cell? _ _ aA; first | rwa [add_block] at this | exact this) fA.out)) | (show (Addr.add _ _).block ≠ _; rw [add_block]; exact Nat.ne_of_lt (Nat.lt_of_lt_of_le (by have := World.block_lt_of_cell? _ _ aA; first | rwa [add_block] at this | exact this) fA.out)) | (dsimp only; exact Nat.ne_of_lt (Nat.lt_of_lt_of_le (by have := World.block_lt_of_cell? _ _ aA; first | rwa [add_block] at this | exact this) fA.out))) _).trans (((cell_far (p := ⟨kA, _, none⟩) (by first | exact Nat.ne_of_lt (Nat.lt_of_lt_of_le (by have := World.block_lt_of_cell? _ _ aA; first | rwa [add_block] at this | exact this) fA.out) | (rw [add_block]; exact Nat.ne_of_lt (Nat.lt_of_lt_of_le (by have := World.block_lt_of_cell? _ _ aA; first | rwa [add_block] at this | exact this) fA.out)) | (show (Addr.add _ _).block ≠ _; rw [add_block]; exact Nat.ne_of_lt (Nat.lt_of_lt_of_le (by have := World.block_lt_of_cell? _ _ aA; first | rwa [add_block] at this | exact this) fA.out)) | (dsimp only; exact Nat.ne_of_lt (Nat.lt_of_lt_of_le (by have := World.block_lt_of_cell? _ _ aA; first | rwa [add_block] at this | exact this) fA.out))) _).trans (iA.2.2.2))))⟩ (fun iA => ?_)
      clear hK K
      refine zo 15 none (fun K hK => ?_)
      have eD : VA.cell? ⟨jA, 0, none⟩ = some (.int .i64 0) := (blk_cell pA.out 0).trans rfl; have WC := zfz pA.out 0; have XB := hA.out; have bC := gA.out; have dD : VA.cell? ⟨jA, 1, none⟩ = some (.int .i64 0) := (blk_cell pA.out 1).trans rfl; have VC := zfz pA.out 1; have WB := hA.out; have aC := gA.out
      refine skip_ (w1 := ?_) (by rfl) rfl ?_ ?_
      rotate_left
      ·go_simp
       rfl
      refine hK.out _ _ ⟨((cell_far (p := ⟨jA, _, none⟩) (by first | exact Nat.ne_of_lt (Nat.lt_of_lt_of_le (by have := World.block_lt_of_cell? _ _ dA; first | rwa [add_block] at this | exact this) eA.out) | (rw [add_block]; exact Nat.ne_of_lt (Nat.lt_of_lt_of_le (by have := World.block_lt_of_cell? _ _ dA; first | rwa [add_block] at this | exact this) eA.out)) | (show (Addr.add _ _).block ≠ _; rw [add_block]; exact Nat.ne_of_lt (Nat.lt_of_lt_of_le (by have := World.block_lt_of_cell? _ _ dA; first | rwa [add_block] at this | exact this) eA.out)) | (dsimp only; exact Nat.ne_of_lt (Nat.lt_of_lt_of_le (by have := World.block_lt_of_cell? _ _ dA; first | rwa [add_block] at this | exact this) eA.out))) _).trans (((cell_far (p := ⟨jA, _, none⟩) (by first | exact Nat.ne_of_lt (Nat.lt_of_lt_of_le (by have := World.block_lt_of_cell? _ _ dA; first | rwa [add_block] at this | exact this) eA.out) | (rw [add_block]; exact Nat.ne_of_lt (Nat.lt_of_lt_of_le (by have := World.block_lt_of_cell? _ _ dA; first | rwa [add_block] at this | exact this) eA.out)) | (show (Addr.add _ _).block ≠ _; rw [add_block]; exact Nat.ne_of_lt (Nat.lt_of_lt_of_le (by have := World.block_lt_of_cell? _ _ dA; first | rwa [add_block] at this | exact this) eA.out)) | (dsimp only; exact Nat.ne_of_lt (Nat.lt_of_lt_of_le (by have := World.block_lt_of_cell? _ _ dA; first | rwa [add_block] at this | exact this) eA.out))) _).trans (iA.1)))), ((cell_far (p := ⟨jA, _, none⟩) (by first | exact Nat.ne_of_lt (Nat.lt_of_lt_of_le (by have := World.block_lt_of_cell? _ _ cA; first | rwa [add_block] at this | exact this) eA.out) | (rw [add_block]; exact Nat.ne_of_lt (Nat.lt_of_lt_of_le (by have := World.block_lt_of_cell? _ _ cA; first | rwa [add_block] at this | exact this) eA.out)) | (show (Addr.add _ _).block ≠ _; rw [add_block]; exact Nat.ne_of_lt (Nat.lt_of_lt_of_le (by have := World.block_lt_of_cell? _ _ cA; first | rwa [add_block] at this | exact this) eA.out)) | (dsimp only; exact Nat.ne_of_lt (Nat.lt_of_lt_of_le (by have := World.block_lt_of_cell? _ _ cA; first | rwa [add_block] at this | exact this) eA.out))) _).trans (((cell_far (p := ⟨jA, _, none⟩) (by first | exact Nat.ne_of_lt (Nat.lt_of_lt_of_le (by have := World.block_lt_of_cell? _ _ cA; first | rwa [add_block] at this | exact this) eA.out) | (rw [add_block]; exact Nat.ne_of_lt (Nat.lt_of_lt_of_le (by have := World.block_lt_of_cell? _ _ cA; first | rwa [add_block] at this | exact this) eA.out)) | (show (Addr.add _ _).block ≠ _; rw [add_block]; exact Nat.ne_of_lt (Nat.lt_of_lt_of_le (by have := World.block_lt_of_cell? _ _ cA; first | rwa [add_block] at this | exact this) eA.out)) | (dsimp only; exact Nat.ne_of_lt (Nat.lt_of_lt_of_le (by have := World.block_lt_of_cell? _ _ cA; first | rwa [add_block] at this | exact this) eA.out))) _).trans (iA.2.1)))), ((cell_far (p := ⟨jA, _, none⟩) (by first | exact Nat.ne_of_lt (Nat.lt_of_lt_of_le (by have := World.block_lt_of_cell? _ _ bA; first | rwa [add_block] at this | exact this) eA.out) | (rw [add_block]; exact Nat.ne_of_lt (Nat.lt_of_lt_of_le (by have := World.block_lt_of_cell? _ _ bA; first | rwa [add_block] at this | exact this) eA.out)) | (show (Addr.add _ _).block ≠ _; rw [add_block]; exact Nat.ne_of_lt (Nat.lt_of_lt_of_le (by have := World.block_lt_of_cell? _ _ bA; first | rwa [add_block] at this | exact this) eA.out)) | (dsimp only; exact Nat.ne_of_lt (Nat.lt_of_lt_of_le (by have := World.block_lt_of_cell? _ _ bA; first | rwa [add_block] at this | exact this) eA.out))) _).trans (((cell_far (p := ⟨jA, _, none⟩) (by first | exact Nat.ne_of_lt (Nat.lt_of_lt_of_le (by have := World.block_lt_of_cell? _ _ bA; first | rwa [add_block] at this | exact this) eA.out) | (rw [add_block]; exact Nat.ne_of_lt (Nat.lt_of_lt_of_le (by have := World.block_lt_of_cell? _ _ bA; first | rwa [add_block] at this | exact this) eA.out)) | (show (Addr.add _ _).block ≠ _; rw [add_block]; exact Nat.ne_of_lt (Nat.lt_of_lt_of_le (by have := World.block_lt_of_cell? _ _ bA; first | rwa [add_block] at this | exact this) eA.out)) | (dsimp only; exact Nat.ne_of_lt (Nat.lt_of_lt_of_le (by have := World.block_lt_of_cell? _ _ bA; first | rwa [add_block] at this | exact this) eA.out))) _).trans (iA.2.2.1)))), ((cell_far (p := ⟨jA, _, none⟩) (by first | exact Nat.ne_of_lt (Nat.lt_of_lt_of_le (by have := World.block_lt_of_cell? _ _ aA; first | rwa [add_block] at this | exact this) eA.out) | (rw [add_block]; exact Nat.ne_of_lt (Nat.lt_of_lt_of_le (by have := World.block_lt_of_cell? _ _ aA; first | rwa [add_block] at this | exact this) eA.out)) | (show (Addr.add _ _).block ≠ _; rw [add_block]; exact Nat.ne_of_lt (Nat.lt_of_lt_of_le (by have := World.block_lt_of_cell? _ _ aA; first | rwa [add_block] at this | exact this) eA.out)) | (dsimp only; exact Nat.ne_of_lt (Nat.lt_of_lt_of_le (by have := World.block_lt_of_cell? _ _ aA; first | rwa [add_block] at this | exact this) eA.out))) _).trans (((cell_far (p := ⟨jA, _, none⟩) (by first | exact Nat.ne_of_lt (Nat.lt_of_lt_of_le (by have := World.block_lt_of_cell? _ _ aA; first | rwa [add_block] at this | exact this) eA.out) | (rw [add_block]; exact Nat.ne_of_lt (Nat.lt_of_lt_of_le (by have := World.block_lt_of_cell? _ _ aA; first | rwa [add_block] at this | exact this) eA.out)) | (show (Addr.add _ _).block ≠ _; rw [add_block]; exact Nat.ne_of_lt (Nat.lt_of_lt_of_le (by have := World.block_lt_of_cell? _ _ aA; first | rwa [add_block] at this | exact this) eA.out)) | (dsimp only; exact Nat.ne_of_lt (Nat.lt_of_lt_of_le (by have := World.block_lt_of_cell? _ _ aA; first | rwa [add_block] at this | exact this) eA.out))) _).trans (iA.2.2.2))))⟩ (fun iA => ?_)
      clear hK K
      refine done_ (done_of HT_.out (by kernel_rfl)) ?_
      have TC := gA.out; have RC := hA.out; obtain ⟨rC, qC, hC, gC⟩ := zy2 pA.out; obtain ⟨pC, oC, fC, eC⟩ := zy2 qA.out
      try go_wp2
      go_ret
      exact ⟨by first | rfl | (simp [errW_none, errW_some] <;> rfl) | (simp only [← QA]; first | rfl | (simp [errW_none, errW_some] <;> rfl)) | (simp [*, errW_none, errW_some] <;> rfl), zB3 HB.out CA.out BA.out⟩
     ·rw [if_neg c8] at H
      exact absurd H (by simp)
    ·rw [if_neg c7] at H
     exact absurd H (by simp)
  ·rw [if_neg c4] at H
   exact absurd H (by simp)
 ·rw [if_neg c3] at H
  exact absurd H (by simp)

def impl_RoundUpEdge.l0 : Nat → Int → Int → Option (Int × Int)
 | 0, _, _ => none
 | k + 1, x7, x8 => if (wrap64 (x8 * x8)) < x7 then (impl_RoundUpEdge.l0 k x7 (wrap64 (x8 + 1))) else (some (x8, 0))
def impl_RoundUpEdge.f (k : Nat) (l0 : List (S49)) (a1 : Int) : Option (Int × Int) := (impl_edgeCode.f k l0 a1).bind fun MA => (if MA = 0 then ((impl_squareOfEdge.f l0 a1).bind fun dB => (impl_RoundUpEdge.l0 k dB 0)) else (some (0, MA)))
theorem impl_RoundUpEdge.calls (k : Nat) (A0 : Option Addr) (c0 : Nat) (l0 : List (S49)) (a1 : Int) (r1 : Int) (r2 : Int) (w : World) (rA : Kd.C k49 w A0 l0.length l0) (sA : l0.length ≤ c0) (h : impl_RoundUpEdge.f k l0 a1 = some (r1, r2)) :
  Calls Try.prog 18 #[.slice A0 l0.length c0, .int .i64 a1] w fun e w' => e = .returned (.tuple #[.int .i64 r1, .int .i64 r2]) ∧ Below w.heap.size w w' := by
 have mA := zQ rA
 have nA := zQ sA
 clear rA sA
 have HB := zQ (Below.refl w.heap.size w)
 have H := h; unfold impl_RoundUpEdge.f at H
 clear h
 replace H := zob H; obtain ⟨MA, A3, H⟩ := H
 by_cases c4 : MA = 0
 ·rw [if_pos c4] at H
  have NA : (MA == 0) = true := beq_iff_eq.mpr c4; have PA : (MA != 0) = false := bne_eq_false_iff_eq.mpr c4; clear c4; replace H := zob H; obtain ⟨dB, A5, H⟩ := H; have H' := zQ H; clear H
  go_enter Try.func18, Try.ntmps18
  go_wp2_with (first | ((with_reducible refine zgc 45 ?_); refine zgo (some 11) Try.func45 #[.slice A0 l0.length c0, .int .i64 a1] ?_; (with_reducible refine (impl_edgeCode.calls k _ _ l0 a1 MA _ ?side1 nA.out A3.out).mono ?_); (case side1 => repeat (first | exact mA.out | (with_reducible refine Kd.C_alloc ?_ _) | (with_reducible refine Kd.C_drewN ?_ _) | (with_reducible refine Kd.C_drew ?_))); rintro e w6 ⟨rfl, hb⟩; refine ⟨_, rfl, ?_⟩; replace HB := zbs HB.out hb; (try clear hb)) | ((with_reducible refine zgc 46 ?_); refine zgo (some 17) Try.func46 #[.slice A0 l0.length c0, .int .i64 a1] ?_; (with_reducible refine (impl_squareOfEdge.calls _ _ l0 a1 dB _ (zC mA.out HB.out) nA.out A5.out).mono ?_); rintro e w7 ⟨rfl, hb⟩; refine ⟨_, rfl, ?_⟩; replace HB := zbs HB.out hb; (try clear hb)))
  go_loopg [8] k (fun kq v8 w' => ∃ (TA : Int), v8 = .int .i64 TA ∧ Aside0 (impl_RoundUpEdge.l0 kq dB TA = some (r1, r2)) ∧ Aside0 (kq ≤ k) ∧ Aside0 (Below w.heap.size w w'))
  case atStart => exact ⟨(0), (zF), H', ⟨Nat.le_refl _⟩, ⟨zB HB.out⟩⟩
  case round =>
   clear H'; (try clear c1); (try clear p2); (try clear c4); (try clear NA); (try clear PA); obtain ⟨TA, rfl, HA, SA, HB⟩ := hrel
   cases gk with
   | zero => exact absurd HA.out (by simp [impl_RoundUpEdge.l0])
   | succ k1 =>
    have H := HA.out; clear HA
    simp only [impl_RoundUpEdge.l0] at H
    by_cases c8 : (wrap64 (TA * TA)) < dB
    ·rw [if_pos c8] at H
     have RA := decide_eq_true c8; clear c8; have H' := zQ H; clear H
     go_wp2
     go_roundg k1
     case measure => have := SA.out; omega
     case rel => exact ⟨(wrap64 (TA + 1)), (zF), H', ⟨by have := SA.out; omega⟩, ⟨zB HB.out⟩⟩
    ·rw [if_neg c8] at H
     have RA := decide_eq_false c8; clear c8
     simp only [Option.some.injEq, Prod.mk.injEq] at H
     obtain ⟨rfl, rfl⟩ := H
     go_wp2
     go_ret2
     exact ⟨zE, zB HB.out⟩
 ·rw [if_neg c4] at H
  have NA : (MA == 0) = false := beq_eq_false_iff_ne.mpr c4; have PA : (MA != 0) = true := bne_iff_ne.mpr c4
  simp only [Option.some.injEq, Prod.mk.injEq] at H
  obtain ⟨rfl, rfl⟩ := H
  go_enter Try.func18, Try.ntmps18
  go_wp2_with (first | ((with_reducible refine zgc 45 ?_); refine zgo (some 11) Try.func45 #[.slice A0 l0.length c0, .int .i64 a1] ?_; (with_reducible refine (impl_edgeCode.calls k _ _ l0 a1 MA _ ?side1 nA.out A3.out).mono ?_); (case side1 => repeat (first | exact mA.out | (with_reducible refine Kd.C_alloc ?_ _) | (with_reducible refine Kd.C_drewN ?_ _) | (with_reducible refine Kd.C_drew ?_))); rintro e w9 ⟨rfl, hb⟩; refine ⟨_, rfl, ?_⟩; replace HB := zbs HB.out hb; (try clear hb)))
  go_ret2
  exact ⟨zE, zB HB.out⟩

def spec_l13Edge.f (k : Nat) (l0 : List (S49)) (a1 : Int) : Option (Int) := (spec_l13Ok.f k l0).bind fun rB => (if rB = true then ((spec_l00In.f a1 0 (wrap64 ((l0.length : Int) - 1))).bind fun qB => (if qB = true then (some 0) else (some 2))) else (some 1))
theorem spec_l13Edge.calls (k : Nat) (A0 : Option Addr) (c0 : Nat) (l0 : List (S49)) (a1 : Int) (r : Int) (w : World) (rA : Kd.C k49 w A0 l0.length l0) (sA : l0.length ≤ c0) (h : spec_l13Edge.f k l0 a1 = some r) :
  Calls Try.prog 47 #[.slice A0 l0.length c0, .int .i64 a1] w fun e w' => e = .returned (.int .i64 r) ∧ Below w.heap.size w w' := by
 have mA := zQ rA
 have nA := zQ sA
 clear rA sA
 have HB := zQ (Below.refl w.heap.size w)
 have H := h; unfold spec_l13Edge.f at H
 clear h
 replace H := zob H; obtain ⟨rB, A3, H⟩ := H
 by_cases c4 : rB = true
 ·subst c4
  rw [if_pos rfl] at H; replace H := zob H; obtain ⟨qB, A5, H⟩ := H
  by_cases c6 : qB = true
  ·subst c6
   rw [if_pos rfl] at H; obtain rfl := Option.some.inj H
   go_enter Try.func47, Try.ntmps47
   go_wp2_with (first | ((with_reducible refine zgc 25 ?_); refine zgo (some 6) Try.func25 #[.slice A0 l0.length c0] ?_; (with_reducible refine (spec_l13Ok.calls k _ _ l0 true _ ?side1 nA.out A3.out).mono ?_); (case side1 => repeat (first | exact mA.out | (with_reducible refine Kd.C_alloc ?_ _) | (with_reducible refine Kd.C_drewN ?_ _) | (with_reducible refine Kd.C_drew ?_))); rintro e w7 ⟨rfl, hb⟩; refine ⟨_, rfl, ?_⟩; replace HB := zbs HB.out hb; (try clear hb)) | ((with_reducible refine zgc 27 ?_); refine zgo (some 12) Try.func27 #[.int .i64 a1, .int .i64 0, .int .i64 (wrap64 ((l0.length : Int) - 1))] ?_; (with_reducible refine (spec_l00In.calls a1 0 (wrap64 ((l0.length : Int) - 1)) true _ A5.out).mono ?_); rintro e w' ⟨rfl, ⟨nd, rfl⟩⟩; refine ⟨_, rfl, ?_⟩))
   go_ret
   exact ⟨zE, zB HB.out⟩
  ·replace c6 := Bool.eq_false_iff.mpr c6
   subst c6
   rw [if_neg Bool.false_ne_true] at H; obtain rfl := Option.some.inj H
   go_enter Try.func47, Try.ntmps47
   go_wp2_with (first | ((with_reducible refine zgc 25 ?_); refine zgo (some 6) Try.func25 #[.slice A0 l0.length c0] ?_; (with_reducible refine (spec_l13Ok.calls k _ _ l0 true _ ?side1 nA.out A3.out).mono ?_); (case side1 => repeat (first | exact mA.out | (with_reducible refine Kd.C_alloc ?_ _) | (with_reducible refine Kd.C_drewN ?_ _) | (with_reducible refine Kd.C_drew ?_))); rintro e w8 ⟨rfl, hb⟩; refine ⟨_, rfl, ?_⟩; replace HB := zbs HB.out hb; (try clear hb)) | ((with_reducible refine zgc 27 ?_); refine zgo (some 12) Try.func27 #[.int .i64 a1, .int .i64 0, .int .i64 (wrap64 ((l0.length : Int) - 1))] ?_; (with_reducible refine (spec_l00In.calls a1 0 (wrap64 ((l0.length : Int) - 1)) false _ A5.out).mono ?_); rintro e w' ⟨rfl, ⟨nd, rfl⟩⟩; refine ⟨_, rfl, ?_⟩))
   go_ret
   exact ⟨zE, zB HB.out⟩
 ·replace c4 := Bool.eq_false_iff.mpr c4
  subst c4
  rw [if_neg Bool.false_ne_true] at H; obtain rfl := Option.some.inj H
  go_enter Try.func47, Try.ntmps47
  go_wp2_with (first | ((with_reducible refine zgc 25 ?_); refine zgo (some 6) Try.func25 #[.slice A0 l0.length c0] ?_; (with_reducible refine (spec_l13Ok.calls k _ _ l0 false _ ?side1 nA.out A3.out).mono ?_); (case side1 => repeat (first | exact mA.out | (with_reducible refine Kd.C_alloc ?_ _) | (with_reducible refine Kd.C_drewN ?_ _) | (with_reducible refine Kd.C_drew ?_))); rintro e w9 ⟨rfl, hb⟩; refine ⟨_, rfl, ?_⟩; replace HB := zbs HB.out hb; (try clear hb)))
  go_ret
  exact ⟨zE, zB HB.out⟩

def spec_l13Root.l0 : Nat → Int → Int → Option (Int)
 | 0, _, _ => none
 | k + 1, x0, x3 => if (wrap64 (x3 * x3)) < x0 then (spec_l13Root.l0 k x0 (wrap64 (x3 + 1))) else (some x3)
def spec_l13Root.f (k : Nat) (a0 : Int) : Option (Int) := spec_l13Root.l0 k a0 0
theorem spec_l13Root.calls (k : Nat) (a0 : Int) (r : Int) (w : World) (h : spec_l13Root.f k a0 = some r) :
  Calls Try.prog 48 #[.int .i64 a0] w fun e w' => e = .returned (.int .i64 r) ∧ Drawn0 w w' := by
 have H : (spec_l13Root.l0 k a0 0) = some r := h
 clear h
 have H' := zQ H
 clear H
 go_enter Try.func48, Try.ntmps48
 go_wp2
 go_loopg [3] k (fun kq v3 w' => ∃ (UA : Int), v3 = .int .i64 UA ∧ Aside0 (spec_l13Root.l0 kq a0 UA = some r) ∧ Aside0 (kq ≤ k) ∧ Drawn0 w w')
 case atStart => exact ⟨(0), (zF), H', ⟨Nat.le_refl _⟩, by repeat (first | exact Drawn0.refl _ | apply Drawn0.step)⟩
 case round =>
  clear H'; obtain ⟨UA, rfl, HA, SA, ⟨m1, rfl⟩⟩ := hrel
  cases gk with
  | zero => exact absurd HA.out (by simp [spec_l13Root.l0])
  | succ k1 =>
   have H := HA.out; clear HA
   simp only [spec_l13Root.l0] at H
   by_cases c2 : (wrap64 (UA * UA)) < a0
   ·rw [if_pos c2] at H
    have KB := decide_eq_true c2; clear c2; have H' := zQ H; clear H
    go_wp2
    go_roundg k1
    case measure => have := SA.out; omega
    case rel => exact ⟨(wrap64 (UA + 1)), (zF), H', ⟨by have := SA.out; omega⟩, by repeat (first | exact Drawn0.refl _ | apply Drawn0.step)⟩
   ·rw [if_neg c2] at H
    have KB := decide_eq_false c2; clear c2; obtain rfl := Option.some.inj H
    go_wp2
    go_ret
    exact ⟨zF, by repeat (first | exact Drawn0.refl _ | apply Drawn0.step)⟩

def spec_l13Square.f (l0 : List (S49)) (a1 : Int) : Option (Int) := if 0 ≤ a1 then (if a1 < (l0.length : Int) then (if (l0.length : Int) = 0 then (none) else (if 0 ≤ (Int.tmod (wrap64 (a1 + 1)) (l0.length : Int)) then (if (Int.tmod (wrap64 (a1 + 1)) (l0.length : Int)) < (l0.length : Int) then (some (wrap64 ((wrap64 ((wrap64 (((rd_T49 l0 (Int.tmod (wrap64 (a1 + 1)) (l0.length : Int))).f0) - ((rd_T49 l0 a1).f0))) * (wrap64 (((rd_T49 l0 (Int.tmod (wrap64 (a1 + 1)) (l0.length : Int))).f0) - ((rd_T49 l0 a1).f0))))) + (wrap64 ((wrap64 (((rd_T49 l0 (Int.tmod (wrap64 (a1 + 1)) (l0.length : Int))).f1) - ((rd_T49 l0 a1).f1))) * (wrap64 (((rd_T49 l0 (Int.tmod (wrap64 (a1 + 1)) (l0.length : Int))).f1) - ((rd_T49 l0 a1).f1)))))))) else (none)) else (none))) else (none)) else (none)
theorem spec_l13Square.calls (A0 : Option Addr) (c0 : Nat) (l0 : List (S49)) (a1 : Int) (r : Int) (w : World) (rA : Kd.C k49 w A0 l0.length l0) (sA : l0.length ≤ c0) (h : spec_l13Square.f l0 a1 = some r) :
  Calls Try.prog 49 #[.slice A0 l0.length c0, .int .i64 a1] w fun e w' => e = .returned (.int .i64 r) ∧ Below w.heap.size w w' := by
 have EC := Try.underlying49
 have mA := zQ rA
 have nA := zQ sA
 clear rA sA
 have HB := zQ (Below.refl w.heap.size w)
 have H := h; unfold spec_l13Square.f at H
 clear h
 by_cases c3 : 0 ≤ a1
 ·rw [if_pos c3] at H
  have QC := decide_eq_true c3; clear c3
  by_cases c4 : a1 < (l0.length : Int)
  ·rw [if_pos c4] at H
   have NA := decide_eq_true c4; clear c4
   by_cases c5 : (l0.length : Int) = 0
   ·rw [if_pos c5] at H
    exact absurd H (by simp)
   ·rw [if_neg c5] at H
    have eB : ((l0.length : Int) == 0) = false := beq_eq_false_iff_ne.mpr c5; have PC : ((l0.length : Int) != 0) = true := bne_iff_ne.mpr c5
    have OC : ¬ (l0 = []) := fun h_ => c5 (by rw [h_]; rfl)
    obtain ⟨wA, QA⟩ : ∃ j_ : Int, (Int.tmod (wrap64 (a1 + 1)) (l0.length : Int)) = j_ := ⟨_, rfl⟩
    replace H : (if 0 ≤ (wA) then (if (wA) < (l0.length : Int) then (some (wrap64 ((wrap64 ((wrap64 (((rd_T49 l0 (wA)).f0) - ((rd_T49 l0 a1).f0))) * (wrap64 (((rd_T49 l0 (wA)).f0) - ((rd_T49 l0 a1).f0))))) + (wrap64 ((wrap64 (((rd_T49 l0 (wA)).f1) - ((rd_T49 l0 a1).f1))) * (wrap64 (((rd_T49 l0 (wA)).f1) - ((rd_T49 l0 a1).f1)))))))) else (none)) else (none)) = some r := by first | (rw [QA] at H; exact H) | (simp only [QA] at H ⊢; exact H)
    by_cases c7 : 0 ≤ (wA)
    ·rw [if_pos c7] at H
     have NC := decide_eq_true c7; clear c7
     by_cases c8 : (wA) < (l0.length : Int)
     ·rw [if_pos c8] at H
      have RA := decide_eq_true c8; clear c8; obtain rfl := Option.some.inj H; have GB : 0 ≤ (a1 : Int) := zD; have CB : a1 < (l0.length : Int) := zD; obtain ⟨fB, KC, VB, UB⟩ := at_T49 mA.out a1 GB CB
      cases KC
      replace GB := eq_true GB; replace CB := eq_true CB
      go_enter Try.func49, Try.ntmps49
      go_wp2_with (first | ((with_reducible refine zd 5 ?_); refine zbx (N := 5) (cs := #[.int .i64 0, .int .i64 0]) (t := 49) ?_; intro zA hg w9 tA hb; have OA := zQ (tA); have gB := zgz hg HB.out; have hB := gB; replace HB := zbs HB.out hb; clear hb tA hg; obtain ⟨xC, wC, nC, mC⟩ := zy2 OA.out; have FB : 0 ≤ ((wA) : Int) := zD; have BB : (wA) < (l0.length : Int) := zD; obtain ⟨LB, JC, oA, AA⟩ := at_T49 mA.out (wA) FB BB; obtain rfl : fB = LB := (by injection JC); have vA : fB.block ≠ zA := Nat.ne_of_lt (Nat.lt_of_lt_of_le (by have := World.block_lt_of_cell? _ _ oA; first | rwa [add_block] at this | exact this) gB.out); have uA : fB.block ≠ zA := Nat.ne_of_lt (Nat.lt_of_lt_of_le (by have := World.block_lt_of_cell? _ _ oA; first | rwa [add_block] at this | exact this) gB.out); replace oA := zw HB.out oA; replace AA := zw HB.out AA; replace oA := (cell_far (p := ⟨zA, 0, none⟩) (by first | (rw [add_block]; exact vA) | (show (Addr.add _ _).block ≠ _; rw [add_block]; exact vA) | exact vA) (.int .i64 ((rd_T49 l0 a1).f0))).trans oA; replace AA := (cell_far (p := ⟨zA, 0, none⟩) (by first | (rw [add_block]; exact vA) | (show (Addr.add _ _).block ≠ _; rw [add_block]; exact vA) | exact vA) (.int .i64 ((rd_T49 l0 a1).f0))).trans AA; replace oA := (cell_far (p := ⟨zA, 1, none⟩) (by first | (rw [add_block]; exact uA) | (show (Addr.add _ _).block ≠ _; rw [add_block]; exact uA) | exact uA) (.int .i64 ((rd_T49 l0 a1).f1))).trans oA; replace AA := (cell_far (p := ⟨zA, 1, none⟩) (by first | (rw [add_block]; exact uA) | (show (Addr.add _ _).block ≠ _; rw [add_block]; exact uA) | exact uA) (.int .i64 ((rd_T49 l0 a1).f1))).trans AA; clear vA; clear uA; replace FB := eq_true FB; replace BB := eq_true BB) | ((with_reducible refine zd 6 ?_); refine zbx (N := 6) (cs := #[.int .i64 0, .int .i64 0]) (t := 49) ?_; intro iB hg TB tA hb; have SB := zQ (tA); have OB := zgz2 hg HB.out hB.out; have QB := OB; have XA := zQ ((by rw [hg]; exact Nat.ne_of_lt (blk_lt (g := zA) (o := .cells #[.int .i64 ((rd_T49 l0 a1).f0), .int .i64 ((rd_T49 l0 a1).f1)] 49 (0, 0)) (by refine zb ?_; refine blk_put (cs := #[.int .i64 ((rd_T49 l0 a1).f0), .int .i64 0]) ?_ 1 _ rfl; refine zb ?_; refine blk_put (cs := #[.int .i64 0, .int .i64 0]) ?_ 0 _ rfl; refine zb ?_; exact OA.out)) : zA ≠ iB)); have WA := zQ ((by rw [hg]; exact Nat.ne_of_gt (blk_lt (g := zA) (o := .cells #[.int .i64 ((rd_T49 l0 a1).f0), .int .i64 ((rd_T49 l0 a1).f1)] 49 (0, 0)) (by refine zb ?_; refine blk_put (cs := #[.int .i64 ((rd_T49 l0 a1).f0), .int .i64 0]) ?_ 1 _ rfl; refine zb ?_; refine blk_put (cs := #[.int .i64 0, .int .i64 0]) ?_ 0 _ rfl; refine zb ?_; exact OA.out)) : iB ≠ zA)); replace OA := zQ (blk_below (g := zA) (o := .cells #[.int .i64 ((rd_T49 l0 a1).f0), .int .i64 ((rd_T49 l0 a1).f1)] 49 (0, 0)) (by refine zb ?_; refine blk_put (cs := #[.int .i64 ((rd_T49 l0 a1).f0), .int .i64 0]) ?_ 1 _ rfl; refine zb ?_; refine blk_put (cs := #[.int .i64 0, .int .i64 0]) ?_ 0 _ rfl; refine zb ?_; exact OA.out) hb); replace HB := zbs2 HB.out hB.out hb; clear hb tA hg; have UC := WA.out; have SC := XA.out; obtain ⟨vC, uC, lC, kC⟩ := zy2 SB.out; obtain ⟨tC, sC, jC, iC⟩ := zy2 OA.out))
      go_ret
      exact ⟨by first | rfl | (simp [errW_none, errW_some] <;> rfl) | (simp only [← QA]; first | rfl | (simp [errW_none, errW_some] <;> rfl)) | (simp [*, errW_none, errW_some] <;> rfl), zB3 HB.out hB.out QB.out⟩
     ·rw [if_neg c8] at H
      exact absurd H (by simp)
    ·rw [if_neg c7] at H
     exact absurd H (by simp)
  ·rw [if_neg c4] at H
   exact absurd H (by simp)
 ·rw [if_neg c3] at H
  exact absurd H (by simp)

def spec_RoundUpEdge.f (k : Nat) (l0 : List (S49)) (a1 : Int) : Option (Int × Int) := (spec_l13Edge.f k l0 a1).bind fun LA => (if LA = 0 then ((spec_l13Square.f l0 a1).bind fun cB => ((spec_l13Root.f k cB).bind fun pB => (some (pB, 0)))) else (some (0, LA)))
theorem spec_RoundUpEdge.calls (k : Nat) (A0 : Option Addr) (c0 : Nat) (l0 : List (S49)) (a1 : Int) (r1 : Int) (r2 : Int) (w : World) (rA : Kd.C k49 w A0 l0.length l0) (sA : l0.length ≤ c0) (h : spec_RoundUpEdge.f k l0 a1 = some (r1, r2)) :
  Calls Try.prog 19 #[.slice A0 l0.length c0, .int .i64 a1] w fun e w' => e = .returned (.tuple #[.int .i64 r1, .int .i64 r2]) ∧ Below w.heap.size w w' := by
 have mA := zQ rA
 have nA := zQ sA
 clear rA sA
 have HB := zQ (Below.refl w.heap.size w)
 have H := h; unfold spec_RoundUpEdge.f at H
 clear h
 replace H := zob H; obtain ⟨LA, A3, H⟩ := H
 by_cases c4 : LA = 0
 ·rw [if_pos c4] at H
  have NA : (LA == 0) = true := beq_iff_eq.mpr c4; have PA : (LA != 0) = false := bne_eq_false_iff_eq.mpr c4; clear c4; replace H := zob H; obtain ⟨cB, A5, H⟩ := H; replace H := zob H; obtain ⟨pB, A6, H⟩ := H
  simp only [Option.some.injEq, Prod.mk.injEq] at H
  obtain ⟨rfl, rfl⟩ := H
  go_enter Try.func19, Try.ntmps19
  go_wp2_with (first | ((with_reducible refine zgc 47 ?_); refine zgo (some 9) Try.func47 #[.slice A0 l0.length c0, .int .i64 a1] ?_; (with_reducible refine (spec_l13Edge.calls k _ _ l0 a1 LA _ ?side1 nA.out A3.out).mono ?_); (case side1 => repeat (first | exact mA.out | (with_reducible refine Kd.C_alloc ?_ _) | (with_reducible refine Kd.C_drewN ?_ _) | (with_reducible refine Kd.C_drew ?_))); rintro e w7 ⟨rfl, hb⟩; refine ⟨_, rfl, ?_⟩; replace HB := zbs HB.out hb; (try clear hb)) | ((with_reducible refine zgc 49 ?_); refine zgo (some 15) Try.func49 #[.slice A0 l0.length c0, .int .i64 a1] ?_; (with_reducible refine (spec_l13Square.calls _ _ l0 a1 cB _ (zC mA.out HB.out) nA.out A5.out).mono ?_); rintro e w8 ⟨rfl, hb⟩; refine ⟨_, rfl, ?_⟩; replace HB := zbs HB.out hb; (try clear hb)) | ((with_reducible refine zgc 48 ?_); refine zgo (some 16) Try.func48 #[.int .i64 cB] ?_; (with_reducible refine (spec_l13Root.calls k cB pB _ A6.out).mono ?_); rintro e w' ⟨rfl, ⟨nd, rfl⟩⟩; refine ⟨_, rfl, ?_⟩))
  go_ret2
  exact ⟨zE, zB HB.out⟩
 ·rw [if_neg c4] at H
  have NA : (LA == 0) = false := beq_eq_false_iff_ne.mpr c4; have PA : (LA != 0) = true := bne_iff_ne.mpr c4
  simp only [Option.some.injEq, Prod.mk.injEq] at H
  obtain ⟨rfl, rfl⟩ := H
  go_enter Try.func19, Try.ntmps19
  go_wp2_with (first | ((with_reducible refine zgc 47 ?_); refine zgo (some 9) Try.func47 #[.slice A0 l0.length c0, .int .i64 a1] ?_; (with_reducible refine (spec_l13Edge.calls k _ _ l0 a1 LA _ ?side1 nA.out A3.out).mono ?_); (case side1 => repeat (first | exact mA.out | (with_reducible refine Kd.C_alloc ?_ _) | (with_reducible refine Kd.C_drewN ?_ _) | (with_reducible refine Kd.C_drew ?_))); rintro e w9 ⟨rfl, hb⟩; refine ⟨_, rfl, ?_⟩; replace HB := zbs HB.out hb; (try clear hb)))
  go_ret2
  exact ⟨zE, zB HB.out⟩

def impl_SquareOfEdge.f (k : Nat) (l0 : List (S49)) (a1 : Int) : Option (Int × Int) := (impl_edgeCode.f k l0 a1).bind fun KA => (if KA = 0 then ((impl_squareOfEdge.f l0 a1).bind fun oB => (some (oB, 0))) else (some (0, KA)))
theorem impl_SquareOfEdge.calls (k : Nat) (A0 : Option Addr) (c0 : Nat) (l0 : List (S49)) (a1 : Int) (r1 : Int) (r2 : Int) (w : World) (rA : Kd.C k49 w A0 l0.length l0) (sA : l0.length ≤ c0) (h : impl_SquareOfEdge.f k l0 a1 = some (r1, r2)) :
  Calls Try.prog 20 #[.slice A0 l0.length c0, .int .i64 a1] w fun e w' => e = .returned (.tuple #[.int .i64 r1, .int .i64 r2]) ∧ Below w.heap.size w w' := by
 have mA := zQ rA
 have nA := zQ sA
 clear rA sA
 have HB := zQ (Below.refl w.heap.size w)
 have H := h; unfold impl_SquareOfEdge.f at H
 clear h
 replace H := zob H; obtain ⟨KA, A3, H⟩ := H
 by_cases c4 : KA = 0
 ·rw [if_pos c4] at H
  have NA : (KA == 0) = true := beq_iff_eq.mpr c4; have PA : (KA != 0) = false := bne_eq_false_iff_eq.mpr c4; clear c4; replace H := zob H; obtain ⟨oB, A5, H⟩ := H
  simp only [Option.some.injEq, Prod.mk.injEq] at H
  obtain ⟨rfl, rfl⟩ := H
  go_enter Try.func20, Try.ntmps20
  go_wp2_with (first | ((with_reducible refine zgc 45 ?_); refine zgo (some 9) Try.func45 #[.slice A0 l0.length c0, .int .i64 a1] ?_; (with_reducible refine (impl_edgeCode.calls k _ _ l0 a1 KA _ ?side1 nA.out A3.out).mono ?_); (case side1 => repeat (first | exact mA.out | (with_reducible refine Kd.C_alloc ?_ _) | (with_reducible refine Kd.C_drewN ?_ _) | (with_reducible refine Kd.C_drew ?_))); rintro e w6 ⟨rfl, hb⟩; refine ⟨_, rfl, ?_⟩; replace HB := zbs HB.out hb; (try clear hb)) | ((with_reducible refine zgc 46 ?_); refine zgo (some 15) Try.func46 #[.slice A0 l0.length c0, .int .i64 a1] ?_; (with_reducible refine (impl_squareOfEdge.calls _ _ l0 a1 oB _ (zC mA.out HB.out) nA.out A5.out).mono ?_); rintro e w7 ⟨rfl, hb⟩; refine ⟨_, rfl, ?_⟩; replace HB := zbs HB.out hb; (try clear hb)))
  go_ret2
  exact ⟨zE, zB HB.out⟩
 ·rw [if_neg c4] at H
  have NA : (KA == 0) = false := beq_eq_false_iff_ne.mpr c4; have PA : (KA != 0) = true := bne_iff_ne.mpr c4
  simp only [Option.some.injEq, Prod.mk.injEq] at H
  obtain ⟨rfl, rfl⟩ := H
  go_enter Try.func20, Try.ntmps20
  go_wp2_with (first | ((with_reducible refine zgc 45 ?_); refine zgo (some 9) Try.func45 #[.slice A0 l0.length c0, .int .i64 a1] ?_; (with_reducible refine (impl_edgeCode.calls k _ _ l0 a1 KA _ ?side1 nA.out A3.out).mono ?_); (case side1 => repeat (first | exact mA.out | (with_reducible refine Kd.C_alloc ?_ _) | (with_reducible refine Kd.C_drewN ?_ _) | (with_reducible refine Kd.C_drew ?_))); rintro e w8 ⟨rfl, hb⟩; refine ⟨_, rfl, ?_⟩; replace HB := zbs HB.out hb; (try clear hb)))
  go_ret2
  exact ⟨zE, zB HB.out⟩

def spec_SquareOfEdge.f (k : Nat) (l0 : List (S49)) (a1 : Int) : Option (Int × Int) := (spec_l13Edge.f k l0 a1).bind fun JA => (if JA = 0 then ((spec_l13Square.f l0 a1).bind fun nB => (some (nB, 0))) else (some (0, JA)))
theorem spec_SquareOfEdge.calls (k : Nat) (A0 : Option Addr) (c0 : Nat) (l0 : List (S49)) (a1 : Int) (r1 : Int) (r2 : Int) (w : World) (rA : Kd.C k49 w A0 l0.length l0) (sA : l0.length ≤ c0) (h : spec_SquareOfEdge.f k l0 a1 = some (r1, r2)) :
  Calls Try.prog 21 #[.slice A0 l0.length c0, .int .i64 a1] w fun e w' => e = .returned (.tuple #[.int .i64 r1, .int .i64 r2]) ∧ Below w.heap.size w w' := by
 have mA := zQ rA
 have nA := zQ sA
 clear rA sA
 have HB := zQ (Below.refl w.heap.size w)
 have H := h; unfold spec_SquareOfEdge.f at H
 clear h
 replace H := zob H; obtain ⟨JA, A3, H⟩ := H
 by_cases c4 : JA = 0
 ·rw [if_pos c4] at H
  have NA : (JA == 0) = true := beq_iff_eq.mpr c4; have PA : (JA != 0) = false := bne_eq_false_iff_eq.mpr c4; clear c4; replace H := zob H; obtain ⟨nB, A5, H⟩ := H
  simp only [Option.some.injEq, Prod.mk.injEq] at H
  obtain ⟨rfl, rfl⟩ := H
  go_enter Try.func21, Try.ntmps21
  go_wp2_with (first | ((with_reducible refine zgc 47 ?_); refine zgo (some 9) Try.func47 #[.slice A0 l0.length c0, .int .i64 a1] ?_; (with_reducible refine (spec_l13Edge.calls k _ _ l0 a1 JA _ ?side1 nA.out A3.out).mono ?_); (case side1 => repeat (first | exact mA.out | (with_reducible refine Kd.C_alloc ?_ _) | (with_reducible refine Kd.C_drewN ?_ _) | (with_reducible refine Kd.C_drew ?_))); rintro e w6 ⟨rfl, hb⟩; refine ⟨_, rfl, ?_⟩; replace HB := zbs HB.out hb; (try clear hb)) | ((with_reducible refine zgc 49 ?_); refine zgo (some 15) Try.func49 #[.slice A0 l0.length c0, .int .i64 a1] ?_; (with_reducible refine (spec_l13Square.calls _ _ l0 a1 nB _ (zC mA.out HB.out) nA.out A5.out).mono ?_); rintro e w7 ⟨rfl, hb⟩; refine ⟨_, rfl, ?_⟩; replace HB := zbs HB.out hb; (try clear hb)))
  go_ret2
  exact ⟨zE, zB HB.out⟩
 ·rw [if_neg c4] at H
  have NA : (JA == 0) = false := beq_eq_false_iff_ne.mpr c4; have PA : (JA != 0) = true := bne_iff_ne.mpr c4
  simp only [Option.some.injEq, Prod.mk.injEq] at H
  obtain ⟨rfl, rfl⟩ := H
  go_enter Try.func21, Try.ntmps21
  go_wp2_with (first | ((with_reducible refine zgc 47 ?_); refine zgo (some 9) Try.func47 #[.slice A0 l0.length c0, .int .i64 a1] ?_; (with_reducible refine (spec_l13Edge.calls k _ _ l0 a1 JA _ ?side1 nA.out A3.out).mono ?_); (case side1 => repeat (first | exact mA.out | (with_reducible refine Kd.C_alloc ?_ _) | (with_reducible refine Kd.C_drewN ?_ _) | (with_reducible refine Kd.C_drew ?_))); rintro e w8 ⟨rfl, hb⟩; refine ⟨_, rfl, ?_⟩; replace HB := zbs HB.out hb; (try clear hb)))
  go_ret2
  exact ⟨zE, zB HB.out⟩

def impl_LongestEdge.l0 : Nat → List (S49) → Int → Int → Int → Option (Int × Int)
 | 0, _, _, _, _ => none
 | k + 1, x0, x4, x10, x11 => if x11 < x10 then ((impl_squareOfEdge.f x0 x11).bind fun bB => ((impl_squareOfEdge.f x0 x4).bind fun aB => (if bB > aB then (impl_LongestEdge.l0 k x0 x11 x10 (wrap64 (x11 + 1))) else (impl_LongestEdge.l0 k x0 x4 x10 (wrap64 (x11 + 1)))))) else (some (x4, 0))
def impl_LongestEdge.f (k : Nat) (l0 : List (S49)) : Option (Int × Int) := (impl_ValidSail.f k l0).bind fun mB => (if mB = true then (impl_LongestEdge.l0 k l0 0 (l0.length : Int) 0) else (some (0, 1)))
theorem impl_LongestEdge.calls (k : Nat) (A0 : Option Addr) (c0 : Nat) (l0 : List (S49)) (r1 : Int) (r2 : Int) (w : World) (rA : Kd.C k49 w A0 l0.length l0) (sA : l0.length ≤ c0) (h : impl_LongestEdge.f k l0 = some (r1, r2)) :
  Calls Try.prog 22 #[.slice A0 l0.length c0] w fun e w' => e = .returned (.tuple #[.int .i64 r1, .int .i64 r2]) ∧ Below w.heap.size w w' := by
 have mA := zQ rA
 have nA := zQ sA
 clear rA sA
 have HB := zQ (Below.refl w.heap.size w)
 have H := h; unfold impl_LongestEdge.f at H
 clear h
 replace H := zob H; obtain ⟨mB, A2, H⟩ := H
 by_cases c3 : mB = true
 ·subst c3
  rw [if_pos rfl] at H; have H' := zQ H; clear H
  go_enter Try.func22, Try.ntmps22
  go_wp2_with (first | ((with_reducible refine zgc 31 ?_); refine zgo (some 7) Try.func31 #[.slice A0 l0.length c0] ?_; (with_reducible refine (impl_ValidSail.calls k _ _ l0 true _ ?side1 nA.out A2.out).mono ?_); (case side1 => repeat (first | exact mA.out | (with_reducible refine Kd.C_alloc ?_ _) | (with_reducible refine Kd.C_drewN ?_ _) | (with_reducible refine Kd.C_drew ?_))); rintro e w4 ⟨rfl, hb⟩; refine ⟨_, rfl, ?_⟩; replace HB := zbs HB.out hb; (try clear hb)))
  go_loopg [4, 11] k (fun kq v4 bD w' => ∃ (xA : Int) (yA : Int), v4 = .int .i64 xA ∧ bD = .int .i64 yA ∧ Aside0 (impl_LongestEdge.l0 kq l0 xA (l0.length : Int) yA = some (r1, r2)) ∧ Aside0 (kq ≤ k) ∧ Aside0 (Below w.heap.size w w'))
  case atStart => exact ⟨(0), (0), (zF), (zF), H', ⟨Nat.le_refl _⟩, ⟨zB HB.out⟩⟩
  case round =>
   clear H'; (try clear c2); (try clear p2); (try clear c3); obtain ⟨xA, yA, rfl, rfl, HA, SA, HB⟩ := hrel
   cases gk with
   | zero => exact absurd HA.out (by simp [impl_LongestEdge.l0])
   | succ k1 =>
    have H := HA.out; clear HA
    simp only [impl_LongestEdge.l0] at H
    by_cases c5 : yA < (l0.length : Int)
    ·rw [if_pos c5] at H
     have eB := decide_eq_true c5; clear c5; replace H := zob H; obtain ⟨bB, A6, H⟩ := H; replace H := zob H; obtain ⟨aB, A7, H⟩ := H
     by_cases c8 : bB > aB
     ·rw [if_pos c8] at H
      have RA := decide_eq_true c8; clear c8; have H' := zQ H; clear H
      go_wp2_with (first | ((with_reducible refine zgc 46 ?_); refine zgo (some 16) Try.func46 #[.slice A0 l0.length c0, .int .i64 yA] ?_; (with_reducible refine (impl_squareOfEdge.calls _ _ l0 yA bB _ (zC mA.out HB.out) nA.out A6.out).mono ?_); rintro e w9 ⟨rfl, hb⟩; refine ⟨_, rfl, ?_⟩; replace HB := zbs HB.out hb; (try clear hb)) | ((with_reducible refine zgc 46 ?_); refine zgo (some 19) Try.func46 #[.slice A0 l0.length c0, .int .i64 xA] ?_; (with_reducible refine (impl_squareOfEdge.calls _ _ l0 xA aB _ (zC mA.out HB.out) nA.out A7.out).mono ?_); rintro e yC ⟨rfl, hb⟩; refine ⟨_, rfl, ?_⟩; replace HB := zbs HB.out hb; (try clear hb)))
      go_roundg k1
      case measure => have := SA.out; omega
      case rel => exact ⟨(yA), (wrap64 (yA + 1)), (zF), (zF), H', ⟨by have := SA.out; omega⟩, ⟨zB HB.out⟩⟩
     ·rw [if_neg c8] at H
      have RA := decide_eq_false c8; clear c8; have H' := zQ H; clear H
      go_wp2_with (first | ((with_reducible refine zgc 46 ?_); refine zgo (some 16) Try.func46 #[.slice A0 l0.length c0, .int .i64 yA] ?_; (with_reducible refine (impl_squareOfEdge.calls _ _ l0 yA bB _ (zC mA.out HB.out) nA.out A6.out).mono ?_); rintro e TB ⟨rfl, hb⟩; refine ⟨_, rfl, ?_⟩; replace HB := zbs HB.out hb; (try clear hb)) | ((with_reducible refine zgc 46 ?_); refine zgo (some 19) Try.func46 #[.slice A0 l0.length c0, .int .i64 xA] ?_; (with_reducible refine (impl_squareOfEdge.calls _ _ l0 xA aB _ (zC mA.out HB.out) nA.out A7.out).mono ?_); rintro e VA ⟨rfl, hb⟩; refine ⟨_, rfl, ?_⟩; replace HB := zbs HB.out hb; (try clear hb)))
      go_roundg k1
      case measure => have := SA.out; omega
      case rel => exact ⟨(xA), (wrap64 (yA + 1)), (zF), (zF), H', ⟨by have := SA.out; omega⟩, ⟨zB HB.out⟩⟩
    ·rw [if_neg c5] at H
     have eB := decide_eq_false c5; clear c5
     simp only [Option.some.injEq, Prod.mk.injEq] at H
     obtain ⟨rfl, rfl⟩ := H
     go_wp2
     go_ret2
     exact ⟨zE, zB HB.out⟩
 ·replace c3 := Bool.eq_false_iff.mpr c3
  subst c3
  rw [if_neg Bool.false_ne_true] at H
  simp only [Option.some.injEq, Prod.mk.injEq] at H
  obtain ⟨rfl, rfl⟩ := H
  go_enter Try.func22, Try.ntmps22
  go_wp2_with (first | ((with_reducible refine zgc 31 ?_); refine zgo (some 7) Try.func31 #[.slice A0 l0.length c0] ?_; (with_reducible refine (impl_ValidSail.calls k _ _ l0 false _ ?side1 nA.out A2.out).mono ?_); (case side1 => repeat (first | exact mA.out | (with_reducible refine Kd.C_alloc ?_ _) | (with_reducible refine Kd.C_drewN ?_ _) | (with_reducible refine Kd.C_drew ?_))); rintro e aD ⟨rfl, hb⟩; refine ⟨_, rfl, ?_⟩; replace HB := zbs HB.out hb; (try clear hb)))
  go_ret2
  exact ⟨zE, zB HB.out⟩

def spec_LongestEdge.l0 : Nat → List (S49) → Int → Int → Option (Int × Int)
 | 0, _, _, _ => none
 | k + 1, x0, x4, x5 => if x5 < (x0.length : Int) then ((spec_l13Square.f x0 x5).bind fun ZA => ((spec_l13Square.f x0 x4).bind fun YA => (if ZA > YA then (spec_LongestEdge.l0 k x0 x5 (wrap64 (x5 + 1))) else (spec_LongestEdge.l0 k x0 x4 (wrap64 (x5 + 1)))))) else (some (x4, 0))
def spec_LongestEdge.f (k : Nat) (l0 : List (S49)) : Option (Int × Int) := (spec_l13Ok.f k l0).bind fun lB => (if lB = true then (spec_LongestEdge.l0 k l0 0 1) else (some (0, 1)))
theorem spec_LongestEdge.calls (k : Nat) (A0 : Option Addr) (c0 : Nat) (l0 : List (S49)) (r1 : Int) (r2 : Int) (w : World) (rA : Kd.C k49 w A0 l0.length l0) (sA : l0.length ≤ c0) (h : spec_LongestEdge.f k l0 = some (r1, r2)) :
  Calls Try.prog 23 #[.slice A0 l0.length c0] w fun e w' => e = .returned (.tuple #[.int .i64 r1, .int .i64 r2]) ∧ Below w.heap.size w w' := by
 have mA := zQ rA
 have nA := zQ sA
 clear rA sA
 have HB := zQ (Below.refl w.heap.size w)
 have H := h; unfold spec_LongestEdge.f at H
 clear h
 replace H := zob H; obtain ⟨lB, A2, H⟩ := H
 by_cases c3 : lB = true
 ·subst c3
  rw [if_pos rfl] at H; have H' := zQ H; clear H
  go_enter Try.func23, Try.ntmps23
  go_wp2_with (first | ((with_reducible refine zgc 25 ?_); refine zgo (some 7) Try.func25 #[.slice A0 l0.length c0] ?_; (with_reducible refine (spec_l13Ok.calls k _ _ l0 true _ ?side1 nA.out A2.out).mono ?_); (case side1 => repeat (first | exact mA.out | (with_reducible refine Kd.C_alloc ?_ _) | (with_reducible refine Kd.C_drewN ?_ _) | (with_reducible refine Kd.C_drew ?_))); rintro e w4 ⟨rfl, hb⟩; refine ⟨_, rfl, ?_⟩; replace HB := zbs HB.out hb; (try clear hb)))
  go_loopg [4, 5] k (fun kq v4 v5 w' => ∃ (xA : Int) (IA : Int), v4 = .int .i64 xA ∧ v5 = .int .i64 IA ∧ Aside0 (spec_LongestEdge.l0 kq l0 xA IA = some (r1, r2)) ∧ Aside0 (kq ≤ k) ∧ Aside0 (Below w.heap.size w w'))
  case atStart => exact ⟨(0), (1), (zF), (zF), H', ⟨Nat.le_refl _⟩, ⟨zB HB.out⟩⟩
  case round =>
   clear H'; (try clear c2); (try clear p2); (try clear c3); obtain ⟨xA, IA, rfl, rfl, HA, SA, HB⟩ := hrel
   cases gk with
   | zero => exact absurd HA.out (by simp [spec_LongestEdge.l0])
   | succ k1 =>
    have H := HA.out; clear HA
    simp only [spec_LongestEdge.l0] at H
    by_cases c5 : IA < (l0.length : Int)
    ·rw [if_pos c5] at H
     have eB := decide_eq_true c5; clear c5; replace H := zob H; obtain ⟨ZA, A6, H⟩ := H; replace H := zob H; obtain ⟨YA, A7, H⟩ := H
     by_cases c8 : ZA > YA
     ·rw [if_pos c8] at H
      have RA := decide_eq_true c8; clear c8; have H' := zQ H; clear H
      go_wp2_with (first | ((with_reducible refine zgc 49 ?_); refine zgo (some 17) Try.func49 #[.slice A0 l0.length c0, .int .i64 IA] ?_; (with_reducible refine (spec_l13Square.calls _ _ l0 IA ZA _ (zC mA.out HB.out) nA.out A6.out).mono ?_); rintro e w9 ⟨rfl, hb⟩; refine ⟨_, rfl, ?_⟩; replace HB := zbs HB.out hb; (try clear hb)) | ((with_reducible refine zgc 49 ?_); refine zgo (some 20) Try.func49 #[.slice A0 l0.length c0, .int .i64 xA] ?_; (with_reducible refine (spec_l13Square.calls _ _ l0 xA YA _ (zC mA.out HB.out) nA.out A7.out).mono ?_); rintro e yC ⟨rfl, hb⟩; refine ⟨_, rfl, ?_⟩; replace HB := zbs HB.out hb; (try clear hb)))
      go_roundg k1
      case measure => have := SA.out; omega
      case rel => exact ⟨(IA), (wrap64 (IA + 1)), (zF), (zF), H', ⟨by have := SA.out; omega⟩, ⟨zB HB.out⟩⟩
     ·rw [if_neg c8] at H
      have RA := decide_eq_false c8; clear c8; have H' := zQ H; clear H
      go_wp2_with (first | ((with_reducible refine zgc 49 ?_); refine zgo (some 17) Try.func49 #[.slice A0 l0.length c0, .int .i64 IA] ?_; (with_reducible refine (spec_l13Square.calls _ _ l0 IA ZA _ (zC mA.out HB.out) nA.out A6.out).mono ?_); rintro e TB ⟨rfl, hb⟩; refine ⟨_, rfl, ?_⟩; replace HB := zbs HB.out hb; (try clear hb)) | ((with_reducible refine zgc 49 ?_); refine zgo (some 20) Try.func49 #[.slice A0 l0.length c0, .int .i64 xA] ?_; (with_reducible refine (spec_l13Square.calls _ _ l0 xA YA _ (zC mA.out HB.out) nA.out A7.out).mono ?_); rintro e VA ⟨rfl, hb⟩; refine ⟨_, rfl, ?_⟩; replace HB := zbs HB.out hb; (try clear hb)))
      go_roundg k1
      case measure => have := SA.out; omega
      case rel => exact ⟨(xA), (wrap64 (IA + 1)), (zF), (zF), H', ⟨by have := SA.out; omega⟩, ⟨zB HB.out⟩⟩
    ·rw [if_neg c5] at H
     have eB := decide_eq_false c5; clear c5
     simp only [Option.some.injEq, Prod.mk.injEq] at H
     obtain ⟨rfl, rfl⟩ := H
     go_wp2
     go_ret2
     exact ⟨zE, zB HB.out⟩
 ·replace c3 := Bool.eq_false_iff.mpr c3
  subst c3
  rw [if_neg Bool.false_ne_true] at H
  simp only [Option.some.injEq, Prod.mk.injEq] at H
  obtain ⟨rfl, rfl⟩ := H
  go_enter Try.func23, Try.ntmps23
  go_wp2_with (first | ((with_reducible refine zgc 25 ?_); refine zgo (some 7) Try.func25 #[.slice A0 l0.length c0] ?_; (with_reducible refine (spec_l13Ok.calls k _ _ l0 false _ ?side1 nA.out A2.out).mono ?_); (case side1 => repeat (first | exact mA.out | (with_reducible refine Kd.C_alloc ?_ _) | (with_reducible refine Kd.C_drewN ?_ _) | (with_reducible refine Kd.C_drew ?_))); rintro e aD ⟨rfl, hb⟩; refine ⟨_, rfl, ?_⟩; replace HB := zbs HB.out hb; (try clear hb)))
  go_ret2
  exact ⟨zE, zB HB.out⟩

def laws_f6floor.f (a0_0 : Int) (a0_1 : Int) : Option (Int) := if a0_1 = 0 then (none) else (some (wrap64 (Int.tdiv a0_0 a0_1)))
theorem laws_f6floor.calls (a0_0 : Int) (a0_1 : Int) (r : Int) (w : World) (h : laws_f6floor.f a0_0 a0_1 = some r) :
  Calls Try.prog 24 #[.agg #[.int .i64 a0_0, .int .i64 a0_1]] w fun e w' => e = .returned (.int .i64 r) ∧ Below w.heap.size w w' := by
 have cD := Try.underlying25
 have HB := zQ (Below.refl w.heap.size w)
 have H := h; unfold laws_f6floor.f at H
 clear h
 by_cases c2 : a0_1 = 0
 ·rw [if_pos c2] at H
  exact absurd H (by simp)
 ·rw [if_neg c2] at H
  have KB : (a0_1 == 0) = false := beq_eq_false_iff_ne.mpr c2; have hD : (a0_1 != 0) = true := bne_iff_ne.mpr c2; obtain rfl := Option.some.inj H
  go_enter Try.func24, Try.ntmps24
  go_wp2_with (first | ((with_reducible refine zd 1 ?_); refine zbx (N := 1) (cs := #[.int .i64 a0_0, .int .i64 a0_1]) (t := 25) ?_; intro ZC hg w3 tA hb; have RB := zQ (tA); have NB := zgz hg HB.out; have PB := NB; replace HB := zbs HB.out hb; clear hb tA hg; obtain ⟨IC, HC, GC, FC⟩ := zy2 RB.out))
  go_ret
  exact ⟨zE, zB2 HB.out PB.out⟩

end
end Go.Proofs.Ytchngbjpjbahiaa.PSailw

