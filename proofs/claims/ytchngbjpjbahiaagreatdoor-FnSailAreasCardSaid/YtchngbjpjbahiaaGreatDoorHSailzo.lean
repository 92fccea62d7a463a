import Derived.Test.YtchngbjpjbahiaaGreatDoorHSailz0
import Derived.Test.YtchngbjpjbahiaaGreatDoorHSailze
import Derived.Test.YtchngbjpjbahiaaGreatDoorHSailzm
namespace Go.Proofs.YtchngbjpjbahiaaGreatDoor.PSailz
noncomputable section
open Go.RowKit Go.Proofs.YtchngbjpjbahiaaGreatDoorW.PrintWords Go.Proofs.YtchngbjpjbahiaaGreatDoorW.PrintLast Go.Proofs.YtchngbjpjbahiaaGreatDoorW.PrintMore
attribute [local go_sem] max2_int min2_int max_two min_two max_three min_three max_four min_four   -- for this text's walks alone
set_option linter.unusedVariables false
set_option linter.unusedSimpArgs false
set_option maxHeartbeats 8000000
set_option maxRecDepth 100000

def stringslite_HasPrefix.f (a0 : ByteArray) (a1 : ByteArray) : Option (Bool) := if (a0.size : Int) ≥ (a1.size : Int) then (if 0 ≤ (a1.size : Int) then (if (a1.size : Int) ≤ (a0.size : Int) then (some ((a0.extract 0 ((a1.size : Int) : Int).toNat).toList == a1.toList)) else (none)) else (none)) else (some false)
theorem stringslite_HasPrefix.calls (a0 : ByteArray) (a1 : ByteArray) (r : Bool) (w : World) (h : stringslite_HasPrefix.f a0 a1 = some r) :
  Calls Tryz.prog 94 #[.string a0, .string a1] w fun e w' => e = .returned (.bool r) ∧ Drawn0 w w' := by
 have H := h; unfold stringslite_HasPrefix.f at H
 clear h
 by_cases c3 : (a0.size : Int) ≥ (a1.size : Int)
 ·rw [if_pos c3] at H
  have c3b0 := decide_eq_true c3; have c3b1 : decide (a1.size ≤ a0.size) = true := decide_eq_true (Int.ofNat_le.mp c3); clear c3
  by_cases c4 : 0 ≤ (a1.size : Int)
  ·rw [if_pos c4] at H
   have c4b0 := eq_true c4; have c4b1 := decide_eq_true c4; clear c4
   by_cases c5 : (a1.size : Int) ≤ (a0.size : Int)
   ·rw [if_pos c5] at H
    have c5b0 := eq_true c5; have c5b1 := decide_eq_true c5; clear c5; obtain rfl := Option.some.inj H
    go_enter Tryz.func94, Tryz.ntmps94
    go_wp2
    go_ret
    exact ⟨zF, by repeat (first | exact Drawn0.refl _ | apply Drawn0.step)⟩
   ·rw [if_neg c5] at H
    exact absurd H (by simp)
  ·rw [if_neg c4] at H
   exact absurd H (by simp)
 ·rw [if_neg c3] at H
  have c3b0 := decide_eq_false c3; have c3b1 : decide (a1.size ≤ a0.size) = false := decide_eq_false (fun h => c3 (Int.ofNat_le.mpr h)); clear c3; obtain rfl := Option.some.inj H
  go_enter Tryz.func94, Tryz.ntmps94
  go_wp2
  go_ret
  exact ⟨zF, by repeat (first | exact Drawn0.refl _ | apply Drawn0.step)⟩

def stringslite_TrimPrefix.f (a0 : ByteArray) (a1 : ByteArray) : Option (ByteArray) := (stringslite_HasPrefix.f a0 a1).bind fun t415 => (if t415 = true then (if 0 ≤ (a1.size : Int) then (if (a1.size : Int) ≤ (a0.size : Int) then (some (a0.extract ((a1.size : Int) : Int).toNat a0.size)) else (none)) else (none)) else (some a0))
theorem stringslite_TrimPrefix.calls (a0 : ByteArray) (a1 : ByteArray) (r : ByteArray) (w : World) (h : stringslite_TrimPrefix.f a0 a1 = some r) :
  Calls Tryz.prog 78 #[.string a0, .string a1] w fun e w' => e = .returned (.string r) ∧ Drawn0 w w' := by
 have H := h; unfold stringslite_TrimPrefix.f at H
 clear h
 replace H := zob H; obtain ⟨t415, A3, H⟩ := H
 by_cases c4 : t415 = true
 ·subst c4
  rw [if_pos rfl] at H
  by_cases c5 : 0 ≤ (a1.size : Int)
  ·rw [if_pos c5] at H
   have c5b0 := eq_true c5; have c5b1 := decide_eq_true c5; clear c5
   by_cases c6 : (a1.size : Int) ≤ (a0.size : Int)
   ·rw [if_pos c6] at H
    have c6b0 := eq_true c6; have c6b1 := decide_eq_true c6; clear c6; obtain rfl := Option.some.inj H
    go_enter Tryz.func78, Tryz.ntmps78
    go_wp2_with (first | ((with_reducible refine zgc 94 ?_); refine goesL_ (some 7) rfl rfl Tryz.func94 (by kernel_rfl) rfl #[.string a0, .string a1] rfl zM ?_; (with_reducible refine (stringslite_HasPrefix.calls a0 a1 true _ A3.out).mono ?_); rintro e w' ⟨rfl, ⟨nd, rfl⟩⟩; refine ⟨_, rfl, ?_⟩))
    go_ret
    exact ⟨zF, by repeat (first | exact Drawn0.refl _ | apply Drawn0.step)⟩
   ·rw [if_neg c6] at H
    exact absurd H (by simp)
  ·rw [if_neg c5] at H
   exact absurd H (by simp)
 ·replace c4 := Bool.eq_false_iff.mpr c4
  subst c4
  rw [if_neg Bool.false_ne_true] at H; obtain rfl := Option.some.inj H
  go_enter Tryz.func78, Tryz.ntmps78
  go_wp2_with (first | ((with_reducible refine zgc 94 ?_); refine goesL_ (some 7) rfl rfl Tryz.func94 (by kernel_rfl) rfl #[.string a0, .string a1] rfl zM ?_; (with_reducible refine (stringslite_HasPrefix.calls a0 a1 false _ A3.out).mono ?_); rintro e w' ⟨rfl, ⟨nd, rfl⟩⟩; refine ⟨_, rfl, ?_⟩))
  go_ret
  exact ⟨zF, by repeat (first | exact Drawn0.refl _ | apply Drawn0.step)⟩

def strings_TrimPrefix.f (a0 : ByteArray) (a1 : ByteArray) : Option (ByteArray) := (stringslite_TrimPrefix.f a0 a1).bind fun t416 => (some t416)
theorem strings_TrimPrefix.calls (a0 : ByteArray) (a1 : ByteArray) (r : ByteArray) (w : World) (h : strings_TrimPrefix.f a0 a1 = some r) :
  Calls Tryz.prog 63 #[.string a0, .string a1] w fun e w' => e = .returned (.string r) ∧ Drawn0 w w' := by
 have H := h; unfold strings_TrimPrefix.f at H
 clear h
 replace H := zob H; obtain ⟨t416, A3, H⟩ := H
 obtain rfl := Option.some.inj H
 go_enter Tryz.func63, Tryz.ntmps63
 go_wp2_with (first | ((with_reducible refine zgc 78 ?_); refine goesL_ (some 7) rfl rfl Tryz.func78 (by kernel_rfl) rfl #[.string a0, .string a1] rfl zM ?_; (with_reducible refine (stringslite_TrimPrefix.calls a0 a1 t416 _ A3.out).mono ?_); rintro e w' ⟨rfl, ⟨nd, rfl⟩⟩; refine ⟨_, rfl, ?_⟩))
 go_ret
 exact ⟨zF, by repeat (first | exact Drawn0.refl _ | apply Drawn0.step)⟩

mutual
def impl_ReadDecimal.j0 : Nat → ByteArray → ByteArray → Bool → Option (Int × Bool)
 | 0, _, _, _ => none
 | k + 1, x0, x4, x16 => if x16 = true then (some (0, false)) else (impl_ReadDecimal.l0 k x0 x4 0 0)
def impl_ReadDecimal.l0 : Nat → ByteArray → ByteArray → Int → Int → Option (Int × Bool)
 | 0, _, _, _, _ => none
 | k + 1, x0, x4, x5, x6 => if x6 < (x4.size : Int) then (if 0 ≤ x6 then (if (bt x4 x6) < 48 then (some (0, false)) else (if (bt x4 x6) > 57 then (some (0, false)) else (impl_ReadDecimal.l0 k x0 x4 (wrap64 ((wrap64 (10 * x5)) + (((bt x4 x6) - 48) % 256))) (wrap64 (x6 + 1))))) else (none)) else (if (x4.size : Int) < (x0.size : Int) then ((impl_Decimal.f k (wrap64 (-x5))).bind fun t418 => (if t418.toList = x0.toList then (some (wrap64 (-x5), true)) else (some (0, false)))) else ((impl_Decimal.f k x5).bind fun t419 => (if t419.toList = x0.toList then (some (x5, true)) else (some (0, false)))))
end
def impl_ReadDecimal.f (k : Nat) (a0 : ByteArray) : Option (Int × Bool) := (strings_TrimPrefix.f a0 (⟨#[45]⟩ : ByteArray)).bind fun t417 => (if (t417.size : Int) < 1 then (impl_ReadDecimal.j0 k a0 t417 true) else (impl_ReadDecimal.j0 k a0 t417 (decide ((t417.size : Int) > 18))))
theorem impl_ReadDecimal.calls (k : Nat) (a0 : ByteArray) (r1 : Int) (r2 : Bool) (w : World) (hT : TabW w) (h : impl_ReadDecimal.f k a0 = some (r1, r2)) :
  Calls Tryz.prog 42 #[.string a0] w fun e w' => e = .returned (.tuple #[.int .i64 r1, .bool r2]) ∧ Below w.heap.size w w' := by
 have HT := zQ hT
 clear hT
 have HB := zQ (Below.refl w.heap.size w)
 have H := h; unfold impl_ReadDecimal.f at H
 clear h
 replace H := zob H; obtain ⟨t417, A2, H⟩ := H
 have HC3 := zQ H
 clear H
 go_enter Tryz.func42, Tryz.ntmps42
 go_upto_region 2 with (first | ((with_reducible refine zgc 63 ?_); refine goesL_ (some 8) rfl rfl Tryz.func63 (by kernel_rfl) rfl #[.string a0, .string (⟨#[45]⟩ : ByteArray)] rfl zM ?_; (with_reducible refine (strings_TrimPrefix.calls a0 (⟨#[45]⟩ : ByteArray) t417 _ A2.out).mono ?_); rintro e w' ⟨rfl, ⟨nd, rfl⟩⟩; refine ⟨_, rfl, ?_⟩))
 (try simp only [Act.put, List.setIfInBounds_toArray, List.set_cons_zero, List.set_cons_succ])
 go_cut [16] (fun v16 wc => ∃ (kq : Nat) (x16_2 : Bool), v16 = .bool x16_2 ∧ Aside0 (impl_ReadDecimal.j0 kq a0 t417 x16_2 = some (r1, r2)) ∧ Aside0 (kq ≤ k) ∧ Aside0 (Below w.heap.size w wc))
 case first =>
  have H := HC3.out; clear HC3
  by_cases c4 : (t417.size : Int) < 1
  ·rw [if_pos c4] at H
   have c4b0 := decide_eq_true c4; have c4b1 : decide (t417.size < 1) = true := decide_eq_true (by omega); clear c4
   (first | rw [c4b0] | (simp only [i64_w, i32_w]; rw [c4b0]) | skip)
   have H' := zQ H; clear H
   go_wp2
   go_meet
   case rel => exact ⟨_, (true), (zF), H', ⟨by first | omega | exact Nat.le_refl _⟩, ⟨zB HB.out⟩⟩
  ·rw [if_neg c4] at H
   have c4b0 := decide_eq_false c4; have c4b1 : decide (t417.size < 1) = false := decide_eq_false (by omega); clear c4
   (first | rw [c4b0] | (simp only [i64_w, i32_w]; rw [c4b0]) | skip)
   have H' := zQ H; clear H
   go_wp2
   go_meet
   case rel => exact ⟨_, (decide ((t417.size : Int) > 18)), (zF), H', ⟨by first | omega | exact Nat.le_refl _⟩, ⟨zB HB.out⟩⟩
 case rest =>
  clear HC3; (try clear p2); (try clear c4); (try clear c4b0); (try clear c4b1); obtain ⟨kq, x16_2, rfl, HA, HJ2, HB⟩ := hcut
  cases kq with
  | zero => exact absurd HA.out (by simp [impl_ReadDecimal.j0])
  | succ kj2 =>
   have H := HA.out; clear HA
   simp only [impl_ReadDecimal.j0] at H
   by_cases c5 : x16_2 = true
   ·subst c5
    rw [if_pos rfl] at H
    simp only [Option.some.injEq, Prod.mk.injEq] at H
    obtain ⟨rfl, rfl⟩ := H
    go_wp2
    go_ret2
    exact ⟨zE, zB HB.out⟩
   ·replace c5 := Bool.eq_false_iff.mpr c5
    subst c5
    rw [if_neg Bool.false_ne_true] at H; have H' := zQ H; clear H
    go_wp2
    go_loopg [5, 6] kj2 (fun kq v5 v6 w' => ∃ (x5_2 : Int) (x6_2 : Int), v5 = .int .i64 x5_2 ∧ v6 = .int .i64 x6_2 ∧ Aside0 (impl_ReadDecimal.l0 kq a0 t417 x5_2 x6_2 = some (r1, r2)) ∧ Aside0 (kq ≤ kj2) ∧ Aside0 (Below w.heap.size w w'))
    case atStart => exact ⟨(0), (0), (zF), (zF), H', ⟨Nat.le_refl _⟩, ⟨zB HB.out⟩⟩
    case round =>
     clear H'; (try clear p2); (try clear c4); (try clear c4b0); (try clear c4b1); (try clear c5); (try clear p2); obtain ⟨x5_2, x6_2, rfl, rfl, HA, HK2, HB⟩ := hrel
     cases gk with
     | zero => exact absurd HA.out (by simp [impl_ReadDecimal.l0])
     | succ k2 =>
      have H := HA.out; clear HA
      simp only [impl_ReadDecimal.l0] at H
      by_cases c6 : x6_2 < (t417.size : Int)
      ·rw [if_pos c6] at H
       have c6b0 := decide_eq_true c6; clear c6
       by_cases c7 : 0 ≤ x6_2
       ·rw [if_pos c7] at H
        have c7b0 := decide_eq_true c7; clear c7
        by_cases c9 : (bt t417 x6_2) < 48
        ·rw [if_pos c9] at H
         have c9b0 := decide_eq_true c9; clear c9
         simp only [Option.some.injEq, Prod.mk.injEq] at H
         obtain ⟨rfl, rfl⟩ := H; have p8 : 0 ≤ (x6_2 : Int) := zD; have q8 : x6_2 < (t417.size : Int) := zD; have hx8 := bt_at t417 x6_2; replace p8 := eq_true p8; replace q8 := eq_true q8
         go_wp2
         go_ret2
         exact ⟨zE, zB HB.out⟩
        ·rw [if_neg c9] at H
         have c9b0 := decide_eq_false c9; clear c9
         by_cases c11 : (bt t417 x6_2) > 57
         ·rw [if_pos c11] at H
          have c11b0 := decide_eq_true c11; clear c11
          simp only [Option.some.injEq, Prod.mk.injEq] at H
          obtain ⟨rfl, rfl⟩ := H; have p8 : 0 ≤ (x6_2 : Int) := zD; have q8 : x6_2 < (t417.size : Int) := zD; have hx8 := bt_at t417 x6_2; replace p8 := eq_true p8; replace q8 := eq_true q8; have p10 : 0 ≤ (x6_2 : Int) := zD; have q10 : x6_2 < (t417.size : Int) := zD; have hx10 := bt_at t417 x6_2; replace p10 := eq_true p10; replace q10 := eq_true q10
          go_wp2
          go_ret2
          exact ⟨zE, zB HB.out⟩
         ·rw [if_neg c11] at H
          have c11b0 := decide_eq_false c11; clear c11; have H' := zQ H; clear H; have p8 : 0 ≤ (x6_2 : Int) := zD; have q8 : x6_2 < (t417.size : Int) := zD; have hx8 := bt_at t417 x6_2; replace p8 := eq_true p8; replace q8 := eq_true q8; have p10 : 0 ≤ (x6_2 : Int) := zD; have q10 : x6_2 < (t417.size : Int) := zD; have hx10 := bt_at t417 x6_2; replace p10 := eq_true p10; replace q10 := eq_true q10; have p12 : 0 ≤ (x6_2 : Int) := zD; have q12 : x6_2 < (t417.size : Int) := zD; have hx12 := bt_at t417 x6_2; replace p12 := eq_true p12; replace q12 := eq_true q12
          go_wp2
          go_roundg k2
          case measure => have := HJ2.out; have := HK2.out; omega
          case rel => exact ⟨(wrap64 ((wrap64 (10 * x5_2)) + (((bt t417 x6_2) - 48) % 256))), (wrap64 (x6_2 + 1)), (zF), (zF), H', ⟨by have := HJ2.out; have := HK2.out; omega⟩, ⟨zB HB.out⟩⟩
       ·rw [if_neg c7] at H
        exact absurd H (by simp)
      ·rw [if_neg c6] at H
       have c6b0 := decide_eq_false c6; clear c6
       by_cases c13 : (t417.size : Int) < (a0.size : Int)
       ·rw [if_pos c13] at H
        have c13b0 := decide_eq_true c13; have c13b1 : decide (t417.size < a0.size) = true := decide_eq_true (Int.ofNat_lt.mp c13); clear c13; replace H := zob H; obtain ⟨t418, A14, H⟩ := H
        by_cases c15 : t418.toList = a0.toList
        ·rw [if_pos c15] at H
         have c15b0 : (t418.toList == a0.toList) = true := beq_iff_eq.mpr c15; have c15b1 : (t418.toList != a0.toList) = false := bne_eq_false_iff_eq.mpr c15; clear c15
         simp only [Option.some.injEq, Prod.mk.injEq] at H
         obtain ⟨rfl, rfl⟩ := H
         go_wp2_with (first | ((with_reducible refine zgc 38 ?_); refine goesL_ (some 49) rfl rfl Tryz.func38 (by kernel_rfl) rfl #[.int .i64 (wrap64 (-x5_2))] rfl zM ?_; (with_reducible refine (impl_Decimal.calls k2 (wrap64 (-x5_2)) t418 _ (HT.out.at_ (zB HB.out)) A14.out).mono ?_); rintro e w16 ⟨rfl, hb⟩; refine ⟨_, rfl, ?_⟩; replace HB := zbs HB.out hb; (try clear hb)))
         go_ret2
         exact ⟨zE, zB HB.out⟩
        ·rw [if_neg c15] at H
         have c15b0 : (t418.toList == a0.toList) = false := beq_eq_false_iff_ne.mpr c15; have c15b1 : (t418.toList != a0.toList) = true := bne_iff_ne.mpr c15
         simp only [Option.some.injEq, Prod.mk.injEq] at H
         obtain ⟨rfl, rfl⟩ := H
         go_wp2_with (first | ((with_reducible refine zgc 38 ?_); refine goesL_ (some 49) rfl rfl Tryz.func38 (by kernel_rfl) rfl #[.int .i64 (wrap64 (-x5_2))] rfl zM ?_; (with_reducible refine (impl_Decimal.calls k2 (wrap64 (-x5_2)) t418 _ (HT.out.at_ (zB HB.out)) A14.out).mono ?_); rintro e w17 ⟨rfl, hb⟩; refine ⟨_, rfl, ?_⟩; replace HB := zbs HB.out hb; (try clear hb)))
         go_ret2
         exact ⟨zE, zB HB.out⟩
       ·rw [if_neg c13] at H
        have c13b0 := decide_eq_false c13; have c13b1 : decide (t417.size < a0.size) = false := decide_eq_false (fun h => c13 (Int.ofNat_lt.mpr h)); clear c13; replace H := zob H; obtain ⟨t419, A18, H⟩ := H
        by_cases c19 : t419.toList = a0.toList
        ·rw [if_pos c19] at H
         have c19b0 : (t419.toList == a0.toList) = true := beq_iff_eq.mpr c19; have c19b1 : (t419.toList != a0.toList) = false := bne_eq_false_iff_eq.mpr c19; clear c19
         simp only [Option.some.injEq, Prod.mk.injEq] at H
         obtain ⟨rfl, rfl⟩ := H
         go_wp2_with (first | ((with_reducible refine zgc 38 ?_); refine goesL_ (some 49) rfl rfl Tryz.func38 (by kernel_rfl) rfl #[.int .i64 x5_2] rfl zM ?_; (with_reducible refine (impl_Decimal.calls k2 x5_2 t419 _ (HT.out.at_ (zB HB.out)) A18.out).mono ?_); rintro e w20 ⟨rfl, hb⟩; refine ⟨_, rfl, ?_⟩; replace HB := zbs HB.out hb; (try clear hb)))
         go_ret2
         exact ⟨zE, zB HB.out⟩
        ·rw [if_neg c19] at H
         have c19b0 : (t419.toList == a0.toList) = false := beq_eq_false_iff_ne.mpr c19; have c19b1 : (t419.toList != a0.toList) = true := bne_iff_ne.mpr c19
         simp only [Option.some.injEq, Prod.mk.injEq] at H
         obtain ⟨rfl, rfl⟩ := H
         go_wp2_with (first | ((with_reducible refine zgc 38 ?_); refine goesL_ (some 49) rfl rfl Tryz.func38 (by kernel_rfl) rfl #[.int .i64 x5_2] rfl zM ?_; (with_reducible refine (impl_Decimal.calls k2 x5_2 t419 _ (HT.out.at_ (zB HB.out)) A18.out).mono ?_); rintro e w21 ⟨rfl, hb⟩; refine ⟨_, rfl, ?_⟩; replace HB := zbs HB.out hb; (try clear hb)))
         go_ret2
         exact ⟨zE, zB HB.out⟩

def impl_ReadSail.l0 : Nat → List (S47) → List ByteArray → Int → Int → Option ((List (S47)) × Bool)
 | 0, _, _, _, _ => none
 | k + 1, x4, x16, x17, x18 => if x18 < x17 then (if 0 ≤ x18 then (if x18 < (x16.length : Int) then ((strings_Cut.f k (rdOf ByteArray.empty x16 x18) (⟨#[44]⟩ : ByteArray)).bind fun bt428 => ((impl_ReadDecimal.f k bt428.1).bind fun bt431 => ((impl_ReadDecimal.f k bt428.2.1).bind fun bt433 => (if bt428.2.2 = true then (if bt431.2 = true then (if bt433.2 = true then (if x4.length < 8796093022208 then (impl_ReadSail.l0 k (x4 ++ [(⟨bt431.1, bt433.1⟩ : S47)]) x16 x17 (wrap64 (x18 + 1))) else (none)) else (some (([] : List (S47)), false))) else (some (([] : List (S47)), false))) else (some (([] : List (S47)), false)))))) else (none)) else (none)) else ((impl_ValidSail.f k x4).bind fun t426 => (if t426 = true then (some (x4, true)) else (some (([] : List (S47)), false))))
def impl_ReadSail.f (k : Nat) (a0 : ByteArray) : Option ((List (S47)) × Bool) := (strings_Split.f k a0 (⟨#[32]⟩ : ByteArray)).bind fun t423 => (impl_ReadSail.l0 k (([] : List (S47))) t423 (t423.length : Int) 0)
theorem impl_ReadSail.calls (k : Nat) (a0 : ByteArray) (r1 : List (S47)) (r2 : Bool) (w : World) (hT : TabW w) (hM : LenW w) (h : impl_ReadSail.f k a0 = some (r1, r2)) :
  Calls Tryz.prog 14 #[.string a0] w fun e w' => ∃ v0_ : Value, e = .returned (.tuple #[v0_, .bool r2]) ∧ Kd.R k47 47 w' w.heap.size (fun _ => True) v0_ r1 ∧ Below w.heap.size w w' := by
 have HT := zQ hT
 have HM := zQ hM
 clear hT hM
 have hu47 := Tryz.underlying47
 have HB := zQ (Below.refl w.heap.size w)
 have H := h; unfold impl_ReadSail.f at H
 clear h
 obtain ⟨y420, hy420⟩ : ∃ y_ : List (S47), y_ = (([] : List (S47))) := ⟨_, rfl⟩
 replace H : ((strings_Split.f k a0 (⟨#[32]⟩ : ByteArray)).bind fun t423 => (impl_ReadSail.l0 k y420 t423 (t423.length : Int) 0)) = some (r1, r2) := zh H
 have Ny420 := zQ hy420
 clear hy420
 replace H := zob H; obtain ⟨t423, A2, H⟩ := H
 have H' := zQ H
 clear H
 go_enter Tryz.func14, Tryz.ntmps14
 go_wp2_with (first | ((with_reducible refine zd 14 ?_); refine Kd.R_lit k47 _ 47 ?hg (N := 14) ?hd (xs := ([] : List (S47))) (inner := []) (ok := fun _ => True) (okp := fun _ => True) ?hr ?hp (fun _ hk => hk) trivial (Below.refl _ _) (Nat.le_refl _) (by simp) ?_; (case hd => rfl); (case hg => rfl); (case hr => first | (go_simp; done) | (go_simp; rfl)); (case hp => exact (Reps.none _ _)); intro v421 w3 ho4 hb hg_ hnew_; clear hg_ hnew_; (first | rw [← Ny420.out] at ho4 | (simp only [Int.reduceToNat] at ho4; rw [← Ny420.out] at ho4)); have HO422 := zQ (Kd.R_lower ho4 (below_size (zB HB.out))); replace HB := zbs HB.out hb; clear hb ho4) | ((with_reducible refine zgc 40 ?_); refine goesL_ (some 16) rfl rfl Tryz.func40 (by kernel_rfl) rfl #[.string a0, .string (⟨#[32]⟩ : ByteArray)] rfl zM ?_; (with_reducible refine (strings_Split.calls k a0 (⟨#[32]⟩ : ByteArray) t423 _ (HM.out.at_ (zB HB.out)) A2.out).mono ?_); rintro e w5 ⟨v424, rfl, ho0, hb⟩; refine ⟨_, rfl, ?_⟩; have HO425 := zQ (Kd.R_lower ho0 (below_size (zB HB.out))); replace HO422 := zRb HO422.out hb; replace HB := zbs HB.out hb; (try clear hb); (try clear ho0); obtain ⟨Ao6, co6, eo6⟩ := Kd.R_slice HO425.out; subst eo6))
 go_loopg [4, 18] k (fun kq v4 v18 w' => ∃ (x4_1 : List (S47)) (x18_1 : Int), v18 = .int .i64 x18_1 ∧ Aside0 (impl_ReadSail.l0 kq x4_1 t423 (t423.length : Int) x18_1 = some (r1, r2)) ∧ Aside0 (kq ≤ k) ∧ Aside0 (Kd.R k47 47 w' w.heap.size (fun _ => True) v4 x4_1) ∧ Aside0 (Kd.R Kd.string 9 w' w.heap.size (fun _ => True) (.slice Ao6 t423.length co6) t423) ∧ Aside0 (Below w.heap.size w w'))
 case atStart => exact ⟨(y420), (0), (zF), H', ⟨Nat.le_refl _⟩, ⟨zR HO422.out⟩, ⟨zR HO425.out⟩, ⟨zB HB.out⟩⟩
 case round =>
  clear H'; (try clear c1); (try clear p2); (try clear c4); obtain ⟨x4_1, x18_1, rfl, HA, HK1, HO_4, HO_16, HB⟩ := hrel
  cases gk with
  | zero => exact absurd HA.out (by simp [impl_ReadSail.l0])
  | succ k1 =>
   have H := HA.out; clear HA
   simp only [impl_ReadSail.l0] at H
   by_cases c7 : x18_1 < (t423.length : Int)
   ·rw [if_pos c7] at H
    have c7b0 := decide_eq_true c7; clear c7
    by_cases c8 : 0 ≤ x18_1
    ·rw [if_pos c8] at H
     have c8b0 := decide_eq_true c8; clear c8
     by_cases c9 : x18_1 < (t423.length : Int)
     ·rw [if_pos c9] at H
      have c9b0 := decide_eq_true c9; clear c9; replace H := zob H; obtain ⟨⟨t428, t429, t430⟩, A10, H⟩ := H; replace H := zob H; obtain ⟨⟨t431, t432⟩, A11, H⟩ := H; replace H := zob H; obtain ⟨⟨t433, t434⟩, A12, H⟩ := H
      by_cases c13 : t430 = true
      ·subst c13
       rw [if_pos rfl] at H
       by_cases c14 : t432 = true
       ·subst c14
        rw [if_pos rfl] at H
        by_cases c15 : t434 = true
        ·subst c15
         rw [if_pos rfl] at H
         by_cases c16 : x4_1.length < 8796093022208
         ·rw [if_pos c16] at H
          have LMc16 := zQ c16; clear c16; obtain ⟨y435, hy435⟩ : ∃ y_ : List (S47), y_ = (x4_1 ++ [(⟨t431, t433⟩ : S47)]) := ⟨_, rfl⟩; replace H : (impl_ReadSail.l0 k1 y435 t423 (t423.length : Int) (wrap64 (x18_1 + 1))) = some (r1, r2) := zh H; have Ny435 := zQ hy435; clear hy435; have H' := zQ H; clear H; have p427 : 0 ≤ (x18_1 : Int) := zD; have q427 : x18_1 < (t423.length : Int) := zD; obtain ⟨ad427, e427, hx427_0⟩ := Kd.at_string (Kd.R_reads' HO_16.out).2.2 x18_1 p427 q427
          cases e427
          replace p427 := eq_true p427; replace q427 := eq_true q427
          go_wp2_with (first | ((with_reducible refine zgc 41 ?_); refine goesL_ (some 24) rfl rfl Tryz.func41 (by kernel_rfl) rfl #[.string (rdOf ByteArray.empty t423 x18_1), .string (⟨#[44]⟩ : ByteArray)] rfl zM ?_; (with_reducible refine (strings_Cut.calls k1 (rdOf ByteArray.empty t423 x18_1) (⟨#[44]⟩ : ByteArray) t428 t429 true _ (HM.out.at_ (zB HB.out)) A10.out).mono ?_); rintro e w17 ⟨rfl, hb⟩; refine ⟨_, rfl, ?_⟩; replace HO_4 := zRb HO_4.out hb; replace HO_16 := zRb HO_16.out hb; replace HB := zbs HB.out hb; (try clear hb)) | ((with_reducible refine zgc 42 ?_); refine goesL_ (some 30) rfl rfl Tryz.func42 (by kernel_rfl) rfl #[.string t428] rfl zM ?_; (with_reducible refine (impl_ReadDecimal.calls k1 t428 t431 true _ (HT.out.on_ (zB HB.out)) A11.out).mono ?_); rintro e w18 ⟨rfl, hb⟩; refine ⟨_, rfl, ?_⟩; replace HO_4 := zRb HO_4.out hb; replace HO_16 := zRb HO_16.out hb; replace HB := zbs HB.out hb; (try clear hb)) | ((with_reducible refine zgc 42 ?_); refine goesL_ (some 35) rfl rfl Tryz.func42 (by kernel_rfl) rfl #[.string t429] rfl zM ?_; (with_reducible refine (impl_ReadDecimal.calls k1 t429 t433 true _ (HT.out.on_ (zB HB.out)) A12.out).mono ?_); rintro e w19 ⟨rfl, hb⟩; refine ⟨_, rfl, ?_⟩; replace HO_4 := zRb HO_4.out hb; replace HO_16 := zRb HO_16.out hb; replace HB := zbs HB.out hb; (try clear hb)) | ((with_reducible refine gate_builtin (b := .append) (xs := #[.tmp 48, .tmp 52]) rfl ?_); at_builtin; refine Kd.R_append k47 (w0 := w) w.heap.size rfl (.tmp 48) (.tmp 52) 24 47 (.agg #[(.int .i64 0), (.int .i64 0)]) 16 rfl Tryz.underlying24 info47 rfl (by decide) (by omega) u4 x4_1 (⟨t431, t433⟩ : S47) [.int .i64 t431, .int .i64 t433] (fun _ => True) (fun _ => False) rfl rfl ?aP (fun _ hk => hk.elim) ?aF ?aO ?aB ?aS ?aL ?_; (case aP => exact k47_mkM _ _ _ (⟨t431, t433⟩ : S47)); (case aB => exact (zB HB.out)); (case aF => exact (fun _ _ => trivial)); (case aO => exact (zR HO_4.out)); (case aS => exact (below_size (zB HB.out))); (case aL => have := LMc16.out; omega); intro v436 w20 ho hb hg hat; rw [← Ny435.out] at ho; have HO437 := zQ (ho); replace HO_16 := zQ (Kd.R_over' (zR HO_16.out) (Kd.R_typed (zR HO_4.out)) (by decide) hg); replace HB := zQ (hb); clear HO_4 ho hb hg hat))
          go_roundg k1
          case measure => have := HK1.out; omega
          case rel => exact ⟨(y435), (wrap64 (x18_1 + 1)), (zF), H', ⟨by have := HK1.out; omega⟩, ⟨zR HO437.out⟩, ⟨zR HO_16.out⟩, ⟨zB HB.out⟩⟩
         ·rw [if_neg c16] at H
          exact absurd H (by simp)
        ·replace c15 := Bool.eq_false_iff.mpr c15
         subst c15
         rw [if_neg Bool.false_ne_true] at H
         simp only [Option.some.injEq, Prod.mk.injEq] at H
         obtain ⟨rfl, rfl⟩ := H; have p427 : 0 ≤ (x18_1 : Int) := zD; have q427 : x18_1 < (t423.length : Int) := zD; obtain ⟨ad427, e427, hx427_0⟩ := Kd.at_string (Kd.R_reads' HO_16.out).2.2 x18_1 p427 q427
         cases e427
         replace p427 := eq_true p427; replace q427 := eq_true q427
         go_wp2_with (first | ((with_reducible refine zgc 41 ?_); refine goesL_ (some 24) rfl rfl Tryz.func41 (by kernel_rfl) rfl #[.string (rdOf ByteArray.empty t423 x18_1), .string (⟨#[44]⟩ : ByteArray)] rfl zM ?_; (with_reducible refine (strings_Cut.calls k1 (rdOf ByteArray.empty t423 x18_1) (⟨#[44]⟩ : ByteArray) t428 t429 true _ (HM.out.at_ (zB HB.out)) A10.out).mono ?_); rintro e w21 ⟨rfl, hb⟩; refine ⟨_, rfl, ?_⟩; replace HO_4 := zRb HO_4.out hb; replace HO_16 := zRb HO_16.out hb; replace HB := zbs HB.out hb; (try clear hb)) | ((with_reducible refine zgc 42 ?_); refine goesL_ (some 30) rfl rfl Tryz.func42 (by kernel_rfl) rfl #[.string t428] rfl zM ?_; (with_reducible refine (impl_ReadDecimal.calls k1 t428 t431 true _ (HT.out.on_ (zB HB.out)) A11.out).mono ?_); rintro e w22 ⟨rfl, hb⟩; refine ⟨_, rfl, ?_⟩; replace HO_4 := zRb HO_4.out hb; replace HO_16 := zRb HO_16.out hb; replace HB := zbs HB.out hb; (try clear hb)) | ((with_reducible refine zgc 42 ?_); refine goesL_ (some 35) rfl rfl Tryz.func42 (by kernel_rfl) rfl #[.string t429] rfl zM ?_; (with_reducible refine (impl_ReadDecimal.calls k1 t429 t433 false _ (HT.out.on_ (zB HB.out)) A12.out).mono ?_); rintro e w23 ⟨rfl, hb⟩; refine ⟨_, rfl, ?_⟩; replace HO_4 := zRb HO_4.out hb; replace HO_16 := zRb HO_16.out hb; replace HB := zbs HB.out hb; (try clear hb)))
         go_ret2
         exact ⟨_, zE, by first | exact Kd.R_nil _ _ _ _ _ | exact Kd.N_nil _ _ _ _ _ | exact Kd.V_nil _ _ _ _ _ | exact Kd.Q_nil _ _ _ _ _ | exact Kd.S_nil _ _ _ _ _, zB HB.out⟩
       ·replace c14 := Bool.eq_false_iff.mpr c14
        subst c14
        rw [if_neg Bool.false_ne_true] at H
        simp only [Option.some.injEq, Prod.mk.injEq] at H
        obtain ⟨rfl, rfl⟩ := H; have p427 : 0 ≤ (x18_1 : Int) := zD; have q427 : x18_1 < (t423.length : Int) := zD; obtain ⟨ad427, e427, hx427_0⟩ := Kd.at_string (Kd.R_reads' HO_16.out).2.2 x18_1 p427 q427
        cases e427
        replace p427 := eq_true p427; replace q427 := eq_true q427
        go_wp2_with (first | ((with_reducible refine zgc 41 ?_); refine goesL_ (some 24) rfl rfl Tryz.func41 (by kernel_rfl) rfl #[.string (rdOf ByteArray.empty t423 x18_1), .string (⟨#[44]⟩ : ByteArray)] rfl zM ?_; (with_reducible refine (strings_Cut.calls k1 (rdOf ByteArray.empty t423 x18_1) (⟨#[44]⟩ : ByteArray) t428 t429 true _ (HM.out.at_ (zB HB.out)) A10.out).mono ?_); rintro e w24 ⟨rfl, hb⟩; refine ⟨_, rfl, ?_⟩; replace HO_4 := zRb HO_4.out hb; replace HO_16 := zRb HO_16.out hb; replace HB := zbs HB.out hb; (try clear hb)) | ((with_reducible refine zgc 42 ?_); refine goesL_ (some 30) rfl rfl Tryz.func42 (by kernel_rfl) rfl #[.string t428] rfl zM ?_; (with_reducible refine (impl_ReadDecimal.calls k1 t428 t431 false _ (HT.out.on_ (zB HB.out)) A11.out).mono ?_); rintro e w25 ⟨rfl, hb⟩; refine ⟨_, rfl, ?_⟩; replace HO_4 := zRb HO_4.out hb; replace HO_16 := zRb HO_16.out hb; replace HB := zbs HB.out hb; (try clear hb)) | ((with_reducible refine zgc 42 ?_); refine goesL_ (some 35) rfl rfl Tryz.func42 (by kernel_rfl) rfl #[.string t429] rfl zM ?_; (with_reducible refine (impl_ReadDecimal.calls k1 t429 t433 t434 _ (HT.out.on_ (zB HB.out)) A12.out).mono ?_); rintro e w26 ⟨rfl, hb⟩; refine ⟨_, rfl, ?_⟩; replace HO_4 := zRb HO_4.out hb; replace HO_16 := zRb HO_16.out hb; replace HB := zbs HB.out hb; (try clear hb)))
        go_ret2
        exact ⟨_, zE, by first | exact Kd.R_nil _ _ _ _ _ | exact Kd.N_nil _ _ _ _ _ | exact Kd.V_nil _ _ _ _ _ | exact Kd.Q_nil _ _ _ _ _ | exact Kd.S_nil _ _ _ _ _, zB HB.out⟩
      ·replace c13 := Bool.eq_false_iff.mpr c13
       subst c13
       rw [if_neg Bool.false_ne_true] at H
       simp only [Option.some.injEq, Prod.mk.injEq] at H
       obtain ⟨rfl, rfl⟩ := H; have p427 : 0 ≤ (x18_1 : Int) := zD; have q427 : x18_1 < (t423.length : Int) := zD; obtain ⟨ad427, e427, hx427_0⟩ := Kd.at_string (Kd.R_reads' HO_16.out).2.2 x18_1 p427 q427
       cases e427
       replace p427 := eq_true p427; replace q427 := eq_true q427
       go_wp2_with (first | ((with_reducible refine zgc 41 ?_); refine goesL_ (some 24) rfl rfl Tryz.func41 (by kernel_rfl) rfl #[.string (rdOf ByteArray.empty t423 x18_1), .string (⟨#[44]⟩ : ByteArray)] rfl zM ?_; (with_reducible refine (strings_Cut.calls k1 (rdOf ByteArray.empty t423 x18_1) (⟨#[44]⟩ : ByteArray) t428 t429 false _ (HM.out.at_ (zB HB.out)) A10.out).mono ?_); rintro e w27 ⟨rfl, hb⟩; refine ⟨_, rfl, ?_⟩; replace HO_4 := zRb HO_4.out hb; replace HO_16 := zRb HO_16.out hb; replace HB := zbs HB.out hb; (try clear hb)) | ((with_reducible refine zgc 42 ?_); refine goesL_ (some 30) rfl rfl Tryz.func42 (by kernel_rfl) rfl #[.string t428] rfl zM ?_; (with_reducible refine (impl_ReadDecimal.calls k1 t428 t431 t432 _ (HT.out.on_ (zB HB.out)) A11.out).mono ?_); rintro e w28 ⟨rfl, hb⟩; refine ⟨_, rfl, ?_⟩; replace HO_4 := zRb HO_4.out hb; replace HO_16 := zRb HO_16.out hb; replace HB := zbs HB.out hb; (try clear hb)) | ((with_reducible refine zgc 42 ?_); refine goesL_ (some 35) rfl rfl Tryz.func42 (by kernel_rfl) rfl #[.string t429] rfl zM ?_; (with_reducible refine (impl_ReadDecimal.calls k1 t429 t433 t434 _ (HT.out.on_ (zB HB.out)) A12.out).mono ?_); rintro e w29 ⟨rfl, hb⟩; refine ⟨_, rfl, ?_⟩; replace HO_4 := zRb HO_4.out hb; replace HO_16 := zRb HO_16.out hb; replace HB := zbs HB.out hb; (try clear hb)))
       go_ret2
       exact ⟨_, zE, by first | exact Kd.R_nil _ _ _ _ _ | exact Kd.N_nil _ _ _ _ _ | exact Kd.V_nil _ _ _ _ _ | exact Kd.Q_nil _ _ _ _ _ | exact Kd.S_nil _ _ _ _ _, zB HB.out⟩
     ·rw [if_neg c9] at H
      exact absurd H (by simp)
    ·rw [if_neg c8] at H
     exact absurd H (by simp)
   ·rw [if_neg c7] at H
    have c7b0 := decide_eq_false c7; clear c7; replace H := zob H; obtain ⟨t426, A30, H⟩ := H
    by_cases c31 : t426 = true
    ·subst c31
     rw [if_pos rfl] at H
     simp only [Option.some.injEq, Prod.mk.injEq] at H
     obtain ⟨rfl, rfl⟩ := H; obtain ⟨Ao32, co32, eo32⟩ := Kd.R_slice HO_4.out; subst eo32
     go_wp2_with (first | ((with_reducible refine zgc 23 ?_); refine goesL_ (some 56) rfl rfl Tryz.func23 (by kernel_rfl) rfl #[.slice Ao32 x4_1.length co32] rfl zM ?_; (with_reducible refine (impl_ValidSail.calls k1 _ _ x4_1 true _ ?side1 ((Kd.R_reads' HO_4.out).2.1) A30.out).mono ?_); (case side1 => exact zk (Kd.R_reads' HO_4.out).2.2); rintro e w33 ⟨rfl, hb⟩; refine ⟨_, rfl, ?_⟩; replace HO_4 := zRb HO_4.out hb; replace HO_16 := zRb HO_16.out hb; replace HB := zbs HB.out hb; (try clear hb)))
     go_ret2
     exact ⟨_, zE, zR HO_4.out, zB HB.out⟩
    ·replace c31 := Bool.eq_false_iff.mpr c31
     subst c31
     rw [if_neg Bool.false_ne_true] at H
     simp only [Option.some.injEq, Prod.mk.injEq] at H
     obtain ⟨rfl, rfl⟩ := H; obtain ⟨Ao34, co34, eo34⟩ := Kd.R_slice HO_4.out; subst eo34
     go_wp2_with (first | ((with_reducible refine zgc 23 ?_); refine goesL_ (some 56) rfl rfl Tryz.func23 (by kernel_rfl) rfl #[.slice Ao34 x4_1.length co34] rfl zM ?_; (with_reducible refine (impl_ValidSail.calls k1 _ _ x4_1 false _ ?side1 ((Kd.R_reads' HO_4.out).2.1) A30.out).mono ?_); (case side1 => exact zk (Kd.R_reads' HO_4.out).2.2); rintro e w35 ⟨rfl, hb⟩; refine ⟨_, rfl, ?_⟩; replace HO_4 := zRb HO_4.out hb; replace HO_16 := zRb HO_16.out hb; replace HB := zbs HB.out hb; (try clear hb)))
     go_ret2
     exact ⟨_, zE, by first | exact Kd.R_nil _ _ _ _ _ | exact Kd.N_nil _ _ _ _ _ | exact Kd.V_nil _ _ _ _ _ | exact Kd.Q_nil _ _ _ _ _ | exact Kd.S_nil _ _ _ _ _, zB HB.out⟩

end
end Go.Proofs.YtchngbjpjbahiaaGreatDoor.PSailz

