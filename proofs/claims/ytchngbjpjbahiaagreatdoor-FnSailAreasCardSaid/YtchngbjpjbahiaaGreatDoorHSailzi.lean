import Derived.Test.YtchngbjpjbahiaaGreatDoorHSailz0
import Derived.Test.YtchngbjpjbahiaaGreatDoorHSailzg
import Derived.Test.YtchngbjpjbahiaaGreatDoorHSailzh
namespace Go.Proofs.YtchngbjpjbahiaaGreatDoor.PSailz
noncomputable section
open Go.RowKit Go.Proofs.YtchngbjpjbahiaaGreatDoorW.PrintWords Go.Proofs.YtchngbjpjbahiaaGreatDoorW.PrintLast Go.Proofs.YtchngbjpjbahiaaGreatDoorW.PrintMore
attribute [local go_sem] max2_int min2_int max_two min_two max_three min_three max_four min_four   -- for this text's walks alone
set_option linter.unusedVariables false
set_option linter.unusedSimpArgs false
set_option maxHeartbeats 8000000
set_option maxRecDepth 100000

mutual
def spec_l13Ok.l0 : Nat → List (S47) → Int → Int → Option (Bool)
 | 0, _, _, _ => none
 | k + 1, x0, x3, x4 => if x4 < x3 then (if 0 ≤ x4 then (if x4 < (x0.length : Int) then ((spec_l00In.f ((rd_T47 x0 x4).f0) 0 2000).bind fun t330 => (if t330 = true then ((spec_l00In.f ((rd_T47 x0 x4).f1) 0 2000).bind fun t332 => (if t332 = true then (spec_l13Ok.l0 k x0 x3 (wrap64 (x4 + 1))) else (some false))) else (some false))) else (none)) else (none)) else (spec_l13Ok.l1 k x0 x3 0)
def spec_l13Ok.l1 : Nat → List (S47) → Int → Int → Option (Bool)
 | 0, _, _, _ => none
 | k + 1, x0, x3, x5 => if x5 < x3 then (if 0 ≤ x5 then (if x5 < (x0.length : Int) then (if x3 = 0 then (none) else (if 0 ≤ (Int.tmod (wrap64 (x5 + 1)) x3) then (if (Int.tmod (wrap64 (x5 + 1)) x3) < (x0.length : Int) then (if 0 ≤ (Int.tmod (wrap64 (x5 + 2)) x3) then (if (Int.tmod (wrap64 (x5 + 2)) x3) < (x0.length : Int) then ((spec_l13Cross.f ((rd_T47 x0 x5).f0) ((rd_T47 x0 x5).f1) ((rd_T47 x0 (Int.tmod (wrap64 (x5 + 1)) x3)).f0) ((rd_T47 x0 (Int.tmod (wrap64 (x5 + 1)) x3)).f1) ((rd_T47 x0 (Int.tmod (wrap64 (x5 + 2)) x3)).f0) ((rd_T47 x0 (Int.tmod (wrap64 (x5 + 2)) x3)).f1)).bind fun t339 => (if t339 = 0 then (some false) else (spec_l13Ok.l2 k x0 x3 x5 (wrap64 (x5 + 2)) ((rd_T47 x0 x5).f0) ((rd_T47 x0 x5).f1) ((rd_T47 x0 (Int.tmod (wrap64 (x5 + 1)) x3)).f0) ((rd_T47 x0 (Int.tmod (wrap64 (x5 + 1)) x3)).f1)))) else (none)) else (none)) else (none)) else (none))) else (none)) else (none)) else ((spec_l13Twice.f k x0).bind fun t333 => (some (decide (t333 > 0))))
def spec_l13Ok.l2 : Nat → List (S47) → Int → Int → Int → Int → Int → Int → Int → Option (Bool)
 | 0, _, _, _, _, _, _, _, _ => none
 | k + 1, x0, x3, x5, x8, x336000, x336001, x338000, x338001 => if x8 < x3 then (if x5 > 0 then (if 0 ≤ x8 then (if x8 < (x0.length : Int) then (if x3 = 0 then (none) else (if 0 ≤ (Int.tmod (wrap64 (x8 + 1)) x3) then (if (Int.tmod (wrap64 (x8 + 1)) x3) < (x0.length : Int) then ((spec_l13Meet.f k x336000 x336001 x338000 x338001 ((rd_T47 x0 x8).f0) ((rd_T47 x0 x8).f1) ((rd_T47 x0 (Int.tmod (wrap64 (x8 + 1)) x3)).f0) ((rd_T47 x0 (Int.tmod (wrap64 (x8 + 1)) x3)).f1)).bind fun t342 => (if t342 = true then (some false) else (spec_l13Ok.l2 k x0 x3 x5 (wrap64 (x8 + 1)) x336000 x336001 x338000 x338001))) else (none)) else (none))) else (none)) else (none)) else (if x8 < (wrap64 (x3 - 1)) then (if 0 ≤ x8 then (if x8 < (x0.length : Int) then (if x3 = 0 then (none) else (if 0 ≤ (Int.tmod (wrap64 (x8 + 1)) x3) then (if (Int.tmod (wrap64 (x8 + 1)) x3) < (x0.length : Int) then ((spec_l13Meet.f k x336000 x336001 x338000 x338001 ((rd_T47 x0 x8).f0) ((rd_T47 x0 x8).f1) ((rd_T47 x0 (Int.tmod (wrap64 (x8 + 1)) x3)).f0) ((rd_T47 x0 (Int.tmod (wrap64 (x8 + 1)) x3)).f1)).bind fun t345 => (if t345 = true then (some false) else (spec_l13Ok.l2 k x0 x3 x5 (wrap64 (x8 + 1)) x336000 x336001 x338000 x338001))) else (none)) else (none))) else (none)) else (none)) else (spec_l13Ok.l2 k x0 x3 x5 (wrap64 (x8 + 1)) x336000 x336001 x338000 x338001))) else (spec_l13Ok.l1 k x0 x3 (wrap64 (x5 + 1)))
end
def spec_l13Ok.f (k : Nat) (l0 : List (S47)) : Option (Bool) := (spec_l00In.f (l0.length : Int) 3 8).bind fun t328 => (if t328 = true then (spec_l13Ok.l0 k l0 (l0.length : Int) 0) else (some false))
def spec_l13Ok.T14 : Bool × List (List Nat × List Nat) := (true, [([], []), ([], []), ([], []), ([], []), ([3], [3]), ([], []), ([4, 5], [4, 5]), ([2, 6], [2, 6]), ([7], [7]), ([0, 1, 8], [0, 1, 8]), ([9], [9])])
def spec_l13Ok.B14 : List Nat := [0, 0, 0, 0, 8, 0, 56, 124, 252, 511, 1023]
theorem spec_l13Ok.tab14 : rtab .any (opsOf Tryz.f31 14) = spec_l13Ok.T14 := by kernel_rfl
theorem spec_l13Ok.bits14 : waitsOk spec_l13Ok.T14.2 spec_l13Ok.B14 = true := by kernel_rfl
def spec_l13Ok.T19 : Bool × List (List Nat × List Nat) := (true, [([], []), ([0], [0]), ([1], [1]), ([2], [2]), ([2], [2]), ([4, 2], [2, 4]), ([3, 5, 2], [2, 3, 5]), ([2, 6], [2, 6]), ([7, 2], [7]), ([8], [8]), ([8], [8]), ([8], [8]), ([8], [8]), ([11, 12, 8], [8, 11, 12]), ([13, 8], [8, 13]), ([8], [8]), ([8], [8]), ([16, 8], [8, 16]), ([8], [8]), ([17, 18, 8], [8, 17, 18]), ([15, 19, 8], [8, 15, 19]), ([20, 8], [8, 20]), ([9, 10, 14, 21, 8, 8], [8, 9, 10, 14, 21]), ([8, 22], [8, 22])])
def spec_l13Ok.B19 : List Nat := [0, 1, 3, 7, 7, 23, 63, 127, 255, 511, 511, 511, 511, 6655, 14847, 511, 511, 66047, 511, 459263, 1016319, 2064895, 4194303, 8388607]
theorem spec_l13Ok.tab19 : rtab .any (opsOf Tryz.f31 19) = spec_l13Ok.T19 := by kernel_rfl
theorem spec_l13Ok.bits19 : waitsOk spec_l13Ok.T19.2 spec_l13Ok.B19 = true := by kernel_rfl
theorem spec_l13Ok.calls (k : Nat) (A0 : Option Addr) (c0 : Nat) (l0 : List (S47)) (r : Bool) (w : World) (hr0 : Kd.C k47 w A0 l0.length l0) (hc0 : l0.length ≤ c0) (h : spec_l13Ok.f k l0 = some r) :
  Calls Tryz.prog 31 #[.slice A0 l0.length c0] w fun e w' => e = .returned (.bool r) ∧ Below w.heap.size w w' := by
 have hu47 := Tryz.underlying47
 have HR0 := zQ hr0
 have HC0 := zQ hc0
 clear hr0 hc0
 have HB := zQ (Below.refl w.heap.size w)
 have H := h; unfold spec_l13Ok.f at H
 clear h
 replace H := zob H; obtain ⟨t328, A2, H⟩ := H
 by_cases c3 : t328 = true
 ·subst c3
  rw [if_pos rfl] at H; have H' := zQ H; clear H
  go_enter Tryz.func31, Tryz.ntmps31
  go_wp2_with (first | ((with_reducible refine zgc 32 ?_); refine goesL_ (some 12) rfl rfl Tryz.func32 (by kernel_rfl) rfl #[.int .i64 (l0.length : Int), .int .i64 3, .int .i64 8] rfl zM ?_; (with_reducible refine (spec_l00In.calls (l0.length : Int) 3 8 true _ A2.out).mono ?_); rintro e w' ⟨rfl, ⟨nd, rfl⟩⟩; refine ⟨_, rfl, ?_⟩))
  go_loopg [4] k (fun kq v4 w' => ∃ (x4_1 : Int), v4 = .int .i64 x4_1 ∧ Aside0 (spec_l13Ok.l0 kq l0 (l0.length : Int) x4_1 = some r) ∧ Aside0 (kq ≤ k) ∧ Aside0 (Below w.heap.size w w'))
  case atStart => exact ⟨(0), (zF), H', ⟨Nat.le_refl _⟩, ⟨zB HB.out⟩⟩
  case round =>
   clear H'; (try clear p2); (try clear c3); obtain ⟨x4_1, rfl, HA, HK1, HB⟩ := hrel
   cases gk with
   | zero => exact absurd HA.out (by simp [spec_l13Ok.l0])
   | succ k1 =>
    have H := HA.out; clear HA
    simp only [spec_l13Ok.l0] at H
    by_cases c4 : x4_1 < (l0.length : Int)
    ·rw [if_pos c4] at H
     have c4b0 := decide_eq_true c4; clear c4
     by_cases c5 : 0 ≤ x4_1
     ·rw [if_pos c5] at H
      have c5b0 := decide_eq_true c5; clear c5
      by_cases c6 : x4_1 < (l0.length : Int)
      ·rw [if_pos c6] at H
       have c6b0 := decide_eq_true c6; clear c6; replace H := zob H; obtain ⟨t330, A7, H⟩ := H
       by_cases c8 : t330 = true
       ·subst c8
        rw [if_pos rfl] at H; replace H := zob H; obtain ⟨t332, A9, H⟩ := H
        by_cases c10 : t332 = true
        ·subst c10
         rw [if_pos rfl] at H; have H' := zQ H; clear H; have p329 : 0 ≤ (x4_1 : Int) := zD; have q329 : x4_1 < (l0.length : Int) := zD; obtain ⟨ad329, e329, hx329_0, hx329_1⟩ := at_T47 HR0.out x4_1 p329 q329
         cases e329
         replace hx329_0 := zw HB.out hx329_0; replace hx329_1 := zw HB.out hx329_1; replace p329 := eq_true p329; replace q329 := eq_true q329
         go_wp2_with (first | ((with_reducible refine zgc 32 ?_); refine goesL_ (some 24) rfl rfl Tryz.func32 (by kernel_rfl) rfl #[.int .i64 ((rd_T47 l0 x4_1).f0), .int .i64 0, .int .i64 2000] rfl zM ?_; (with_reducible refine (spec_l00In.calls ((rd_T47 l0 x4_1).f0) 0 2000 true _ A7.out).mono ?_); rintro e w' ⟨rfl, ⟨nd, rfl⟩⟩; refine ⟨_, rfl, ?_⟩; have p331 : 0 ≤ (x4_1 : Int) := zD; have q331 : x4_1 < (l0.length : Int) := zD; obtain ⟨ad331, e331, hx331_0, hx331_1⟩ := at_T47 HR0.out x4_1 p331 q331; obtain rfl : ad329 = ad331 := (by injection e331); replace hx331_0 := zw HB.out hx331_0; replace hx331_1 := zw HB.out hx331_1; replace p331 := eq_true p331; replace q331 := eq_true q331) | (go_at_call 32; (with_reducible refine (spec_l00In.calls ((rd_T47 l0 x4_1).f1) 0 2000 true _ A9.out).mono ?_); rintro e w' ⟨rfl, ⟨nd, rfl⟩⟩))
         go_roundg k1
         case measure => have := HK1.out; omega
         case rel => exact ⟨(wrap64 (x4_1 + 1)), (zF), H', ⟨by have := HK1.out; omega⟩, ⟨zB HB.out⟩⟩
        ·replace c10 := Bool.eq_false_iff.mpr c10
         subst c10
         rw [if_neg Bool.false_ne_true] at H; obtain rfl := Option.some.inj H; have p329 : 0 ≤ (x4_1 : Int) := zD; have q329 : x4_1 < (l0.length : Int) := zD; obtain ⟨ad329, e329, hx329_0, hx329_1⟩ := at_T47 HR0.out x4_1 p329 q329
         cases e329
         replace hx329_0 := zw HB.out hx329_0; replace hx329_1 := zw HB.out hx329_1; replace p329 := eq_true p329; replace q329 := eq_true q329
         go_wp2_with (first | ((with_reducible refine zgc 32 ?_); refine goesL_ (some 24) rfl rfl Tryz.func32 (by kernel_rfl) rfl #[.int .i64 ((rd_T47 l0 x4_1).f0), .int .i64 0, .int .i64 2000] rfl zM ?_; (with_reducible refine (spec_l00In.calls ((rd_T47 l0 x4_1).f0) 0 2000 true _ A7.out).mono ?_); rintro e w' ⟨rfl, ⟨nd, rfl⟩⟩; refine ⟨_, rfl, ?_⟩; have p331 : 0 ≤ (x4_1 : Int) := zD; have q331 : x4_1 < (l0.length : Int) := zD; obtain ⟨ad331, e331, hx331_0, hx331_1⟩ := at_T47 HR0.out x4_1 p331 q331; obtain rfl : ad329 = ad331 := (by injection e331); replace hx331_0 := zw HB.out hx331_0; replace hx331_1 := zw HB.out hx331_1; replace p331 := eq_true p331; replace q331 := eq_true q331) | (go_at_call 32; (with_reducible refine (spec_l00In.calls ((rd_T47 l0 x4_1).f1) 0 2000 false _ A9.out).mono ?_); rintro e w' ⟨rfl, ⟨nd, rfl⟩⟩))
         go_ret
         exact ⟨zE, zB HB.out⟩
       ·replace c8 := Bool.eq_false_iff.mpr c8
        subst c8
        rw [if_neg Bool.false_ne_true] at H; obtain rfl := Option.some.inj H; have p329 : 0 ≤ (x4_1 : Int) := zD; have q329 : x4_1 < (l0.length : Int) := zD; obtain ⟨ad329, e329, hx329_0, hx329_1⟩ := at_T47 HR0.out x4_1 p329 q329
        cases e329
        replace hx329_0 := zw HB.out hx329_0; replace hx329_1 := zw HB.out hx329_1; replace p329 := eq_true p329; replace q329 := eq_true q329
        go_wp2_with (first | ((with_reducible refine zgc 32 ?_); refine goesL_ (some 24) rfl rfl Tryz.func32 (by kernel_rfl) rfl #[.int .i64 ((rd_T47 l0 x4_1).f0), .int .i64 0, .int .i64 2000] rfl zM ?_; (with_reducible refine (spec_l00In.calls ((rd_T47 l0 x4_1).f0) 0 2000 false _ A7.out).mono ?_); rintro e w' ⟨rfl, ⟨nd, rfl⟩⟩; refine ⟨_, rfl, ?_⟩))
        go_ret
        exact ⟨zE, zB HB.out⟩
      ·rw [if_neg c6] at H
       exact absurd H (by simp)
     ·rw [if_neg c5] at H
      exact absurd H (by simp)
    ·rw [if_neg c4] at H
     have c4b0 := decide_eq_false c4; clear c4; have H' := zQ H; clear H
     go_wp2
     go_loopg [5] k1 (fun kq v5 w' => ∃ (x5_2 : Int), v5 = .int .i64 x5_2 ∧ Aside0 (spec_l13Ok.l1 kq l0 (l0.length : Int) x5_2 = some r) ∧ Aside0 (kq ≤ k1) ∧ Aside0 (Below w.heap.size w w'))
     case atStart => exact ⟨(0), (zF), H', ⟨Nat.le_refl _⟩, ⟨zB HB.out⟩⟩
     case round =>
      clear H'; (try clear c1); (try clear p2); (try clear c3); (try clear p3); (try clear q3); (try clear hx3); (try clear c4); (try clear c4b0); (try clear c5); (try clear c5b0); (try clear c6); (try clear c6b0); (try clear p6); (try clear c8); (try clear c10); (try clear hx329_0); (try clear hx329_1); (try clear hx331_0); (try clear hx331_1); (try clear p2); (try clear p329); (try clear p331); (try clear q329); (try clear q331); obtain ⟨x5_2, rfl, HA, HK2, HB⟩ := hrel
      cases gk with
      | zero => exact absurd HA.out (by simp [spec_l13Ok.l1])
      | succ k2 =>
       have H := HA.out; clear HA
       simp only [spec_l13Ok.l1] at H
       by_cases c11 : x5_2 < (l0.length : Int)
       ·rw [if_pos c11] at H
        have c11b0 := decide_eq_true c11; clear c11
        by_cases c12 : 0 ≤ x5_2
        ·rw [if_pos c12] at H
         have c12b0 := decide_eq_true c12; clear c12
         by_cases c13 : x5_2 < (l0.length : Int)
         ·rw [if_pos c13] at H
          have c13b0 := decide_eq_true c13; clear c13
          by_cases c14 : (l0.length : Int) = 0
          ·rw [if_pos c14] at H
           exact absurd H (by simp)
          ·rw [if_neg c14] at H
           have c14b0 : ((l0.length : Int) == 0) = false := beq_eq_false_iff_ne.mpr c14; have c14b1 : ((l0.length : Int) != 0) = true := bne_iff_ne.mpr c14
           have c14b2 : ¬ (l0 = []) := fun h_ => c14 (by rw [h_]; rfl)
           obtain ⟨ji15, hji15⟩ : ∃ j_ : Int, (Int.tmod (wrap64 (x5_2 + 1)) (l0.length : Int)) = j_ := ⟨_, rfl⟩
           replace H : (if 0 ≤ (ji15) then (if (ji15) < (l0.length : Int) then (if 0 ≤ (Int.tmod (wrap64 (x5_2 + 2)) (l0.length : Int)) then (if (Int.tmod (wrap64 (x5_2 + 2)) (l0.length : Int)) < (l0.length : Int) then ((spec_l13Cross.f ((rd_T47 l0 x5_2).f0) ((rd_T47 l0 x5_2).f1) ((rd_T47 l0 (ji15)).f0) ((rd_T47 l0 (ji15)).f1) ((rd_T47 l0 (Int.tmod (wrap64 (x5_2 + 2)) (l0.length : Int))).f0) ((rd_T47 l0 (Int.tmod (wrap64 (x5_2 + 2)) (l0.length : Int))).f1)).bind fun t339 => (if t339 = 0 then (some false) else (spec_l13Ok.l2 k2 l0 (l0.length : Int) x5_2 (wrap64 (x5_2 + 2)) ((rd_T47 l0 x5_2).f0) ((rd_T47 l0 x5_2).f1) ((rd_T47 l0 (ji15)).f0) ((rd_T47 l0 (ji15)).f1)))) else (none)) else (none)) else (none)) else (none)) = some r := by first | (rw [hji15] at H; exact H) | (simp only [hji15] at H ⊢; exact H)
           by_cases c16 : 0 ≤ (ji15)
           ·rw [if_pos c16] at H
            have c16b0 := decide_eq_true c16; clear c16
            by_cases c17 : (ji15) < (l0.length : Int)
            ·rw [if_pos c17] at H
             have c17b0 := decide_eq_true c17; clear c17; obtain ⟨ji18, hji18⟩ : ∃ j_ : Int, (Int.tmod (wrap64 (x5_2 + 2)) (l0.length : Int)) = j_ := ⟨_, rfl⟩
             replace H : (if 0 ≤ (ji18) then (if (ji18) < (l0.length : Int) then ((spec_l13Cross.f ((rd_T47 l0 x5_2).f0) ((rd_T47 l0 x5_2).f1) ((rd_T47 l0 (ji15)).f0) ((rd_T47 l0 (ji15)).f1) ((rd_T47 l0 (ji18)).f0) ((rd_T47 l0 (ji18)).f1)).bind fun t339 => (if t339 = 0 then (some false) else (spec_l13Ok.l2 k2 l0 (l0.length : Int) x5_2 (wrap64 (x5_2 + 2)) ((rd_T47 l0 x5_2).f0) ((rd_T47 l0 x5_2).f1) ((rd_T47 l0 (ji15)).f0) ((rd_T47 l0 (ji15)).f1)))) else (none)) else (none)) = some r := by first | (rw [hji18] at H; exact H) | (simp only [hji18] at H ⊢; exact H)
             by_cases c19 : 0 ≤ (ji18)
             ·rw [if_pos c19] at H
              have c19b0 := decide_eq_true c19; clear c19
              by_cases c20 : (ji18) < (l0.length : Int)
              ·rw [if_pos c20] at H
               have c20b0 := decide_eq_true c20; clear c20; replace H := zob H; obtain ⟨t339, A21, H⟩ := H
               by_cases c22 : t339 = 0
               ·rw [if_pos c22] at H
                have c22b0 : (t339 == 0) = true := beq_iff_eq.mpr c22; have c22b1 : (t339 != 0) = false := bne_eq_false_iff_eq.mpr c22; clear c22; obtain rfl := Option.some.inj H; have p334 : 0 ≤ (x5_2 : Int) := zD; have q334 : x5_2 < (l0.length : Int) := zD; obtain ⟨ad334, e334, hx334_0, hx334_1⟩ := at_T47 HR0.out x5_2 p334 q334
                cases e334
                replace hx334_0 := zw HB.out hx334_0; replace hx334_1 := zw HB.out hx334_1; replace p334 := eq_true p334; replace q334 := eq_true q334
                try go_wp2_with (first | ((with_reducible refine zd 6 ?_); refine zbx (N := 6) (cs := #[.int .i64 0, .int .i64 0]) (t := 47) ?_; intro gb335 hg w23 hbox hb; have BK335 := zQ (hbox); have GW335 := zgz hg HB.out; have GE335 := GW335; replace HB := zbs HB.out hb; clear hb hbox hg; obtain ⟨hcz24_0, hcz24_1, hfz24_0, hfz24_1⟩ := zy2 BK335.out; have p336 : 0 ≤ ((ji15) : Int) := zD; have q336 : (ji15) < (l0.length : Int) := zD; obtain ⟨ad336, e336, hx336_0, hx336_1⟩ := at_T47 HR0.out (ji15) p336 q336; obtain rfl : ad334 = ad336 := (by injection e336); have hn336_0 : ad334.block ≠ gb335 := Nat.ne_of_lt (Nat.lt_of_lt_of_le (by have := World.block_lt_of_cell? _ _ hx336_0; first | rwa [add_block] at this | exact this) GW335.out); have hn336_1 : ad334.block ≠ gb335 := Nat.ne_of_lt (Nat.lt_of_lt_of_le (by have := World.block_lt_of_cell? _ _ hx336_0; first | rwa [add_block] at this | exact this) GW335.out); replace hx336_0 := zw HB.out hx336_0; replace hx336_1 := zw HB.out hx336_1; replace hx336_0 := (cell_far (p := ⟨gb335, 0, none⟩) (by first | (rw [add_block]; exact hn336_0) | (show (Addr.add _ _).block ≠ _; rw [add_block]; exact hn336_0) | exact hn336_0) (.int .i64 ((rd_T47 l0 x5_2).f0))).trans hx336_0; replace hx336_1 := (cell_far (p := ⟨gb335, 0, none⟩) (by first | (rw [add_block]; exact hn336_0) | (show (Addr.add _ _).block ≠ _; rw [add_block]; exact hn336_0) | exact hn336_0) (.int .i64 ((rd_T47 l0 x5_2).f0))).trans hx336_1; replace hx336_0 := (cell_far (p := ⟨gb335, 1, none⟩) (by first | (rw [add_block]; exact hn336_1) | (show (Addr.add _ _).block ≠ _; rw [add_block]; exact hn336_1) | exact hn336_1) (.int .i64 ((rd_T47 l0 x5_2).f1))).trans hx336_0; replace hx336_1 := (cell_far (p := ⟨gb335, 1, none⟩) (by first | (rw [add_block]; exact hn336_1) | (show (Addr.add _ _).block ≠ _; rw [add_block]; exact hn336_1) | exact hn336_1) (.int .i64 ((rd_T47 l0 x5_2).f1))).trans hx336_1; clear hn336_0; clear hn336_1; replace p336 := eq_true p336; replace q336 := eq_true q336) | ((with_reducible refine zd 7 ?_); refine zbx (N := 7) (cs := #[.int .i64 0, .int .i64 0]) (t := 47) ?_; intro gb337 hg w25 hbox hb; have BK337 := zQ (hbox); have GW337 := zgz2 hg HB.out GE335.out; have GE337 := GW337; have NB335_337 := zQ ((by rw [hg]; exact Nat.ne_of_lt (blk_lt (g := gb335) (o := .cells #[.int .i64 ((rd_T47 l0 x5_2).f0), .int .i64 ((rd_T47 l0 x5_2).f1)] 47 (0, 0)) (by refine zb ?_; refine blk_put (cs := #[.int .i64 ((rd_T47 l0 x5_2).f0), .int .i64 0]) ?_ 1 _ rfl; refine zb ?_; refine blk_put (cs := #[.int .i64 0, .int .i64 0]) ?_ 0 _ rfl; refine zb ?_; exact BK335.out)) : gb335 ≠ gb337)); have NB337_335 := zQ ((by rw [hg]; exact Nat.ne_of_gt (blk_lt (g := gb335) (o := .cells #[.int .i64 ((rd_T47 l0 x5_2).f0), .int .i64 ((rd_T47 l0 x5_2).f1)] 47 (0, 0)) (by refine zb ?_; refine blk_put (cs := #[.int .i64 ((rd_T47 l0 x5_2).f0), .int .i64 0]) ?_ 1 _ rfl; refine zb ?_; refine blk_put (cs := #[.int .i64 0, .int .i64 0]) ?_ 0 _ rfl; refine zb ?_; exact BK335.out)) : gb337 ≠ gb335)); replace BK335 := zQ (blk_below (g := gb335) (o := .cells #[.int .i64 ((rd_T47 l0 x5_2).f0), .int .i64 ((rd_T47 l0 x5_2).f1)] 47 (0, 0)) (by refine zb ?_; refine blk_put (cs := #[.int .i64 ((rd_T47 l0 x5_2).f0), .int .i64 0]) ?_ 1 _ rfl; refine zb ?_; refine blk_put (cs := #[.int .i64 0, .int .i64 0]) ?_ 0 _ rfl; refine zb ?_; exact BK335.out) hb); replace HB := zbs2 HB.out GE335.out hb; clear hb hbox hg; have hnb26 := NB337_335.out; have hnc26 := NB335_337.out; obtain ⟨hcz27_0, hcz27_1, hfz27_0, hfz27_1⟩ := zy2 BK337.out))
                have n0_ : Aside0 (((w25.setCell ⟨gb337, 0, none⟩ (.int .i64 ((rd_T47 l0 (ji15)).f0))).setCell ⟨gb337, 1, none⟩ (.int .i64 ((rd_T47 l0 (ji15)).f1))).heap[gb335]? = some (.cells #[.int .i64 ((rd_T47 l0 x5_2).f0), .int .i64 ((rd_T47 l0 x5_2).f1)] 47 (0, 0))) := ⟨by refine zb ?_; refine blk_far ?_ NB335_337.out _; refine zb ?_; refine blk_far ?_ NB335_337.out _; refine zb ?_; exact BK335.out⟩; have n1_ : Aside0 (((w25.setCell ⟨gb337, 0, none⟩ (.int .i64 ((rd_T47 l0 (ji15)).f0))).setCell ⟨gb337, 1, none⟩ (.int .i64 ((rd_T47 l0 (ji15)).f1))).heap[gb337]? = some (.cells #[.int .i64 ((rd_T47 l0 (ji15)).f0), .int .i64 ((rd_T47 l0 (ji15)).f1)] 47 (0, 0))) := ⟨by refine zb ?_; refine blk_put (cs := #[.int .i64 ((rd_T47 l0 (ji15)).f0), .int .i64 0]) ?_ 1 _ rfl; refine zb ?_; refine blk_put (cs := #[.int .i64 0, .int .i64 0]) ?_ 0 _ rfl; refine zb ?_; exact BK337.out⟩; have n2_ : Aside0 (Below w.heap.size w ((w25.setCell ⟨gb337, 0, none⟩ (.int .i64 ((rd_T47 l0 (ji15)).f0))).setCell ⟨gb337, 1, none⟩ (.int .i64 ((rd_T47 l0 (ji15)).f1)))) := ⟨zB3 HB.out GE335.out GE337.out⟩
                (try clear BK335)
                (try clear BK337)
                (try clear HB)
                generalize ((w25.setCell ⟨gb337, 0, none⟩ (.int .i64 ((rd_T47 l0 (ji15)).f0))).setCell ⟨gb337, 1, none⟩ (.int .i64 ((rd_T47 l0 (ji15)).f1))) = w28 at n0_ n1_ n2_ ⊢
                have BK335 := n0_; have BK337 := n1_; have HB := n2_; clear n0_ n1_ n2_; have n0_ := zQ (blk_drew BK335.out); have n1_ := zQ (blk_drew BK337.out); have n2_ := zQ (below_drew1 HB.out); clear BK335; clear BK337; clear HB; have BK335 := n0_; have BK337 := n1_; have HB := n2_; clear n0_ n1_ n2_; have p338 : 0 ≤ ((ji18) : Int) := zD; have q338 : (ji18) < (l0.length : Int) := zD; obtain ⟨ad338, e338, hx338_0, hx338_1⟩ := at_T47 HR0.out (ji18) p338 q338; have hw338_1 := hx338_1; have hw338_0 := hx338_0; obtain rfl : ad334 = ad338 := (by injection e338); replace hx338_0 := zw HB.out hx338_0; replace hx338_1 := zw HB.out hx338_1; replace p338 := eq_true p338; replace q338 := eq_true q338
                refine zs (fun w' => w'.cell? ⟨gb335, 0, none⟩ = some (.int .i64 ((rd_T47 l0 x5_2).f0)) ∧ w'.cell? ⟨gb335, 1, none⟩ = some (.int .i64 ((rd_T47 l0 x5_2).f1)) ∧ w'.cell? ⟨gb337, 0, none⟩ = some (.int .i64 ((rd_T47 l0 (ji15)).f0)) ∧ w'.cell? ⟨gb337, 1, none⟩ = some (.int .i64 ((rd_T47 l0 (ji15)).f1)) ∧ w'.cell? (ad334.add (((ji18)).toNat * 2)) = some (.int .i64 ((rd_T47 l0 (ji18)).f0)) ∧ w'.cell? ⟨(ad334.add (((ji18)).toNat * 2)).block, (ad334.add (((ji18)).toNat * 2)).off + 1, none⟩ = some (.int .i64 ((rd_T47 l0 (ji18)).f1))) [] 11 ⟨(blk_cell BK335.out 0).trans rfl, (blk_cell BK335.out 1).trans rfl, (blk_cell BK337.out 0).trans rfl, (blk_cell BK337.out 1).trans rfl, ((HB.out.cell (World.block_lt_of_cell? w _ hw338_0)).trans hw338_0), ((HB.out.cell (World.block_lt_of_cell? w _ hw338_1)).trans hw338_1)⟩ (fun hHeld => ?_); refine with_tabW spec_l13Ok.tab14 spec_l13Ok.bits14 (fun HT_ HW_ => ?_)
                generalize w28.drew = w29 at BK335 BK337 HB hx338_0 hx338_1 hHeld ⊢
                refine zp 2 53 ?_
                refine zp 3 54 ?_
                refine zp 4 55 ?_
                refine zp 5 56 ?_
                refine zp 6 57 ?_
                refine zp 7 58 ?_
                refine zt 0 51 hHeld ?_
                refine zt 1 52 hHeld ?_
                refine zt 8 59 hHeld ?_
                refine zo 9 (some 60) (fun K hK => ?_)
                refine goes_ Tryz.func52 (by kernel_rfl) rfl #[.agg #[.int .i64 ((rd_T47 l0 x5_2).f0), .int .i64 ((rd_T47 l0 x5_2).f1)], .agg #[.int .i64 ((rd_T47 l0 (ji15)).f0), .int .i64 ((rd_T47 l0 (ji15)).f1)], .agg #[.int .i64 ((rd_T47 l0 (ji18)).f0), .int .i64 ((rd_T47 l0 (ji18)).f1)]] (by rfl) rfl rfl (by (try simp only [List.map_toArray, List.map_cons, List.map_nil]); first | done | (simp only [hji15, hji18]; rfl) | rfl | (simp only [List.length_drop, List.length_take]; rfl)) ?_
                with_reducible refine (spec_l13Cross.calls ((rd_T47 l0 x5_2).f0) ((rd_T47 l0 x5_2).f1) ((rd_T47 l0 (ji15)).f0) ((rd_T47 l0 (ji15)).f1) ((rd_T47 l0 (ji18)).f0) ((rd_T47 l0 (ji18)).f1) t339 _ A21.out).mono ?_
                rintro e w30 ⟨rfl, hb⟩
                refine ⟨_, rfl, ?_⟩
                have n0_ := zbl BK335.out hb; have n1_ := zbl BK337.out hb; have n2_ := zQ (below_step (zB3 HB.out GE335.out GE337.out) hb); clear BK335; clear BK337; clear HB; have BK335 := n0_; have BK337 := n1_; have HB := n2_; clear n0_ n1_ n2_
                (try clear hb)
                (try clear hb2)
                (try clear hk)
                (try clear hi)
                refine hK.out _ _ ⟨(blk_cell BK335.out 0).trans rfl, (blk_cell BK335.out 1).trans rfl, (blk_cell BK337.out 0).trans rfl, (blk_cell BK337.out 1).trans rfl, ((HB.out.cell (World.block_lt_of_cell? w _ hw338_0)).trans hw338_0), ((HB.out.cell (World.block_lt_of_cell? w _ hw338_1)).trans hw338_1)⟩ (fun hHeld => ?_)
                clear hK K
                refine zn 60 ?_
                refine zp 10 61 ?_
                refine done_ (done_of HT_.out (by kernel_rfl)) ?_
                try go_wp2
                go_ret
                exact ⟨by first | rfl | (simp [errW_none, errW_some] <;> rfl) | (simp only [← hji15, ← hji18]; first | rfl | (simp [errW_none, errW_some] <;> rfl)) | (simp [*, errW_none, errW_some] <;> rfl), zB3 HB.out GE335.out GE337.out⟩
               ·rw [if_neg c22] at H
                have c22b0 : (t339 == 0) = false := beq_eq_false_iff_ne.mpr c22; have c22b1 : (t339 != 0) = true := bne_iff_ne.mpr c22; have H' := zQ H; clear H; have p334 : 0 ≤ (x5_2 : Int) := zD; have q334 : x5_2 < (l0.length : Int) := zD; obtain ⟨ad334, e334, hx334_0, hx334_1⟩ := at_T47 HR0.out x5_2 p334 q334
                cases e334
                replace hx334_0 := zw HB.out hx334_0; replace hx334_1 := zw HB.out hx334_1; replace p334 := eq_true p334; replace q334 := eq_true q334
                try go_wp2_with (first | ((with_reducible refine zd 6 ?_); refine zbx (N := 6) (cs := #[.int .i64 0, .int .i64 0]) (t := 47) ?_; intro gb335 hg w31 hbox hb; have BK335 := zQ (hbox); have GW335 := zgz hg HB.out; have GE335 := GW335; replace HB := zbs HB.out hb; clear hb hbox hg; obtain ⟨hcz32_0, hcz32_1, hfz32_0, hfz32_1⟩ := zy2 BK335.out; have p336 : 0 ≤ ((ji15) : Int) := zD; have q336 : (ji15) < (l0.length : Int) := zD; obtain ⟨ad336, e336, hx336_0, hx336_1⟩ := at_T47 HR0.out (ji15) p336 q336; obtain rfl : ad334 = ad336 := (by injection e336); have hn336_0 : ad334.block ≠ gb335 := Nat.ne_of_lt (Nat.lt_of_lt_of_le (by have := World.block_lt_of_cell? _ _ hx336_0; first | rwa [add_block] at this | exact this) GW335.out); have hn336_1 : ad334.block ≠ gb335 := Nat.ne_of_lt (Nat.lt_of_lt_of_le (by have := World.block_lt_of_cell? _ _ hx336_0; first | rwa [add_block] at this | exact this) GW335.out); replace hx336_0 := zw HB.out hx336_0; replace hx336_1 := zw HB.out hx336_1; replace hx336_0 := (cell_far (p := ⟨gb335, 0, none⟩) (by first | (rw [add_block]; exact hn336_0) | (show (Addr.add _ _).block ≠ _; rw [add_block]; exact hn336_0) | exact hn336_0) (.int .i64 ((rd_T47 l0 x5_2).f0))).trans hx336_0; replace hx336_1 := (cell_far (p := ⟨gb335, 0, none⟩) (by first | (rw [add_block]; exact hn336_0) | (show (Addr.add _ _).block ≠ _; rw [add_block]; exact hn336_0) | exact hn336_0) (.int .i64 ((rd_T47 l0 x5_2).f0))).trans hx336_1; replace hx336_0 := (cell_far (p := ⟨gb335, 1, none⟩) (by first | (rw [add_block]; exact hn336_1) | (show (Addr.add _ _).block ≠ _; rw [add_block]; exact hn336_1) | exact hn336_1) (.int .i64 ((rd_T47 l0 x5_2).f1))).trans hx336_0; replace hx336_1 := (cell_far (p := ⟨gb335, 1, none⟩) (by first | (rw [add_block]; exact hn336_1) | (show (Addr.add _ _).block ≠ _; rw [add_block]; exact hn336_1) | exact hn336_1) (.int .i64 ((rd_T47 l0 x5_2).f1))).trans hx336_1; clear hn336_0; clear hn336_1; replace p336 := eq_true p336; replace q336 := eq_true q336) | ((with_reducible refine zd 7 ?_); refine zbx (N := 7) (cs := #[.int .i64 0, .int .i64 0]) (t := 47) ?_; intro gb337 hg w33 hbox hb; have BK337 := zQ (hbox); have GW337 := zgz2 hg HB.out GE335.out; have GE337 := GW337; have NB335_337 := zQ ((by rw [hg]; exact Nat.ne_of_lt (blk_lt (g := gb335) (o := .cells #[.int .i64 ((rd_T47 l0 x5_2).f0), .int .i64 ((rd_T47 l0 x5_2).f1)] 47 (0, 0)) (by refine zb ?_; refine blk_put (cs := #[.int .i64 ((rd_T47 l0 x5_2).f0), .int .i64 0]) ?_ 1 _ rfl; refine zb ?_; refine blk_put (cs := #[.int .i64 0, .int .i64 0]) ?_ 0 _ rfl; refine zb ?_; exact BK335.out)) : gb335 ≠ gb337)); have NB337_335 := zQ ((by rw [hg]; exact Nat.ne_of_gt (blk_lt (g := gb335) (o := .cells #[.int .i64 ((rd_T47 l0 x5_2).f0), .int .i64 ((rd_T47 l0 x5_2).f1)] 47 (0, 0)) (by refine zb ?_; refine blk_put (cs := #[.int .i64 ((rd_T47 l0 x5_2).f0), .int .i64 0]) ?_ 1 _ rfl; refine zb ?_; refine blk_put (cs := #[.int .i64 0, .int .i64 0]) ?_ 0 _ rfl; refine zb ?_; exact BK335.out)) : gb337 ≠ gb335)); replace BK335 := zQ (blk_below (g := gb335) (o := .cells #[.int .i64 ((rd_T47 l0 x5_2).f0), .int .i64 ((rd_T47 l0 x5_2).f1)] 47 (0, 0)) (by refine zb ?_; refine blk_put (cs := #[.int .i64 ((rd_T47 l0 x5_2).f0), .int .i64 0]) ?_ 1 _ rfl; refine zb ?_; refine blk_put (cs := #[.int .i64 0, .int .i64 0]) ?_ 0 _ rfl; refine zb ?_; exact BK335.out) hb); replace HB := zbs2 HB.out GE335.out hb; clear hb hbox hg; have hnb34 := NB337_335.out; have hnc34 := NB335_337.out; obtain ⟨hcz35_0, hcz35_1, hfz35_0, hfz35_1⟩ := zy2 BK337.out))
                have n0_ : Aside0 (((w33.setCell ⟨gb337, 0, none⟩ (.int .i64 ((rd_T47 l0 (ji15)).f0))).setCell ⟨gb337, 1, none⟩ (.int .i64 ((rd_T47 l0 (ji15)).f1))).heap[gb335]? = some (.cells #[.int .i64 ((rd_T47 l0 x5_2).f0), .int .i64 ((rd_T47 l0 x5_2).f1)] 47 (0, 0))) := ⟨by refine zb ?_; refine blk_far ?_ NB335_337.out _; refine zb ?_; refine blk_far ?_ NB335_337.out _; refine zb ?_; exact BK335.out⟩; have n1_ : Aside0 (((w33.setCell ⟨gb337, 0, none⟩ (.int .i64 ((rd_T47 l0 (ji15)).f0))).setCell ⟨gb337, 1, none⟩ (.int .i64 ((rd_T47 l0 (ji15)).f1))).heap[gb337]? = some (.cells #[.int .i64 ((rd_T47 l0 (ji15)).f0), .int .i64 ((rd_T47 l0 (ji15)).f1)] 47 (0, 0))) := ⟨by refine zb ?_; refine blk_put (cs := #[.int .i64 ((rd_T47 l0 (ji15)).f0), .int .i64 0]) ?_ 1 _ rfl; refine zb ?_; refine blk_put (cs := #[.int .i64 0, .int .i64 0]) ?_ 0 _ rfl; refine zb ?_; exact BK337.out⟩; have n2_ : Aside0 (Below w.heap.size w ((w33.setCell ⟨gb337, 0, none⟩ (.int .i64 ((rd_T47 l0 (ji15)).f0))).setCell ⟨gb337, 1, none⟩ (.int .i64 ((rd_T47 l0 (ji15)).f1)))) := ⟨zB3 HB.out GE335.out GE337.out⟩
                (try clear BK335)
                (try clear BK337)
                (try clear HB)
                generalize ((w33.setCell ⟨gb337, 0, none⟩ (.int .i64 ((rd_T47 l0 (ji15)).f0))).setCell ⟨gb337, 1, none⟩ (.int .i64 ((rd_T47 l0 (ji15)).f1))) = w36 at n0_ n1_ n2_ ⊢
                have BK335 := n0_; have BK337 := n1_; have HB := n2_; clear n0_ n1_ n2_; have n0_ := zQ (blk_drew BK335.out); have n1_ := zQ (blk_drew BK337.out); have n2_ := zQ (below_drew1 HB.out); clear BK335; clear BK337; clear HB; have BK335 := n0_; have BK337 := n1_; have HB := n2_; clear n0_ n1_ n2_; have p338 : 0 ≤ ((ji18) : Int) := zD; have q338 : (ji18) < (l0.length : Int) := zD; obtain ⟨ad338, e338, hx338_0, hx338_1⟩ := at_T47 HR0.out (ji18) p338 q338; have hw338_1 := hx338_1; have hw338_0 := hx338_0; obtain rfl : ad334 = ad338 := (by injection e338); replace hx338_0 := zw HB.out hx338_0; replace hx338_1 := zw HB.out hx338_1; replace p338 := eq_true p338; replace q338 := eq_true q338
                refine zs (fun w' => w'.cell? ⟨gb335, 0, none⟩ = some (.int .i64 ((rd_T47 l0 x5_2).f0)) ∧ w'.cell? ⟨gb335, 1, none⟩ = some (.int .i64 ((rd_T47 l0 x5_2).f1)) ∧ w'.cell? ⟨gb337, 0, none⟩ = some (.int .i64 ((rd_T47 l0 (ji15)).f0)) ∧ w'.cell? ⟨gb337, 1, none⟩ = some (.int .i64 ((rd_T47 l0 (ji15)).f1)) ∧ w'.cell? (ad334.add (((ji18)).toNat * 2)) = some (.int .i64 ((rd_T47 l0 (ji18)).f0)) ∧ w'.cell? ⟨(ad334.add (((ji18)).toNat * 2)).block, (ad334.add (((ji18)).toNat * 2)).off + 1, none⟩ = some (.int .i64 ((rd_T47 l0 (ji18)).f1))) [] 11 ⟨(blk_cell BK335.out 0).trans rfl, (blk_cell BK335.out 1).trans rfl, (blk_cell BK337.out 0).trans rfl, (blk_cell BK337.out 1).trans rfl, ((HB.out.cell (World.block_lt_of_cell? w _ hw338_0)).trans hw338_0), ((HB.out.cell (World.block_lt_of_cell? w _ hw338_1)).trans hw338_1)⟩ (fun hHeld => ?_); refine with_tabW spec_l13Ok.tab14 spec_l13Ok.bits14 (fun HT_ HW_ => ?_)
                generalize w36.drew = w37 at BK335 BK337 HB hx338_0 hx338_1 hHeld ⊢
                refine zp 2 53 ?_
                refine zp 3 54 ?_
                refine zp 4 55 ?_
                refine zp 5 56 ?_
                refine zp 6 57 ?_
                refine zp 7 58 ?_
                refine zt 0 51 hHeld ?_
                refine zt 1 52 hHeld ?_
                refine zt 8 59 hHeld ?_
                refine zo 9 (some 60) (fun K hK => ?_)
                refine goes_ Tryz.func52 (by kernel_rfl) rfl #[.agg #[.int .i64 ((rd_T47 l0 x5_2).f0), .int .i64 ((rd_T47 l0 x5_2).f1)], .agg #[.int .i64 ((rd_T47 l0 (ji15)).f0), .int .i64 ((rd_T47 l0 (ji15)).f1)], .agg #[.int .i64 ((rd_T47 l0 (ji18)).f0), .int .i64 ((rd_T47 l0 (ji18)).f1)]] (by rfl) rfl rfl (by (try simp only [List.map_toArray, List.map_cons, List.map_nil]); first | done | (simp only [hji15, hji18]; rfl) | rfl | (simp only [List.length_drop, List.length_take]; rfl)) ?_
                with_reducible refine (spec_l13Cross.calls ((rd_T47 l0 x5_2).f0) ((rd_T47 l0 x5_2).f1) ((rd_T47 l0 (ji15)).f0) ((rd_T47 l0 (ji15)).f1) ((rd_T47 l0 (ji18)).f0) ((rd_T47 l0 (ji18)).f1) t339 _ A21.out).mono ?_
                rintro e w38 ⟨rfl, hb⟩
                refine ⟨_, rfl, ?_⟩
                have n0_ := zbl BK335.out hb; have n1_ := zbl BK337.out hb; have n2_ := zQ (below_step (zB3 HB.out GE335.out GE337.out) hb); clear BK335; clear BK337; clear HB; have BK335 := n0_; have BK337 := n1_; have HB := n2_; clear n0_ n1_ n2_
                (try clear hb)
                (try clear hb2)
                (try clear hk)
                (try clear hi)
                refine hK.out _ _ ⟨(blk_cell BK335.out 0).trans rfl, (blk_cell BK335.out 1).trans rfl, (blk_cell BK337.out 0).trans rfl, (blk_cell BK337.out 1).trans rfl, ((HB.out.cell (World.block_lt_of_cell? w _ hw338_0)).trans hw338_0), ((HB.out.cell (World.block_lt_of_cell? w _ hw338_1)).trans hw338_1)⟩ (fun hHeld => ?_)
                clear hK K
                refine zn 60 ?_
                refine zp 10 61 ?_
                refine done_ (done_of HT_.out (by kernel_rfl)) ?_
                try go_wp2
                go_loopg [8] k2 (fun kq v8 w' => ∃ (x8_3 : Int), v8 = .int .i64 x8_3 ∧ Aside0 (spec_l13Ok.l2 kq l0 (l0.length : Int) x5_2 x8_3 ((rd_T47 l0 x5_2).f0) ((rd_T47 l0 x5_2).f1) ((rd_T47 l0 (ji15)).f0) ((rd_T47 l0 (ji15)).f1) = some r) ∧ Aside0 (kq ≤ k2) ∧ Aside0 (w'.heap[gb335]? = some (.cells #[.int .i64 ((rd_T47 l0 x5_2).f0), .int .i64 ((rd_T47 l0 x5_2).f1)] 47 (0, 0))) ∧ Aside0 (w'.heap[gb337]? = some (.cells #[.int .i64 ((rd_T47 l0 (ji15)).f0), .int .i64 ((rd_T47 l0 (ji15)).f1)] 47 (0, 0))) ∧ Aside0 (Below w.heap.size w w'))
                case atStart => exact ⟨(wrap64 (x5_2 + 2)), (zF), H', ⟨Nat.le_refl _⟩, ⟨zb BK335.out⟩, ⟨zb BK337.out⟩, ⟨zB3 HB.out GE335.out GE337.out⟩⟩
                case round =>
                 clear H'; (try clear c1); (try clear c2); (try clear p2); (try clear c3); (try clear p3); (try clear q3); (try clear hx3); (try clear c4); (try clear c4b0); (try clear c5); (try clear c5b0); (try clear c6); (try clear c6b0); (try clear p6); (try clear c8); (try clear c10); (try clear c11); (try clear c11b0); (try clear c12); (try clear c12b0); (try clear c13); (try clear c13b0); (try clear c14); (try clear c14b0); (try clear c14b1); (try clear c14b2); (try clear c16); (try clear c16b0); (try clear c17); (try clear c17b0); (try clear c19); (try clear c19b0); (try clear c20); (try clear c20b0); (try clear c22); (try clear c22b0); (try clear c22b1); (try clear c26); (try clear c31); (try clear c32); (try clear p32); (try clear q32); (try clear hx32); (try clear p33); (try clear q33); (try clear hx33); (try clear c34); (try clear hcz24_0 hcz24_1 hfz24_0 hfz24_1); (try clear hcz27_0 hcz27_1 hfz27_0 hfz27_1); (try clear hcz32_0 hcz32_1 hfz32_0 hfz32_1); (try clear hcz35_0 hcz35_1 hfz35_0 hfz35_1); (try clear hx329_0); (try clear hx329_1); (try clear hx331_0); (try clear hx331_1); (try clear hx334_0); (try clear hx334_1); (try clear hx336_0); (try clear hx336_1); (try clear hx338_0); (try clear hx338_1); (try clear p2); (try clear p3); (try clear p329); (try clear p331); (try clear p334)
                 (try clear p336); (try clear p338); (try clear p6); (try clear q3); (try clear q329); (try clear q331); (try clear q334); (try clear q336); (try clear q338); obtain ⟨x8_3, rfl, HA, HK3, BK335, BK337, HB⟩ := hrel
                 cases gk with
                 | zero => exact absurd HA.out (by simp [spec_l13Ok.l2])
                 | succ k3 =>
                  have H := HA.out; clear HA
                  simp only [spec_l13Ok.l2] at H
                  by_cases c39 : x8_3 < (l0.length : Int)
                  ·rw [if_pos c39] at H
                   have c39b0 := decide_eq_true c39; clear c39
                   by_cases c40 : x5_2 > 0
                   ·rw [if_pos c40] at H
                    have c40b0 := decide_eq_true c40; clear c40
                    by_cases c41 : 0 ≤ x8_3
                    ·rw [if_pos c41] at H
                     have c41b0 := decide_eq_true c41; clear c41
                     by_cases c42 : x8_3 < (l0.length : Int)
                     ·rw [if_pos c42] at H
                      have c42b0 := decide_eq_true c42; clear c42
                      by_cases c43 : (l0.length : Int) = 0
                      ·rw [if_pos c43] at H
                       exact absurd H (by simp)
                      ·rw [if_neg c43] at H
                       have c43b0 : ((l0.length : Int) == 0) = false := beq_eq_false_iff_ne.mpr c43; have c43b1 : ((l0.length : Int) != 0) = true := bne_iff_ne.mpr c43
                       have c43b2 : ¬ (l0 = []) := fun h_ => c43 (by rw [h_]; rfl)
                       obtain ⟨ji44, hji44⟩ : ∃ j_ : Int, (Int.tmod (wrap64 (x8_3 + 1)) (l0.length : Int)) = j_ := ⟨_, rfl⟩
                       replace H : (if 0 ≤ (ji44) then (if (ji44) < (l0.length : Int) then ((spec_l13Meet.f k3 ((rd_T47 l0 x5_2).f0) ((rd_T47 l0 x5_2).f1) ((rd_T47 l0 (ji15)).f0) ((rd_T47 l0 (ji15)).f1) ((rd_T47 l0 x8_3).f0) ((rd_T47 l0 x8_3).f1) ((rd_T47 l0 (ji44)).f0) ((rd_T47 l0 (ji44)).f1)).bind fun t342 => (if t342 = true then (some false) else (spec_l13Ok.l2 k3 l0 (l0.length : Int) x5_2 (wrap64 (x8_3 + 1)) ((rd_T47 l0 x5_2).f0) ((rd_T47 l0 x5_2).f1) ((rd_T47 l0 (ji15)).f0) ((rd_T47 l0 (ji15)).f1)))) else (none)) else (none)) = some r := by first | (rw [hji44] at H; exact H) | (simp only [hji44] at H ⊢; exact H)
                       by_cases c45 : 0 ≤ (ji44)
                       ·rw [if_pos c45] at H
                        have c45b0 := decide_eq_true c45; clear c45
                        by_cases c46 : (ji44) < (l0.length : Int)
                        ·rw [if_pos c46] at H
                         have c46b0 := decide_eq_true c46; clear c46; replace H := zob H; obtain ⟨t342, A47, H⟩ := H
                         by_cases c48 : t342 = true
                         ·subst c48
                          rw [if_pos rfl] at H; obtain rfl := Option.some.inj H
                          try go_wp2
                          have n0_ := zQ (blk_drew BK335.out); have n1_ := zQ (blk_drew BK337.out); have n2_ := zQ (below_drew1 HB.out); clear BK335; clear BK337; clear HB; have BK335 := n0_; have BK337 := n1_; have HB := n2_; clear n0_ n1_ n2_; have p340 : 0 ≤ (x8_3 : Int) := zD; have q340 : x8_3 < (l0.length : Int) := zD; obtain ⟨ad340, e340, hx340_0, hx340_1⟩ := at_T47 HR0.out x8_3 p340 q340; have hw340_1 := hx340_1; have hw340_0 := hx340_0; obtain rfl : ad334 = ad340 := (by injection e340); replace hx340_0 := zw HB.out hx340_0; replace hx340_1 := zw HB.out hx340_1; replace p340 := eq_true p340; replace q340 := eq_true q340; have p341 : 0 ≤ ((ji44) : Int) := zD; have q341 : (ji44) < (l0.length : Int) := zD; obtain ⟨ad341, e341, hx341_0, hx341_1⟩ := at_T47 HR0.out (ji44) p341 q341; have hw341_1 := hx341_1; have hw341_0 := hx341_0; obtain rfl : ad334 = ad341 := (by injection e341); replace hx341_0 := zw HB.out hx341_0; replace hx341_1 := zw HB.out hx341_1; replace p341 := eq_true p341; replace q341 := eq_true q341
                          refine zs (fun w' => w'.cell? ⟨gb335, 0, none⟩ = some (.int .i64 ((rd_T47 l0 x5_2).f0)) ∧ w'.cell? ⟨gb335, 1, none⟩ = some (.int .i64 ((rd_T47 l0 x5_2).f1)) ∧ w'.cell? ⟨gb337, 0, none⟩ = some (.int .i64 ((rd_T47 l0 (ji15)).f0)) ∧ w'.cell? ⟨gb337, 1, none⟩ = some (.int .i64 ((rd_T47 l0 (ji15)).f1)) ∧ w'.cell? (ad334.add ((x8_3).toNat * 2)) = some (.int .i64 ((rd_T47 l0 x8_3).f0)) ∧ w'.cell? ⟨(ad334.add ((x8_3).toNat * 2)).block, (ad334.add ((x8_3).toNat * 2)).off + 1, none⟩ = some (.int .i64 ((rd_T47 l0 x8_3).f1)) ∧ w'.cell? (ad334.add (((ji44)).toNat * 2)) = some (.int .i64 ((rd_T47 l0 (ji44)).f0)) ∧ w'.cell? ⟨(ad334.add (((ji44)).toNat * 2)).block, (ad334.add (((ji44)).toNat * 2)).off + 1, none⟩ = some (.int .i64 ((rd_T47 l0 (ji44)).f1))) [] 24 ⟨(blk_cell BK335.out 0).trans rfl, (blk_cell BK335.out 1).trans rfl, (blk_cell BK337.out 0).trans rfl, (blk_cell BK337.out 1).trans rfl, ((HB.out.cell (World.block_lt_of_cell? w _ hw340_0)).trans hw340_0), ((HB.out.cell (World.block_lt_of_cell? w _ hw340_1)).trans hw340_1), ((HB.out.cell (World.block_lt_of_cell? w _ hw341_0)).trans hw341_0), ((HB.out.cell (World.block_lt_of_cell? w _ hw341_1)).trans hw341_1)⟩ (fun hHeld => ?_); refine with_tabW spec_l13Ok.tab19 spec_l13Ok.bits19 (fun HT_ HW_ => ?_)
                          generalize wr.drew = w49 at BK335 BK337 HB hx340_0 hx340_1 hx341_0 hx341_1 hHeld ⊢
                          refine zp 0 69 ?_
                          refine zp 1 70 ?_
                          refine zp 2 71 ?_
                          refine zg 3 72 ?_
                          refine zg 4 73 ?_
                          refine zg 5 74 ?_
                          refine zg 6 75 ?_
                          refine zp 7 76 ?_
                          refine zp 8 77 ?_
                          refine zp 11 80 ?_
                          refine zp 12 81 ?_
                          refine zp 13 82 ?_
                          refine zp 15 84 ?_
                          refine zp 16 85 ?_
                          refine zp 17 86 ?_
                          refine zp 18 87 ?_
                          refine zp 19 88 ?_
                          refine zp 20 89 ?_
                          refine zt 9 78 hHeld ?_
                          refine zt 10 79 hHeld ?_
                          refine zt 14 83 hHeld ?_
                          refine zt 21 90 hHeld ?_
                          refine zo 22 (some 91) (fun K hK => ?_)
                          refine goes_ Tryz.func53 (by kernel_rfl) rfl #[.agg #[.int .i64 ((rd_T47 l0 x5_2).f0), .int .i64 ((rd_T47 l0 x5_2).f1)], .agg #[.int .i64 ((rd_T47 l0 (ji15)).f0), .int .i64 ((rd_T47 l0 (ji15)).f1)], .agg #[.int .i64 ((rd_T47 l0 x8_3).f0), .int .i64 ((rd_T47 l0 x8_3).f1)], .agg #[.int .i64 ((rd_T47 l0 (ji44)).f0), .int .i64 ((rd_T47 l0 (ji44)).f1)]] (by rfl) rfl rfl (by (try simp only [List.map_toArray, List.map_cons, List.map_nil]); first | done | (simp only [hji15, hji44]; rfl) | rfl | (simp only [List.length_drop, List.length_take]; rfl)) ?_
                          with_reducible refine (spec_l13Meet.calls k3 ((rd_T47 l0 x5_2).f0) ((rd_T47 l0 x5_2).f1) ((rd_T47 l0 (ji15)).f0) ((rd_T47 l0 (ji15)).f1) ((rd_T47 l0 x8_3).f0) ((rd_T47 l0 x8_3).f1) ((rd_T47 l0 (ji44)).f0) ((rd_T47 l0 (ji44)).f1) true _ A47.out).mono ?_
                          rintro e w50 ⟨rfl, hb⟩
                          refine ⟨_, rfl, ?_⟩
                          have n0_ := zbl BK335.out hb; have n1_ := zbl BK337.out hb; have n2_ := zQ (below_step (zB3 HB.out GE335.out GE337.out) hb); clear BK335; clear BK337; clear HB; have BK335 := n0_; have BK337 := n1_; have HB := n2_; clear n0_ n1_ n2_
                          (try clear hb)
                          (try clear hb2)
                          (try clear hk)
                          (try clear hi)
                          refine hK.out _ _ ⟨(blk_cell BK335.out 0).trans rfl, (blk_cell BK335.out 1).trans rfl, (blk_cell BK337.out 0).trans rfl, (blk_cell BK337.out 1).trans rfl, ((HB.out.cell (World.block_lt_of_cell? w _ hw340_0)).trans hw340_0), ((HB.out.cell (World.block_lt_of_cell? w _ hw340_1)).trans hw340_1), ((HB.out.cell (World.block_lt_of_cell? w _ hw341_0)).trans hw341_0), ((HB.out.cell (World.block_lt_of_cell? w _ hw341_1)).trans hw341_1)⟩ (fun hHeld => ?_)
                          clear hK K
                          refine zn 91 ?_
                          refine zp 23 92 ?_
                          refine done_ (done_of HT_.out (by kernel_rfl)) ?_
                          try go_wp2
                          go_ret
                          exact ⟨by first | rfl | (simp [errW_none, errW_some] <;> rfl) | (simp only [← hji15, ← hji18, ← hji44]; first | rfl | (simp [errW_none, errW_some] <;> rfl)) | (simp [*, errW_none, errW_some] <;> rfl), zB3 HB.out GE335.out GE337.out⟩
                         ·replace c48 := Bool.eq_false_iff.mpr c48
                          subst c48
                          rw [if_neg Bool.false_ne_true] at H; have H' := zQ H; clear H
                          try go_wp2
                          have n0_ := zQ (blk_drew BK335.out); have n1_ := zQ (blk_drew BK337.out); have n2_ := zQ (below_drew1 HB.out); clear BK335; clear BK337; clear HB; have BK335 := n0_; have BK337 := n1_; have HB := n2_; clear n0_ n1_ n2_; have p340 : 0 ≤ (x8_3 : Int) := zD; have q340 : x8_3 < (l0.length : Int) := zD; obtain ⟨ad340, e340, hx340_0, hx340_1⟩ := at_T47 HR0.out x8_3 p340 q340; have hw340_1 := hx340_1; have hw340_0 := hx340_0; obtain rfl : ad334 = ad340 := (by injection e340); replace hx340_0 := zw HB.out hx340_0; replace hx340_1 := zw HB.out hx340_1; replace p340 := eq_true p340; replace q340 := eq_true q340; have p341 : 0 ≤ ((ji44) : Int) := zD; have q341 : (ji44) < (l0.length : Int) := zD; obtain ⟨ad341, e341, hx341_0, hx341_1⟩ := at_T47 HR0.out (ji44) p341 q341; have hw341_1 := hx341_1; have hw341_0 := hx341_0; obtain rfl : ad334 = ad341 := (by injection e341); replace hx341_0 := zw HB.out hx341_0; replace hx341_1 := zw HB.out hx341_1; replace p341 := eq_true p341; replace q341 := eq_true q341
                          refine zs (fun w' => w'.cell? ⟨gb335, 0, none⟩ = some (.int .i64 ((rd_T47 l0 x5_2).f0)) ∧ w'.cell? ⟨gb335, 1, none⟩ = some (.int .i64 ((rd_T47 l0 x5_2).f1)) ∧ w'.cell? ⟨gb337, 0, none⟩ = some (.int .i64 ((rd_T47 l0 (ji15)).f0)) ∧ w'.cell? ⟨gb337, 1, none⟩ = some (.int .i64 ((rd_T47 l0 (ji15)).f1)) ∧ w'.cell? (ad334.add ((x8_3).toNat * 2)) = some (.int .i64 ((rd_T47 l0 x8_3).f0)) ∧ w'.cell? ⟨(ad334.add ((x8_3).toNat * 2)).block, (ad334.add ((x8_3).toNat * 2)).off + 1, none⟩ = some (.int .i64 ((rd_T47 l0 x8_3).f1)) ∧ w'.cell? (ad334.add (((ji44)).toNat * 2)) = some (.int .i64 ((rd_T47 l0 (ji44)).f0)) ∧ w'.cell? ⟨(ad334.add (((ji44)).toNat * 2)).block, (ad334.add (((ji44)).toNat * 2)).off + 1, none⟩ = some (.int .i64 ((rd_T47 l0 (ji44)).f1))) [] 24 ⟨(blk_cell BK335.out 0).trans rfl, (blk_cell BK335.out 1).trans rfl, (blk_cell BK337.out 0).trans rfl, (blk_cell BK337.out 1).trans rfl, ((HB.out.cell (World.block_lt_of_cell? w _ hw340_0)).trans hw340_0), ((HB.out.cell (World.block_lt_of_cell? w _ hw340_1)).trans hw340_1), ((HB.out.cell (World.block_lt_of_cell? w _ hw341_0)).trans hw341_0), ((HB.out.cell (World.block_lt_of_cell? w _ hw341_1)).trans hw341_1)⟩ (fun hHeld => ?_); refine with_tabW spec_l13Ok.tab19 spec_l13Ok.bits19 (fun HT_ HW_ => ?_)
                          generalize wr.drew = w51 at BK335 BK337 HB hx340_0 hx340_1 hx341_0 hx341_1 hHeld ⊢
                          refine zp 0 69 ?_
                          refine zp 1 70 ?_
                          refine zp 2 71 ?_
                          refine zg 3 72 ?_
                          refine zg 4 73 ?_
                          refine zg 5 74 ?_
                          refine zg 6 75 ?_
                          refine zp 7 76 ?_
                          refine zp 8 77 ?_
                          refine zp 11 80 ?_
                          refine zp 12 81 ?_
                          refine zp 13 82 ?_
                          refine zp 15 84 ?_
                          refine zp 16 85 ?_
                          refine zp 17 86 ?_
                          refine zp 18 87 ?_
                          refine zp 19 88 ?_
                          refine zp 20 89 ?_
                          refine zt 9 78 hHeld ?_
                          refine zt 10 79 hHeld ?_
                          refine zt 14 83 hHeld ?_
                          refine zt 21 90 hHeld ?_
                          refine zo 22 (some 91) (fun K hK => ?_)
                          refine goes_ Tryz.func53 (by kernel_rfl) rfl #[.agg #[.int .i64 ((rd_T47 l0 x5_2).f0), .int .i64 ((rd_T47 l0 x5_2).f1)], .agg #[.int .i64 ((rd_T47 l0 (ji15)).f0), .int .i64 ((rd_T47 l0 (ji15)).f1)], .agg #[.int .i64 ((rd_T47 l0 x8_3).f0), .int .i64 ((rd_T47 l0 x8_3).f1)], .agg #[.int .i64 ((rd_T47 l0 (ji44)).f0), .int .i64 ((rd_T47 l0 (ji44)).f1)]] (by rfl) rfl rfl (by (try simp only [List.map_toArray, List.map_cons, List.map_nil]); first | done | (simp only [hji15, hji44]; rfl) | rfl | (simp only [List.length_drop, List.length_take]; rfl)) ?_
                          with_reducible refine (spec_l13Meet.calls k3 ((rd_T47 l0 x5_2).f0) ((rd_T47 l0 x5_2).f1) ((rd_T47 l0 (ji15)).f0) ((rd_T47 l0 (ji15)).f1) ((rd_T47 l0 x8_3).f0) ((rd_T47 l0 x8_3).f1) ((rd_T47 l0 (ji44)).f0) ((rd_T47 l0 (ji44)).f1) false _ A47.out).mono ?_
                          rintro e w52 ⟨rfl, hb⟩
                          refine ⟨_, rfl, ?_⟩
                          have n0_ := zbl BK335.out hb; have n1_ := zbl BK337.out hb; have n2_ := zQ (below_step (zB3 HB.out GE335.out GE337.out) hb); clear BK335; clear BK337; clear HB; have BK335 := n0_; have BK337 := n1_; have HB := n2_; clear n0_ n1_ n2_
                          (try clear hb)
                          (try clear hb2)
                          (try clear hk)
                          (try clear hi)
                          refine hK.out _ _ ⟨(blk_cell BK335.out 0).trans rfl, (blk_cell BK335.out 1).trans rfl, (blk_cell BK337.out 0).trans rfl, (blk_cell BK337.out 1).trans rfl, ((HB.out.cell (World.block_lt_of_cell? w _ hw340_0)).trans hw340_0), ((HB.out.cell (World.block_lt_of_cell? w _ hw340_1)).trans hw340_1), ((HB.out.cell (World.block_lt_of_cell? w _ hw341_0)).trans hw341_0), ((HB.out.cell (World.block_lt_of_cell? w _ hw341_1)).trans hw341_1)⟩ (fun hHeld => ?_)
                          clear hK K
                          refine zn 91 ?_
                          refine zp 23 92 ?_
                          refine done_ (done_of HT_.out (by kernel_rfl)) ?_
                          try go_wp2
                          go_roundg k3
                          case measure => have := HK1.out; have := HK2.out; have := HK3.out; omega
                          case rel => exact ⟨(wrap64 (x8_3 + 1)), (zF), H', ⟨by have := HK1.out; have := HK2.out; have := HK3.out; omega⟩, ⟨zb BK335.out⟩, ⟨zb BK337.out⟩, ⟨zB3 HB.out GE335.out GE337.out⟩⟩
                        ·rw [if_neg c46] at H
                         exact absurd H (by simp)
                       ·rw [if_neg c45] at H
                        exact absurd H (by simp)
                     ·rw [if_neg c42] at H
                      exact absurd H (by simp)
                    ·rw [if_neg c41] at H
                     exact absurd H (by simp)
                   ·rw [if_neg c40] at H
                    have c40b0 := decide_eq_false c40; clear c40
                    by_cases c53 : x8_3 < (wrap64 ((l0.length : Int) - 1))
                    ·rw [if_pos c53] at H
                     have c53b0 := decide_eq_true c53; clear c53
                     by_cases c54 : 0 ≤ x8_3
                     ·rw [if_pos c54] at H
                      have c54b0 := decide_eq_true c54; clear c54
                      by_cases c55 : x8_3 < (l0.length : Int)
                      ·rw [if_pos c55] at H
                       have c55b0 := decide_eq_true c55; clear c55
                       by_cases c56 : (l0.length : Int) = 0
                       ·rw [if_pos c56] at H
                        exact absurd H (by simp)
                       ·rw [if_neg c56] at H
                        have c56b0 : ((l0.length : Int) == 0) = false := beq_eq_false_iff_ne.mpr c56; have c56b1 : ((l0.length : Int) != 0) = true := bne_iff_ne.mpr c56
                        have c56b2 : ¬ (l0 = []) := fun h_ => c56 (by rw [h_]; rfl)
                        obtain ⟨ji57, hji57⟩ : ∃ j_ : Int, (Int.tmod (wrap64 (x8_3 + 1)) (l0.length : Int)) = j_ := ⟨_, rfl⟩
                        replace H : (if 0 ≤ (ji57) then (if (ji57) < (l0.length : Int) then ((spec_l13Meet.f k3 ((rd_T47 l0 x5_2).f0) ((rd_T47 l0 x5_2).f1) ((rd_T47 l0 (ji15)).f0) ((rd_T47 l0 (ji15)).f1) ((rd_T47 l0 x8_3).f0) ((rd_T47 l0 x8_3).f1) ((rd_T47 l0 (ji57)).f0) ((rd_T47 l0 (ji57)).f1)).bind fun t345 => (if t345 = true then (some false) else (spec_l13Ok.l2 k3 l0 (l0.length : Int) x5_2 (wrap64 (x8_3 + 1)) ((rd_T47 l0 x5_2).f0) ((rd_T47 l0 x5_2).f1) ((rd_T47 l0 (ji15)).f0) ((rd_T47 l0 (ji15)).f1)))) else (none)) else (none)) = some r := by first | (rw [hji57] at H; exact H) | (simp only [hji57] at H ⊢; exact H)
                        by_cases c58 : 0 ≤ (ji57)
                        ·rw [if_pos c58] at H
                         have c58b0 := decide_eq_true c58; clear c58
                         by_cases c59 : (ji57) < (l0.length : Int)
                         ·rw [if_pos c59] at H
                          have c59b0 := decide_eq_true c59; clear c59; replace H := zob H; obtain ⟨t345, A60, H⟩ := H
                          by_cases c61 : t345 = true
                          ·subst c61
                           rw [if_pos rfl] at H; obtain rfl := Option.some.inj H
                           try go_wp2
                           have n0_ := zQ (blk_drew BK335.out); have n1_ := zQ (blk_drew BK337.out); have n2_ := zQ (below_drew1 HB.out); clear BK335; clear BK337; clear HB; have BK335 := n0_; have BK337 := n1_; have HB := n2_; clear n0_ n1_ n2_; have p343 : 0 ≤ (x8_3 : Int) := zD; have q343 : x8_3 < (l0.length : Int) := zD; obtain ⟨ad343, e343, hx343_0, hx343_1⟩ := at_T47 HR0.out x8_3 p343 q343; have hw343_1 := hx343_1; have hw343_0 := hx343_0; obtain rfl : ad334 = ad343 := (by injection e343); replace hx343_0 := zw HB.out hx343_0; replace hx343_1 := zw HB.out hx343_1; replace p343 := eq_true p343; replace q343 := eq_true q343; have p344 : 0 ≤ ((ji57) : Int) := zD; have q344 : (ji57) < (l0.length : Int) := zD; obtain ⟨ad344, e344, hx344_0, hx344_1⟩ := at_T47 HR0.out (ji57) p344 q344; have hw344_1 := hx344_1; have hw344_0 := hx344_0; obtain rfl : ad334 = ad344 := (by injection e344); replace hx344_0 := zw HB.out hx344_0; replace hx344_1 := zw HB.out hx344_1; replace p344 := eq_true p344; replace q344 := eq_true q344
                           refine zs (fun w' => w'.cell? ⟨gb335, 0, none⟩ = some (.int .i64 ((rd_T47 l0 x5_2).f0)) ∧ w'.cell? ⟨gb335, 1, none⟩ = some (.int .i64 ((rd_T47 l0 x5_2).f1)) ∧ w'.cell? ⟨gb337, 0, none⟩ = some (.int .i64 ((rd_T47 l0 (ji15)).f0)) ∧ w'.cell? ⟨gb337, 1, none⟩ = some (.int .i64 ((rd_T47 l0 (ji15)).f1)) ∧ w'.cell? (ad334.add ((x8_3).toNat * 2)) = some (.int .i64 ((rd_T47 l0 x8_3).f0)) ∧ w'.cell? ⟨(ad334.add ((x8_3).toNat * 2)).block, (ad334.add ((x8_3).toNat * 2)).off + 1, none⟩ = some (.int .i64 ((rd_T47 l0 x8_3).f1)) ∧ w'.cell? (ad334.add (((ji57)).toNat * 2)) = some (.int .i64 ((rd_T47 l0 (ji57)).f0)) ∧ w'.cell? ⟨(ad334.add (((ji57)).toNat * 2)).block, (ad334.add (((ji57)).toNat * 2)).off + 1, none⟩ = some (.int .i64 ((rd_T47 l0 (ji57)).f1))) [] 24 ⟨(blk_cell BK335.out 0).trans rfl, (blk_cell BK335.out 1).trans rfl, (blk_cell BK337.out 0).trans rfl, (blk_cell BK337.out 1).trans rfl, ((HB.out.cell (World.block_lt_of_cell? w _ hw343_0)).trans hw343_0), ((HB.out.cell (World.block_lt_of_cell? w _ hw343_1)).trans hw343_1), ((HB.out.cell (World.block_lt_of_cell? w _ hw344_0)).trans hw344_0), ((HB.out.cell (World.block_lt_of_cell? w _ hw344_1)).trans hw344_1)⟩ (fun hHeld => ?_); refine with_tabW spec_l13Ok.tab19 spec_l13Ok.bits19 (fun HT_ HW_ => ?_)
                           generalize wr.drew = w62 at BK335 BK337 HB hx343_0 hx343_1 hx344_0 hx344_1 hHeld ⊢
                           refine zp 0 69 ?_
                           refine zp 1 70 ?_
                           refine zp 2 71 ?_
                           refine zp 3 72 ?_
                           refine zp 4 73 ?_
                           refine zp 5 74 ?_
                           refine zp 6 75 ?_
                           refine zp 7 76 ?_
                           refine zp 8 77 ?_
                           refine zp 11 80 ?_
                           refine zp 12 81 ?_
                           refine zp 13 82 ?_
                           refine zp 15 84 ?_
                           refine zp 16 85 ?_
                           refine zp 17 86 ?_
                           refine zp 18 87 ?_
                           refine zp 19 88 ?_
                           refine zp 20 89 ?_
                           refine zt 9 78 hHeld ?_
                           refine zt 10 79 hHeld ?_
                           refine zt 14 83 hHeld ?_
                           refine zt 21 90 hHeld ?_
                           refine zo 22 (some 91) (fun K hK => ?_)
                           refine goes_ Tryz.func53 (by kernel_rfl) rfl #[.agg #[.int .i64 ((rd_T47 l0 x5_2).f0), .int .i64 ((rd_T47 l0 x5_2).f1)], .agg #[.int .i64 ((rd_T47 l0 (ji15)).f0), .int .i64 ((rd_T47 l0 (ji15)).f1)], .agg #[.int .i64 ((rd_T47 l0 x8_3).f0), .int .i64 ((rd_T47 l0 x8_3).f1)], .agg #[.int .i64 ((rd_T47 l0 (ji57)).f0), .int .i64 ((rd_T47 l0 (ji57)).f1)]] (by rfl) rfl rfl (by (try simp only [List.map_toArray, List.map_cons, List.map_nil]); first | done | (simp only [hji15, hji57]; rfl) | rfl | (simp only [List.length_drop, List.length_take]; rfl)) ?_
                           with_reducible refine (spec_l13Meet.calls k3 ((rd_T47 l0 x5_2).f0) ((rd_T47 l0 x5_2).f1) ((rd_T47 l0 (ji15)).f0) ((rd_T47 l0 (ji15)).f1) ((rd_T47 l0 x8_3).f0) ((rd_T47 l0 x8_3).f1) ((rd_T47 l0 (ji57)).f0) ((rd_T47 l0 (ji57)).f1) true _ A60.out).mono ?_
                           rintro e w63 ⟨rfl, hb⟩
                           refine ⟨_, rfl, ?_⟩
                           have n0_ := zbl BK335.out hb; have n1_ := zbl BK337.out hb; have n2_ := zQ (below_step (zB3 HB.out GE335.out GE337.out) hb); clear BK335; clear BK337; clear HB; have BK335 := n0_; have BK337 := n1_; have HB := n2_; clear n0_ n1_ n2_
                           (try clear hb)
                           (try clear hb2)
                           (try clear hk)
                           (try clear hi)
                           refine hK.out _ _ ⟨(blk_cell BK335.out 0).trans rfl, (blk_cell BK335.out 1).trans rfl, (blk_cell BK337.out 0).trans rfl, (blk_cell BK337.out 1).trans rfl, ((HB.out.cell (World.block_lt_of_cell? w _ hw343_0)).trans hw343_0), ((HB.out.cell (World.block_lt_of_cell? w _ hw343_1)).trans hw343_1), ((HB.out.cell (World.block_lt_of_cell? w _ hw344_0)).trans hw344_0), ((HB.out.cell (World.block_lt_of_cell? w _ hw344_1)).trans hw344_1)⟩ (fun hHeld => ?_)
                           clear hK K
                           refine zn 91 ?_
                           refine zp 23 92 ?_
                           refine done_ (done_of HT_.out (by kernel_rfl)) ?_
                           try go_wp2
                           go_ret
                           exact ⟨by first | rfl | (simp [errW_none, errW_some] <;> rfl) | (simp only [← hji15, ← hji18, ← hji57]; first | rfl | (simp [errW_none, errW_some] <;> rfl)) | (simp [*, errW_none, errW_some] <;> rfl), zB3 HB.out GE335.out GE337.out⟩
                          ·replace c61 := Bool.eq_false_iff.mpr c61
                           subst c61
                           rw [if_neg Bool.false_ne_true] at H; have H' := zQ H; clear H
                           try go_wp2
                           have n0_ := zQ (blk_drew BK335.out); have n1_ := zQ (blk_drew BK337.out); have n2_ := zQ (below_drew1 HB.out); clear BK335; clear BK337; clear HB; have BK335 := n0_; have BK337 := n1_; have HB := n2_; clear n0_ n1_ n2_; have p343 : 0 ≤ (x8_3 : Int) := zD; have q343 : x8_3 < (l0.length : Int) := zD; obtain ⟨ad343, e343, hx343_0, hx343_1⟩ := at_T47 HR0.out x8_3 p343 q343; have hw343_1 := hx343_1; have hw343_0 := hx343_0; obtain rfl : ad334 = ad343 := (by injection e343); replace hx343_0 := zw HB.out hx343_0; replace hx343_1 := zw HB.out hx343_1; replace p343 := eq_true p343; replace q343 := eq_true q343; have p344 : 0 ≤ ((ji57) : Int) := zD; have q344 : (ji57) < (l0.length : Int) := zD; obtain ⟨ad344, e344, hx344_0, hx344_1⟩ := at_T47 HR0.out (ji57) p344 q344; have hw344_1 := hx344_1; have hw344_0 := hx344_0; obtain rfl : ad334 = ad344 := (by injection e344); replace hx344_0 := zw HB.out hx344_0; replace hx344_1 := zw HB.out hx344_1; replace p344 := eq_true p344; replace q344 := eq_true q344
                           refine zs (fun w' => w'.cell? ⟨gb335, 0, none⟩ = some (.int .i64 ((rd_T47 l0 x5_2).f0)) ∧ w'.cell? ⟨gb335, 1, none⟩ = some (.int .i64 ((rd_T47 l0 x5_2).f1)) ∧ w'.cell? ⟨gb337, 0, none⟩ = some (.int .i64 ((rd_T47 l0 (ji15)).f0)) ∧ w'.cell? ⟨gb337, 1, none⟩ = some (.int .i64 ((rd_T47 l0 (ji15)).f1)) ∧ w'.cell? (ad334.add ((x8_3).toNat * 2)) = some (.int .i64 ((rd_T47 l0 x8_3).f0)) ∧ w'.cell? ⟨(ad334.add ((x8_3).toNat * 2)).block, (ad334.add ((x8_3).toNat * 2)).off + 1, none⟩ = some (.int .i64 ((rd_T47 l0 x8_3).f1)) ∧ w'.cell? (ad334.add (((ji57)).toNat * 2)) = some (.int .i64 ((rd_T47 l0 (ji57)).f0)) ∧ w'.cell? ⟨(ad334.add (((ji57)).toNat * 2)).block, (ad334.add (((ji57)).toNat * 2)).off + 1, none⟩ = some (.int .i64 ((rd_T47 l0 (ji57)).f1))) [] 24 ⟨(blk_cell BK335.out 0).trans rfl, (blk_cell BK335.out 1).trans rfl, (blk_cell BK337.out 0).trans rfl, (blk_cell BK337.out 1).trans rfl, ((HB.out.cell (World.block_lt_of_cell? w _ hw343_0)).trans hw343_0), ((HB.out.cell (World.block_lt_of_cell? w _ hw343_1)).trans hw343_1), ((HB.out.cell (World.block_lt_of_cell? w _ hw344_0)).trans hw344_0), ((HB.out.cell (World.block_lt_of_cell? w _ hw344_1)).trans hw344_1)⟩ (fun hHeld => ?_); refine with_tabW spec_l13Ok.tab19 spec_l13Ok.bits19 (fun HT_ HW_ => ?_)
                           generalize wr.drew = w64 at BK335 BK337 HB hx343_0 hx343_1 hx344_0 hx344_1 hHeld ⊢
                           refine zp 0 69 ?_
                           refine zp 1 70 ?_
                           refine zp 2 71 ?_
                           refine zp 3 72 ?_
                           refine zp 4 73 ?_
                           refine zp 5 74 ?_
                           refine zp 6 75 ?_
                           refine zp 7 76 ?_
                           refine zp 8 77 ?_
                           refine zp 11 80 ?_
                           refine zp 12 81 ?_
                           refine zp 13 82 ?_
                           refine zp 15 84 ?_
                           refine zp 16 85 ?_
                           refine zp 17 86 ?_
                           refine zp 18 87 ?_
                           refine zp 19 88 ?_
                           refine zp 20 89 ?_
                           refine zt 9 78 hHeld ?_
                           refine zt 10 79 hHeld ?_
                           refine zt 14 83 hHeld ?_
                           refine zt 21 90 hHeld ?_
                           refine zo 22 (some 91) (fun K hK => ?_)
                           refine goes_ Tryz.func53 (by kernel_rfl) rfl #[.agg #[.int .i64 ((rd_T47 l0 x5_2).f0), .int .i64 ((rd_T47 l0 x5_2).f1)], .agg #[.int .i64 ((rd_T47 l0 (ji15)).f0), .int .i64 ((rd_T47 l0 (ji15)).f1)], .agg #[.int .i64 ((rd_T47 l0 x8_3).f0), .int .i64 ((rd_T47 l0 x8_3).f1)], .agg #[.int .i64 ((rd_T47 l0 (ji57)).f0), .int .i64 ((rd_T47 l0 (ji57)).f1)]] (by rfl) rfl rfl (by (try simp only [List.map_toArray, List.map_cons, List.map_nil]); first | done | (simp only [hji15, hji57]; rfl) | rfl | (simp only [List.length_drop, List.length_take]; rfl)) ?_
                           with_reducible refine (spec_l13Meet.calls k3 ((rd_T47 l0 x5_2).f0) ((rd_T47 l0 x5_2).f1) ((rd_T47 l0 (ji15)).f0) ((rd_T47 l0 (ji15)).f1) ((rd_T47 l0 x8_3).f0) ((rd_T47 l0 x8_3).f1) ((rd_T47 l0 (ji57)).f0) ((rd_T47 l0 (ji57)).f1) false _ A60.out).mono ?_
                           rintro e w65 ⟨rfl, hb⟩
                           refine ⟨_, rfl, ?_⟩
                           have n0_ := zbl BK335.out hb; have n1_ := zbl BK337.out hb; have n2_ := zQ (below_step (zB3 HB.out GE335.out GE337.out) hb); clear BK335; clear BK337; clear HB; have BK335 := n0_; have BK337 := n1_; have HB := n2_; clear n0_ n1_ n2_
                           (try clear hb)
                           (try clear hb2)
                           (try clear hk)
                           (try clear hi)
                           refine hK.out _ _ ⟨(blk_cell BK335.out 0).trans rfl, (blk_cell BK335.out 1).trans rfl, (blk_cell BK337.out 0).trans rfl, (blk_cell BK337.out 1).trans rfl, ((HB.out.cell (World.block_lt_of_cell? w _ hw343_0)).trans hw343_0), ((HB.out.cell (World.block_lt_of_cell? w _ hw343_1)).trans hw343_1), ((HB.out.cell (World.block_lt_of_cell? w _ hw344_0)).trans hw344_0), ((HB.out.cell (World.block_lt_of_cell? w _ hw344_1)).trans hw344_1)⟩ (fun hHeld => ?_)
                           clear hK K
                           refine zn 91 ?_
                           refine zp 23 92 ?_
                           refine done_ (done_of HT_.out (by kernel_rfl)) ?_
                           try go_wp2
                           go_roundg k3
                           case measure => have := HK1.out; have := HK2.out; have := HK3.out; omega
                           case rel => exact ⟨(wrap64 (x8_3 + 1)), (zF), H', ⟨by have := HK1.out; have := HK2.out; have := HK3.out; omega⟩, ⟨zb BK335.out⟩, ⟨zb BK337.out⟩, ⟨zB3 HB.out GE335.out GE337.out⟩⟩
                         ·rw [if_neg c59] at H
                          exact absurd H (by simp)
                        ·rw [if_neg c58] at H
                         exact absurd H (by simp)
                      ·rw [if_neg c55] at H
                       exact absurd H (by simp)
                     ·rw [if_neg c54] at H
                      exact absurd H (by simp)
                    ·rw [if_neg c53] at H
                     have c53b0 := decide_eq_false c53; clear c53; have H' := zQ H; clear H
                     try go_wp2
                     have n0_ := zQ (blk_drew BK335.out); have n1_ := zQ (blk_drew BK337.out); have n2_ := zQ (below_drew1 HB.out); clear BK335; clear BK337; clear HB; have BK335 := n0_; have BK337 := n1_; have HB := n2_; clear n0_ n1_ n2_
                     refine zs (fun w' => True) [] 24 trivial (fun hHeld => ?_); refine with_tabW spec_l13Ok.tab19 spec_l13Ok.bits19 (fun HT_ HW_ => ?_)
                     generalize wr.drew = w66 at BK335 BK337 HB hHeld ⊢
                     refine zp 0 69 ?_
                     refine zp 1 70 ?_
                     refine zp 2 71 ?_
                     refine zp 3 72 ?_
                     refine zp 4 73 ?_
                     refine zp 5 74 ?_
                     refine zp 6 75 ?_
                     refine zp 7 76 ?_
                     refine zp 8 77 ?_
                     refine zg 9 78 ?_
                     refine zg 10 79 ?_
                     refine zg 11 80 ?_
                     refine zg 12 81 ?_
                     refine zg 13 82 ?_
                     refine zg 14 83 ?_
                     refine zg 15 84 ?_
                     refine zg 16 85 ?_
                     refine zg 17 86 ?_
                     refine zg 18 87 ?_
                     refine zg 19 88 ?_
                     refine zg 20 89 ?_
                     refine zg 21 90 ?_
                     refine zg 22 91 ?_
                     refine zp 23 92 ?_
                     refine done_ (done_of HT_.out (by kernel_rfl)) ?_
                     try go_wp2
                     go_roundg k3
                     case measure => have := HK1.out; have := HK2.out; have := HK3.out; omega
                     case rel => exact ⟨(wrap64 (x8_3 + 1)), (zF), H', ⟨by have := HK1.out; have := HK2.out; have := HK3.out; omega⟩, ⟨zb BK335.out⟩, ⟨zb BK337.out⟩, ⟨zB3 HB.out GE335.out GE337.out⟩⟩
                  ·rw [if_neg c39] at H
                   have c39b0 := decide_eq_false c39; clear c39; have H' := zQ H; clear H
                   go_wp2
                   go_roundg k3
                   case measure => have := HK1.out; have := HK2.out; have := HK3.out; omega
                   case rel => exact ⟨(wrap64 (x5_2 + 1)), (zF), H', ⟨by have := HK1.out; have := HK2.out; have := HK3.out; omega⟩, ⟨zB3 HB.out GE335.out GE337.out⟩⟩
              ·rw [if_neg c20] at H
               exact absurd H (by simp)
             ·rw [if_neg c19] at H
              exact absurd H (by simp)
            ·rw [if_neg c17] at H
             exact absurd H (by simp)
           ·rw [if_neg c16] at H
            exact absurd H (by simp)
         ·rw [if_neg c13] at H
          exact absurd H (by simp)
        ·rw [if_neg c12] at H
         exact absurd H (by simp)
       ·rw [if_neg c11] at H
        have c11b0 := decide_eq_false c11; clear c11; replace H := zob H; obtain ⟨t333, A67, H⟩ := H; obtain rfl := Option.some.inj H
        go_wp2_with (first | ((with_reducible refine zgc 34 ?_); refine goesL_ (some 94) rfl rfl Tryz.func34 (by kernel_rfl) rfl #[.slice A0 l0.length c0] rfl zM ?_; (with_reducible refine (spec_l13Twice.calls k2 _ _ l0 t333 _ (zC HR0.out HB.out) HC0.out A67.out).mono ?_); rintro e w68 ⟨rfl, hb⟩; refine ⟨_, rfl, ?_⟩; replace HB := zbs HB.out hb; (try clear hb)))
        go_ret
        exact ⟨zE, zB HB.out⟩
 ·replace c3 := Bool.eq_false_iff.mpr c3
  subst c3
  rw [if_neg Bool.false_ne_true] at H; obtain rfl := Option.some.inj H
  go_enter Tryz.func31, Tryz.ntmps31
  go_wp2_with (first | ((with_reducible refine zgc 32 ?_); refine goesL_ (some 12) rfl rfl Tryz.func32 (by kernel_rfl) rfl #[.int .i64 (l0.length : Int), .int .i64 3, .int .i64 8] rfl zM ?_; (with_reducible refine (spec_l00In.calls (l0.length : Int) 3 8 false _ A2.out).mono ?_); rintro e w' ⟨rfl, ⟨nd, rfl⟩⟩; refine ⟨_, rfl, ?_⟩))
  go_ret
  exact ⟨zE, zB HB.out⟩

end
end Go.Proofs.YtchngbjpjbahiaaGreatDoor.PSailz

