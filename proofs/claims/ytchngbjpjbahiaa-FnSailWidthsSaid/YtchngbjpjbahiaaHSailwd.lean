import Derived.Test.YtchngbjpjbahiaaHSailw0
import Derived.Test.YtchngbjpjbahiaaHSailwa
import Derived.Test.YtchngbjpjbahiaaHSailwc
namespace Go.Proofs.Ytchngbjpjbahiaa.PSailw
noncomputable section
open Go.RowKit Go.Proofs.YtchngbjpjbahiaaW.PrintWords Go.Proofs.YtchngbjpjbahiaaW.PrintLast Go.Proofs.YtchngbjpjbahiaaW.PrintMore
attribute [local go_sem] max2_int min2_int max_two min_two max_three min_three max_four min_four   -- for this text's walks alone
set_option linter.unusedVariables false
set_option linter.unusedSimpArgs false
set_option maxHeartbeats 8000000
set_option maxRecDepth 100000

mutual
def spec_l13Ok.l0 : Nat → List (S49) → Int → Int → Option (Bool)
 | 0, _, _, _ => none
 | k + 1, x0, x3, x4 => if x4 < x3 then (if 0 ≤ x4 then (if x4 < (x0.length : Int) then ((spec_l00In.f ((rd_T49 x0 x4).f0) 0 2000).bind fun lC => (if lC = true then ((spec_l00In.f ((rd_T49 x0 x4).f1) 0 2000).bind fun kC => (if kC = true then (spec_l13Ok.l0 k x0 x3 (wrap64 (x4 + 1))) else (some false))) else (some false))) else (none)) else (none)) else (spec_l13Ok.l1 k x0 x3 0)
def spec_l13Ok.l1 : Nat → List (S49) → Int → Int → Option (Bool)
 | 0, _, _, _ => none
 | k + 1, x0, x3, x5 => if x5 < x3 then (if 0 ≤ x5 then (if x5 < (x0.length : Int) then (if x3 = 0 then (none) else (if 0 ≤ (Int.tmod (wrap64 (x5 + 1)) x3) then (if (Int.tmod (wrap64 (x5 + 1)) x3) < (x0.length : Int) then (if 0 ≤ (Int.tmod (wrap64 (x5 + 2)) x3) then (if (Int.tmod (wrap64 (x5 + 2)) x3) < (x0.length : Int) then ((spec_l13Cross.f ((rd_T49 x0 x5).f0) ((rd_T49 x0 x5).f1) ((rd_T49 x0 (Int.tmod (wrap64 (x5 + 1)) x3)).f0) ((rd_T49 x0 (Int.tmod (wrap64 (x5 + 1)) x3)).f1) ((rd_T49 x0 (Int.tmod (wrap64 (x5 + 2)) x3)).f0) ((rd_T49 x0 (Int.tmod (wrap64 (x5 + 2)) x3)).f1)).bind fun aB => (if aB = 0 then (some false) else (spec_l13Ok.l2 k x0 x3 x5 (wrap64 (x5 + 2)) ((rd_T49 x0 x5).f0) ((rd_T49 x0 x5).f1) ((rd_T49 x0 (Int.tmod (wrap64 (x5 + 1)) x3)).f0) ((rd_T49 x0 (Int.tmod (wrap64 (x5 + 1)) x3)).f1)))) else (none)) else (none)) else (none)) else (none))) else (none)) else (none)) else ((spec_l13Twice.f k x0).bind fun jC => (some (decide (jC > 0))))
def spec_l13Ok.l2 : Nat → List (S49) → Int → Int → Int → Int → Int → Int → Int → Option (Bool)
 | 0, _, _, _, _, _, _, _, _ => none
 | k + 1, x0, x3, x5, x8, ZA, YA, XA, WA => if x8 < x3 then (if x5 > 0 then (if 0 ≤ x8 then (if x8 < (x0.length : Int) then (if x3 = 0 then (none) else (if 0 ≤ (Int.tmod (wrap64 (x8 + 1)) x3) then (if (Int.tmod (wrap64 (x8 + 1)) x3) < (x0.length : Int) then ((spec_l13Meet.f k ZA YA XA WA ((rd_T49 x0 x8).f0) ((rd_T49 x0 x8).f1) ((rd_T49 x0 (Int.tmod (wrap64 (x8 + 1)) x3)).f0) ((rd_T49 x0 (Int.tmod (wrap64 (x8 + 1)) x3)).f1)).bind fun DB => (if DB = true then (some false) else (spec_l13Ok.l2 k x0 x3 x5 (wrap64 (x8 + 1)) ZA YA XA WA))) else (none)) else (none))) else (none)) else (none)) else (if x8 < (wrap64 (x3 - 1)) then (if 0 ≤ x8 then (if x8 < (x0.length : Int) then (if x3 = 0 then (none) else (if 0 ≤ (Int.tmod (wrap64 (x8 + 1)) x3) then (if (Int.tmod (wrap64 (x8 + 1)) x3) < (x0.length : Int) then ((spec_l13Meet.f k ZA YA XA WA ((rd_T49 x0 x8).f0) ((rd_T49 x0 x8).f1) ((rd_T49 x0 (Int.tmod (wrap64 (x8 + 1)) x3)).f0) ((rd_T49 x0 (Int.tmod (wrap64 (x8 + 1)) x3)).f1)).bind fun CB => (if CB = true then (some false) else (spec_l13Ok.l2 k x0 x3 x5 (wrap64 (x8 + 1)) ZA YA XA WA))) else (none)) else (none))) else (none)) else (none)) else (spec_l13Ok.l2 k x0 x3 x5 (wrap64 (x8 + 1)) ZA YA XA WA))) else (spec_l13Ok.l1 k x0 x3 (wrap64 (x5 + 1)))
end
def spec_l13Ok.f (k : Nat) (l0 : List (S49)) : Option (Bool) := (spec_l00In.f (l0.length : Int) 3 8).bind fun mC => (if mC = true then (spec_l13Ok.l0 k l0 (l0.length : Int) 0) else (some false))
def spec_l13Ok.T14 : Bool × List (List Nat × List Nat) := (true, [([], []), ([], []), ([], []), ([], []), ([3], [3]), ([], []), ([4, 5], [4, 5]), ([2, 6], [2, 6]), ([7], [7]), ([0, 1, 8], [0, 1, 8]), ([9], [9])])
def spec_l13Ok.B14 : List Nat := [0, 0, 0, 0, 8, 0, 56, 124, 252, 511, 1023]
theorem spec_l13Ok.tab14 : rtab .any (opsOf Try.f25 14) = spec_l13Ok.T14 := by kernel_rfl
theorem spec_l13Ok.bits14 : waitsOk spec_l13Ok.T14.2 spec_l13Ok.B14 = true := by kernel_rfl
def spec_l13Ok.T19 : Bool × List (List Nat × List Nat) := (true, [([], []), ([0], [0]), ([1], [1]), ([2], [2]), ([2], [2]), ([4, 2], [2, 4]), ([3, 5, 2], [2, 3, 5]), ([2, 6], [2, 6]), ([7, 2], [7]), ([8], [8]), ([8], [8]), ([8], [8]), ([8], [8]), ([11, 12, 8], [8, 11, 12]), ([13, 8], [8, 13]), ([8], [8]), ([8], [8]), ([16, 8], [8, 16]), ([8], [8]), ([17, 18, 8], [8, 17, 18]), ([15, 19, 8], [8, 15, 19]), ([20, 8], [8, 20]), ([9, 10, 14, 21, 8, 8], [8, 9, 10, 14, 21]), ([8, 22], [8, 22])])
def spec_l13Ok.B19 : List Nat := [0, 1, 3, 7, 7, 23, 63, 127, 255, 511, 511, 511, 511, 6655, 14847, 511, 511, 66047, 511, 459263, 1016319, 2064895, 4194303, 8388607]
theorem spec_l13Ok.tab19 : rtab .any (opsOf Try.f25 19) = spec_l13Ok.T19 := by kernel_rfl
theorem spec_l13Ok.bits19 : waitsOk spec_l13Ok.T19.2 spec_l13Ok.B19 = true := by kernel_rfl
theorem spec_l13Ok.calls (k : Nat) (A0 : Option Addr) (c0 : Nat) (l0 : List (S49)) (r : Bool) (w : World) (mD : Kd.C k49 w A0 l0.length l0) (rD : l0.length ≤ c0) (h : spec_l13Ok.f k l0 = some r) :
  Calls Try.prog 25 #[.slice A0 l0.length c0] w fun e w' => e = .returned (.bool r) ∧ Below w.heap.size w w' := by
 have PD := Try.underlying49
 have hB := zQ mD
 have QD := zQ rD
 clear mD rD
 have HB := zQ (Below.refl w.heap.size w)
 have H := h; unfold spec_l13Ok.f at H
 clear h
 replace H := zob H; obtain ⟨mC, A2, H⟩ := H
 by_cases c3 : mC = true
 ·subst c3
  rw [if_pos rfl] at H; have H' := zQ H; clear H
  go_enter Try.func25, Try.ntmps25
  go_wp2_with (first | ((with_reducible refine zgc 27 ?_); refine zgo (some 12) Try.func27 #[.int .i64 (l0.length : Int), .int .i64 3, .int .i64 8] ?_; (with_reducible refine (spec_l00In.calls (l0.length : Int) 3 8 true _ A2.out).mono ?_); rintro e w' ⟨rfl, ⟨nd, rfl⟩⟩; refine ⟨_, rfl, ?_⟩))
  go_loopg [4] k (fun kq v4 w' => ∃ (oA : Int), v4 = .int .i64 oA ∧ Aside0 (spec_l13Ok.l0 kq l0 (l0.length : Int) oA = some r) ∧ Aside0 (kq ≤ k) ∧ Aside0 (Below w.heap.size w w'))
  case atStart => exact ⟨(0), (zF), H', ⟨Nat.le_refl _⟩, ⟨zB HB.out⟩⟩
  case round =>
   clear H'; (try clear c2); (try clear p2); (try clear c3); obtain ⟨oA, rfl, HA, OB, HB⟩ := hrel
   cases gk with
   | zero => exact absurd HA.out (by simp [spec_l13Ok.l0])
   | succ k1 =>
    have H := HA.out; clear HA
    simp only [spec_l13Ok.l0] at H
    by_cases c4 : oA < (l0.length : Int)
    ·rw [if_pos c4] at H
     have vC := decide_eq_true c4; clear c4
     by_cases c5 : 0 ≤ oA
     ·rw [if_pos c5] at H
      have FC := decide_eq_true c5; clear c5
      by_cases c6 : oA < (l0.length : Int)
      ·rw [if_pos c6] at H
       have EC := decide_eq_true c6; clear c6; replace H := zob H; obtain ⟨lC, A7, H⟩ := H
       by_cases c8 : lC = true
       ·subst c8
        rw [if_pos rfl] at H; replace H := zob H; obtain ⟨kC, A9, H⟩ := H
        by_cases CC : kC = true
        ·subst CC
         rw [if_pos rfl] at H; have H' := zQ H; clear H; have cB : 0 ≤ (oA : Int) := zD; have bB : oA < (l0.length : Int) := zD; obtain ⟨BB, EB, wA, vA⟩ := at_T49 hB.out oA cB bB
         cases EB
         replace wA := zw HB.out wA; replace vA := zw HB.out vA; replace cB := eq_true cB; replace bB := eq_true bB
         go_wp2_with (first | ((with_reducible refine zgc 27 ?_); refine zgo (some 24) Try.func27 #[.int .i64 ((rd_T49 l0 oA).f0), .int .i64 0, .int .i64 2000] ?_; (with_reducible refine (spec_l00In.calls ((rd_T49 l0 oA).f0) 0 2000 true _ A7.out).mono ?_); rintro e w' ⟨rfl, ⟨nd, rfl⟩⟩; refine ⟨_, rfl, ?_⟩; have jB : 0 ≤ (oA : Int) := zD; have iB : oA < (l0.length : Int) := zD; obtain ⟨MB, uC, SA, RA⟩ := at_T49 hB.out oA jB iB; obtain rfl : BB = MB := (by injection uC); replace SA := zw HB.out SA; replace RA := zw HB.out RA; replace jB := eq_true jB; replace iB := eq_true iB) | (go_at_call 27; (with_reducible refine (spec_l00In.calls ((rd_T49 l0 oA).f1) 0 2000 true _ A9.out).mono ?_); rintro e w' ⟨rfl, ⟨nd, rfl⟩⟩))
         go_roundg k1
         case measure => have := OB.out; omega
         case rel => exact ⟨(wrap64 (oA + 1)), (zF), H', ⟨by have := OB.out; omega⟩, ⟨zB HB.out⟩⟩
        ·replace CC := Bool.eq_false_iff.mpr CC
         subst CC
         rw [if_neg Bool.false_ne_true] at H; obtain rfl := Option.some.inj H; have cB : 0 ≤ (oA : Int) := zD; have bB : oA < (l0.length : Int) := zD; obtain ⟨BB, EB, wA, vA⟩ := at_T49 hB.out oA cB bB
         cases EB
         replace wA := zw HB.out wA; replace vA := zw HB.out vA; replace cB := eq_true cB; replace bB := eq_true bB
         go_wp2_with (first | ((with_reducible refine zgc 27 ?_); refine zgo (some 24) Try.func27 #[.int .i64 ((rd_T49 l0 oA).f0), .int .i64 0, .int .i64 2000] ?_; (with_reducible refine (spec_l00In.calls ((rd_T49 l0 oA).f0) 0 2000 true _ A7.out).mono ?_); rintro e w' ⟨rfl, ⟨nd, rfl⟩⟩; refine ⟨_, rfl, ?_⟩; have jB : 0 ≤ (oA : Int) := zD; have iB : oA < (l0.length : Int) := zD; obtain ⟨MB, uC, SA, RA⟩ := at_T49 hB.out oA jB iB; obtain rfl : BB = MB := (by injection uC); replace SA := zw HB.out SA; replace RA := zw HB.out RA; replace jB := eq_true jB; replace iB := eq_true iB) | (go_at_call 27; (with_reducible refine (spec_l00In.calls ((rd_T49 l0 oA).f1) 0 2000 false _ A9.out).mono ?_); rintro e w' ⟨rfl, ⟨nd, rfl⟩⟩))
         go_ret
         exact ⟨zE, zB HB.out⟩
       ·replace c8 := Bool.eq_false_iff.mpr c8
        subst c8
        rw [if_neg Bool.false_ne_true] at H; obtain rfl := Option.some.inj H; have cB : 0 ≤ (oA : Int) := zD; have bB : oA < (l0.length : Int) := zD; obtain ⟨BB, EB, wA, vA⟩ := at_T49 hB.out oA cB bB
        cases EB
        replace wA := zw HB.out wA; replace vA := zw HB.out vA; replace cB := eq_true cB; replace bB := eq_true bB
        go_wp2_with (first | ((with_reducible refine zgc 27 ?_); refine zgo (some 24) Try.func27 #[.int .i64 ((rd_T49 l0 oA).f0), .int .i64 0, .int .i64 2000] ?_; (with_reducible refine (spec_l00In.calls ((rd_T49 l0 oA).f0) 0 2000 false _ A7.out).mono ?_); rintro e w' ⟨rfl, ⟨nd, rfl⟩⟩; refine ⟨_, rfl, ?_⟩))
        go_ret
        exact ⟨zE, zB HB.out⟩
      ·rw [if_neg c6] at H
       exact absurd H (by simp)
     ·rw [if_neg c5] at H
      exact absurd H (by simp)
    ·rw [if_neg c4] at H
     have vC := decide_eq_false c4; clear c4; have H' := zQ H; clear H
     go_wp2
     go_loopg [5] k1 (fun kq v5 w' => ∃ (cA : Int), v5 = .int .i64 cA ∧ Aside0 (spec_l13Ok.l1 kq l0 (l0.length : Int) cA = some r) ∧ Aside0 (kq ≤ k1) ∧ Aside0 (Below w.heap.size w w'))
     case atStart => exact ⟨(0), (zF), H', ⟨Nat.le_refl _⟩, ⟨zB HB.out⟩⟩
     case round =>
      clear H'; (try clear c1); (try clear p1); (try clear q1); (try clear OD); (try clear c2); (try clear p2); (try clear c3); (try clear c4); (try clear vC); (try clear c5); (try clear FC); (try clear c6); (try clear EC); (try clear p6); (try clear c8); (try clear CC); (try clear wA); (try clear vA); (try clear SA); (try clear RA); (try clear cB); (try clear jB); (try clear p2); (try clear bB); (try clear iB); obtain ⟨cA, rfl, HA, HK2, HB⟩ := hrel
      cases gk with
      | zero => exact absurd HA.out (by simp [spec_l13Ok.l1])
      | succ k2 =>
       have H := HA.out; clear HA
       simp only [spec_l13Ok.l1] at H
       by_cases wC : cA < (l0.length : Int)
       ·rw [if_pos wC] at H
        have iC := decide_eq_true wC; clear wC
        by_cases ZC : 0 ≤ cA
        ·rw [if_pos ZC] at H
         have YC := decide_eq_true ZC; clear ZC
         by_cases XC : cA < (l0.length : Int)
         ·rw [if_pos XC] at H
          have WC := decide_eq_true XC; clear XC
          by_cases BC : (l0.length : Int) = 0
          ·rw [if_pos BC] at H
           exact absurd H (by simp)
          ·rw [if_neg BC] at H
           have VC : ((l0.length : Int) == 0) = false := beq_eq_false_iff_ne.mpr BC; have UC : ((l0.length : Int) != 0) = true := bne_iff_ne.mpr BC
           have TC : ¬ (l0 = []) := fun h_ => BC (by rw [h_]; rfl)
           obtain ⟨dA, TA⟩ : ∃ j_ : Int, (Int.tmod (wrap64 (cA + 1)) (l0.length : Int)) = j_ := ⟨_, rfl⟩
           replace H : (if 0 ≤ (dA) then (if (dA) < (l0.length : Int) then (if 0 ≤ (Int.tmod (wrap64 (cA + 2)) (l0.length : Int)) then (if (Int.tmod (wrap64 (cA + 2)) (l0.length : Int)) < (l0.length : Int) then ((spec_l13Cross.f ((rd_T49 l0 cA).f0) ((rd_T49 l0 cA).f1) ((rd_T49 l0 (dA)).f0) ((rd_T49 l0 (dA)).f1) ((rd_T49 l0 (Int.tmod (wrap64 (cA + 2)) (l0.length : Int))).f0) ((rd_T49 l0 (Int.tmod (wrap64 (cA + 2)) (l0.length : Int))).f1)).bind fun aB => (if aB = 0 then (some false) else (spec_l13Ok.l2 k2 l0 (l0.length : Int) cA (wrap64 (cA + 2)) ((rd_T49 l0 cA).f0) ((rd_T49 l0 cA).f1) ((rd_T49 l0 (dA)).f0) ((rd_T49 l0 (dA)).f1)))) else (none)) else (none)) else (none)) else (none)) = some r := by first | (rw [TA] at H; exact H) | (simp only [TA] at H ⊢; exact H)
           by_cases SC : 0 ≤ (dA)
           ·rw [if_pos SC] at H
            have RC := decide_eq_true SC; clear SC
            by_cases QC : (dA) < (l0.length : Int)
            ·rw [if_pos QC] at H
             have PC := decide_eq_true QC; clear QC; obtain ⟨rA, eB⟩ : ∃ j_ : Int, (Int.tmod (wrap64 (cA + 2)) (l0.length : Int)) = j_ := ⟨_, rfl⟩
             replace H : (if 0 ≤ (rA) then (if (rA) < (l0.length : Int) then ((spec_l13Cross.f ((rd_T49 l0 cA).f0) ((rd_T49 l0 cA).f1) ((rd_T49 l0 (dA)).f0) ((rd_T49 l0 (dA)).f1) ((rd_T49 l0 (rA)).f0) ((rd_T49 l0 (rA)).f1)).bind fun aB => (if aB = 0 then (some false) else (spec_l13Ok.l2 k2 l0 (l0.length : Int) cA (wrap64 (cA + 2)) ((rd_T49 l0 cA).f0) ((rd_T49 l0 cA).f1) ((rd_T49 l0 (dA)).f0) ((rd_T49 l0 (dA)).f1)))) else (none)) else (none)) = some r := by first | (rw [eB] at H; exact H) | (simp only [eB] at H ⊢; exact H)
             by_cases OC : 0 ≤ (rA)
             ·rw [if_pos OC] at H
              have NC := decide_eq_true OC; clear OC
              by_cases MC : (rA) < (l0.length : Int)
              ·rw [if_pos MC] at H
               have LC := decide_eq_true MC; clear MC; replace H := zob H; obtain ⟨aB, JD, H⟩ := H
               by_cases hC : aB = 0
               ·rw [if_pos hC] at H
                have gC : (aB == 0) = true := beq_iff_eq.mpr hC; have fC : (aB != 0) = false := bne_eq_false_iff_eq.mpr hC; clear hC; obtain rfl := Option.some.inj H; have pB : 0 ≤ (cA : Int) := zD; have mB : cA < (l0.length : Int) := zD; obtain ⟨eA, tC, VA, UA⟩ := at_T49 hB.out cA pB mB
                cases tC
                replace VA := zw HB.out VA; replace UA := zw HB.out UA; replace pB := eq_true pB; replace mB := eq_true mB
                try go_wp2_with (first | ((with_reducible refine zd 6 ?_); refine zbx (N := 6) (cs := #[.int .i64 0, .int .i64 0]) (t := 49) ?_; intro hA hg hE fB hb; have aA := zQ (fB); have gB := zgz hg HB.out; have nA := gB; replace HB := zbs HB.out hb; clear hb fB hg; obtain ⟨eC, dC, WB, VB⟩ := zy2 aA.out; have oB : 0 ≤ ((dA) : Int) := zD; have lB : (dA) < (l0.length : Int) := zD; obtain ⟨LB, sC, jA, mA⟩ := at_T49 hB.out (dA) oB lB; obtain rfl : eA = LB := (by injection sC); have lA : eA.block ≠ hA := Nat.ne_of_lt (Nat.lt_of_lt_of_le (by have := World.block_lt_of_cell? _ _ jA; first | rwa [add_block] at this | exact this) gB.out); have kA : eA.block ≠ hA := Nat.ne_of_lt (Nat.lt_of_lt_of_le (by have := World.block_lt_of_cell? _ _ jA; first | rwa [add_block] at this | exact this) gB.out); replace jA := zw HB.out jA; replace mA := zw HB.out mA; replace jA := (cell_far (p := ⟨hA, 0, none⟩) (by first | (rw [add_block]; exact lA) | (show (Addr.add _ _).block ≠ _; rw [add_block]; exact lA) | exact lA) (.int .i64 ((rd_T49 l0 cA).f0))).trans jA; replace mA := (cell_far (p := ⟨hA, 0, none⟩) (by first | (rw [add_block]; exact lA) | (show (Addr.add _ _).block ≠ _; rw [add_block]; exact lA) | exact lA) (.int .i64 ((rd_T49 l0 cA).f0))).trans mA; replace jA := (cell_far (p := ⟨hA, 1, none⟩) (by first | (rw [add_block]; exact kA) | (show (Addr.add _ _).block ≠ _; rw [add_block]; exact kA) | exact kA) (.int .i64 ((rd_T49 l0 cA).f1))).trans jA; replace mA := (cell_far (p := ⟨hA, 1, none⟩) (by first | (rw [add_block]; exact kA) | (show (Addr.add _ _).block ≠ _; rw [add_block]; exact kA) | exact kA) (.int .i64 ((rd_T49 l0 cA).f1))).trans mA; clear lA; clear kA; replace oB := eq_true oB; replace lB := eq_true lB) | ((with_reducible refine zd 7 ?_); refine zbx (N := 7) (cs := #[.int .i64 0, .int .i64 0]) (t := 49) ?_; intro iA hg bD fB hb; have bA := zQ (fB); have NB := zgz2 hg HB.out nA.out; have xA := NB; have sA := zQ ((by rw [hg]; exact Nat.ne_of_lt (blk_lt (g := hA) (o := .cells #[.int .i64 ((rd_T49 l0 cA).f0), .int .i64 ((rd_T49 l0 cA).f1)] 49 (0, 0)) (by refine zb ?_; refine blk_put (cs := #[.int .i64 ((rd_T49 l0 cA).f0), .int .i64 0]) ?_ 1 _ rfl; refine zb ?_; refine blk_put (cs := #[.int .i64 0, .int .i64 0]) ?_ 0 _ rfl; refine zb ?_; exact aA.out)) : hA ≠ iA)); have dB := zQ ((by rw [hg]; exact Nat.ne_of_gt (blk_lt (g := hA) (o := .cells #[.int .i64 ((rd_T49 l0 cA).f0), .int .i64 ((rd_T49 l0 cA).f1)] 49 (0, 0)) (by refine zb ?_; refine blk_put (cs := #[.int .i64 ((rd_T49 l0 cA).f0), .int .i64 0]) ?_ 1 _ rfl; refine zb ?_; refine blk_put (cs := #[.int .i64 0, .int .i64 0]) ?_ 0 _ rfl; refine zb ?_; exact aA.out)) : iA ≠ hA)); replace aA := zQ (blk_below (g := hA) (o := .cells #[.int .i64 ((rd_T49 l0 cA).f0), .int .i64 ((rd_T49 l0 cA).f1)] 49 (0, 0)) (by refine zb ?_; refine blk_put (cs := #[.int .i64 ((rd_T49 l0 cA).f0), .int .i64 0]) ?_ 1 _ rfl; refine zb ?_; refine blk_put (cs := #[.int .i64 0, .int .i64 0]) ?_ 0 _ rfl; refine zb ?_; exact aA.out) hb); replace HB := zbs2 HB.out nA.out hb; clear hb fB hg; have qD := dB.out; have oD := sA.out; obtain ⟨cC, bC, UB, TB⟩ := zy2 bA.out))
                have n0_ : Aside0 (((bD.setCell ⟨iA, 0, none⟩ (.int .i64 ((rd_T49 l0 (dA)).f0))).setCell ⟨iA, 1, none⟩ (.int .i64 ((rd_T49 l0 (dA)).f1))).heap[hA]? = some (.cells #[.int .i64 ((rd_T49 l0 cA).f0), .int .i64 ((rd_T49 l0 cA).f1)] 49 (0, 0))) := ⟨by refine zb ?_; refine blk_far ?_ sA.out _; refine zb ?_; refine blk_far ?_ sA.out _; refine zb ?_; exact aA.out⟩; have n1_ : Aside0 (((bD.setCell ⟨iA, 0, none⟩ (.int .i64 ((rd_T49 l0 (dA)).f0))).setCell ⟨iA, 1, none⟩ (.int .i64 ((rd_T49 l0 (dA)).f1))).heap[iA]? = some (.cells #[.int .i64 ((rd_T49 l0 (dA)).f0), .int .i64 ((rd_T49 l0 (dA)).f1)] 49 (0, 0))) := ⟨by refine zb ?_; refine blk_put (cs := #[.int .i64 ((rd_T49 l0 (dA)).f0), .int .i64 0]) ?_ 1 _ rfl; refine zb ?_; refine blk_put (cs := #[.int .i64 0, .int .i64 0]) ?_ 0 _ rfl; refine zb ?_; exact bA.out⟩; have n2_ : Aside0 (Below w.heap.size w ((bD.setCell ⟨iA, 0, none⟩ (.int .i64 ((rd_T49 l0 (dA)).f0))).setCell ⟨iA, 1, none⟩ (.int .i64 ((rd_T49 l0 (dA)).f1)))) := ⟨zB3 HB.out nA.out xA.out⟩
                (try clear aA)
                (try clear bA)
                (try clear HB)
                generalize ((bD.setCell ⟨iA, 0, none⟩ (.int .i64 ((rd_T49 l0 (dA)).f0))).setCell ⟨iA, 1, none⟩ (.int .i64 ((rd_T49 l0 (dA)).f1))) = LD at n0_ n1_ n2_ ⊢
                have aA := n0_; have bA := n1_; have HB := n2_; clear n0_ n1_ n2_; have n0_ := zQ (blk_drew aA.out); have n1_ := zQ (blk_drew bA.out); have n2_ := zQ (below_drew1 HB.out); clear aA; clear bA; clear HB; have aA := n0_; have bA := n1_; have HB := n2_; clear n0_ n1_ n2_; have nB : 0 ≤ ((rA) : Int) := zD; have kB : (rA) < (l0.length : Int) := zD; obtain ⟨KB, rC, uA, tA⟩ := at_T49 hB.out (rA) nB kB; have PA := tA; have QA := uA; obtain rfl : eA = KB := (by injection rC); replace uA := zw HB.out uA; replace tA := zw HB.out tA; replace nB := eq_true nB; replace kB := eq_true kB
                refine zs (fun w' => w'.cell? ⟨hA, 0, none⟩ = some (.int .i64 ((rd_T49 l0 cA).f0)) ∧ w'.cell? ⟨hA, 1, none⟩ = some (.int .i64 ((rd_T49 l0 cA).f1)) ∧ w'.cell? ⟨iA, 0, none⟩ = some (.int .i64 ((rd_T49 l0 (dA)).f0)) ∧ w'.cell? ⟨iA, 1, none⟩ = some (.int .i64 ((rd_T49 l0 (dA)).f1)) ∧ w'.cell? (eA.add (((rA)).toNat * 2)) = some (.int .i64 ((rd_T49 l0 (rA)).f0)) ∧ w'.cell? ⟨(eA.add (((rA)).toNat * 2)).block, (eA.add (((rA)).toNat * 2)).off + 1, none⟩ = some (.int .i64 ((rd_T49 l0 (rA)).f1))) [] 11 ⟨(blk_cell aA.out 0).trans rfl, (blk_cell aA.out 1).trans rfl, (blk_cell bA.out 0).trans rfl, (blk_cell bA.out 1).trans rfl, ((HB.out.cell (World.block_lt_of_cell? w _ QA)).trans QA), ((HB.out.cell (World.block_lt_of_cell? w _ PA)).trans PA)⟩ (fun gA => ?_); refine with_tabW spec_l13Ok.tab14 spec_l13Ok.bits14 (fun HT_ HW_ => ?_)
                generalize LD.drew = gE at aA bA HB uA tA gA ⊢
                refine zp 2 53 ?_
                refine zp 3 54 ?_
                refine zp 4 55 ?_
                refine zp 5 56 ?_
                refine zp 6 57 ?_
                refine zp 7 58 ?_
                refine zt 0 51 gA ?_
                refine zt 1 52 gA ?_
                refine zt 8 59 gA ?_
                refine zo 9 (some 60) (fun K hK => ?_)
                refine goes_ Try.func50 (by kernel_rfl) rfl #[.agg #[.int .i64 ((rd_T49 l0 cA).f0), .int .i64 ((rd_T49 l0 cA).f1)], .agg #[.int .i64 ((rd_T49 l0 (dA)).f0), .int .i64 ((rd_T49 l0 (dA)).f1)], .agg #[.int .i64 ((rd_T49 l0 (rA)).f0), .int .i64 ((rd_T49 l0 (rA)).f1)]] (by rfl) rfl rfl (by (try simp only [List.map_toArray, List.map_cons, List.map_nil]); first | done | (simp only [TA, eB]; rfl) | rfl | (simp only [List.length_drop, List.length_take]; rfl)) ?_
                with_reducible refine (spec_l13Cross.calls ((rd_T49 l0 cA).f0) ((rd_T49 l0 cA).f1) ((rd_T49 l0 (dA)).f0) ((rd_T49 l0 (dA)).f1) ((rd_T49 l0 (rA)).f0) ((rd_T49 l0 (rA)).f1) aB _ JD.out).mono ?_
                rintro e fE ⟨rfl, hb⟩
                refine ⟨_, rfl, ?_⟩
                have n0_ := zbl aA.out hb; have n1_ := zbl bA.out hb; have n2_ := zQ (below_step (zB3 HB.out nA.out xA.out) hb); clear aA; clear bA; clear HB; have aA := n0_; have bA := n1_; have HB := n2_; clear n0_ n1_ n2_
                (try clear hb)
                (try clear DC)
                (try clear hk)
                (try clear hi)
                refine hK.out _ _ ⟨(blk_cell aA.out 0).trans rfl, (blk_cell aA.out 1).trans rfl, (blk_cell bA.out 0).trans rfl, (blk_cell bA.out 1).trans rfl, ((HB.out.cell (World.block_lt_of_cell? w _ QA)).trans QA), ((HB.out.cell (World.block_lt_of_cell? w _ PA)).trans PA)⟩ (fun gA => ?_)
                clear hK K
                refine zn 60 ?_
                refine zp 10 61 ?_
                refine done_ (done_of HT_.out (by kernel_rfl)) ?_
                try go_wp2
                go_ret
                exact ⟨by first | rfl | (simp [errW_none, errW_some] <;> rfl) | (simp only [← TA, ← eB]; first | rfl | (simp [errW_none, errW_some] <;> rfl)) | (simp [*, errW_none, errW_some] <;> rfl), zB3 HB.out nA.out xA.out⟩
               ·rw [if_neg hC] at H
                have gC : (aB == 0) = false := beq_eq_false_iff_ne.mpr hC; have fC : (aB != 0) = true := bne_iff_ne.mpr hC; have H' := zQ H; clear H; have pB : 0 ≤ (cA : Int) := zD; have mB : cA < (l0.length : Int) := zD; obtain ⟨eA, tC, VA, UA⟩ := at_T49 hB.out cA pB mB
                cases tC
                replace VA := zw HB.out VA; replace UA := zw HB.out UA; replace pB := eq_true pB; replace mB := eq_true mB
                try go_wp2_with (first | ((with_reducible refine zd 6 ?_); refine zbx (N := 6) (cs := #[.int .i64 0, .int .i64 0]) (t := 49) ?_; intro hA hg eE fB hb; have aA := zQ (fB); have gB := zgz hg HB.out; have nA := gB; replace HB := zbs HB.out hb; clear hb fB hg; obtain ⟨aC, ZB, SB, RB⟩ := zy2 aA.out; have oB : 0 ≤ ((dA) : Int) := zD; have lB : (dA) < (l0.length : Int) := zD; obtain ⟨LB, sC, jA, mA⟩ := at_T49 hB.out (dA) oB lB; obtain rfl : eA = LB := (by injection sC); have lA : eA.block ≠ hA := Nat.ne_of_lt (Nat.lt_of_lt_of_le (by have := World.block_lt_of_cell? _ _ jA; first | rwa [add_block] at this | exact this) gB.out); have kA : eA.block ≠ hA := Nat.ne_of_lt (Nat.lt_of_lt_of_le (by have := World.block_lt_of_cell? _ _ jA; first | rwa [add_block] at this | exact this) gB.out); replace jA := zw HB.out jA; replace mA := zw HB.out mA; replace jA := (cell_far (p := ⟨hA, 0, none⟩) (by first | (rw [add_block]; exact lA) | (show (Addr.add _ _).block ≠ _; rw [add_block]; exact lA) | exact lA) (.int .i64 ((rd_T49 l0 cA).f0))).trans jA; replace mA := (cell_far (p := ⟨hA, 0, none⟩) (by first | (rw [add_block]; exact lA) | (show (Addr.add _ _).block ≠ _; rw [add_block]; exact lA) | exact lA) (.int .i64 ((rd_T49 l0 cA).f0))).trans mA; replace jA := (cell_far (p := ⟨hA, 1, none⟩) (by first | (rw [add_block]; exact kA) | (show (Addr.add _ _).block ≠ _; rw [add_block]; exact kA) | exact kA) (.int .i64 ((rd_T49 l0 cA).f1))).trans jA; replace mA := (cell_far (p := ⟨hA, 1, none⟩) (by first | (rw [add_block]; exact kA) | (show (Addr.add _ _).block ≠ _; rw [add_block]; exact kA) | exact kA) (.int .i64 ((rd_T49 l0 cA).f1))).trans mA; clear lA; clear kA; replace oB := eq_true oB; replace lB := eq_true lB) | ((with_reducible refine zd 7 ?_); refine zbx (N := 7) (cs := #[.int .i64 0, .int .i64 0]) (t := 49) ?_; intro iA hg aD fB hb; have bA := zQ (fB); have NB := zgz2 hg HB.out nA.out; have xA := NB; have sA := zQ ((by rw [hg]; exact Nat.ne_of_lt (blk_lt (g := hA) (o := .cells #[.int .i64 ((rd_T49 l0 cA).f0), .int .i64 ((rd_T49 l0 cA).f1)] 49 (0, 0)) (by refine zb ?_; refine blk_put (cs := #[.int .i64 ((rd_T49 l0 cA).f0), .int .i64 0]) ?_ 1 _ rfl; refine zb ?_; refine blk_put (cs := #[.int .i64 0, .int .i64 0]) ?_ 0 _ rfl; refine zb ?_; exact aA.out)) : hA ≠ iA)); have dB := zQ ((by rw [hg]; exact Nat.ne_of_gt (blk_lt (g := hA) (o := .cells #[.int .i64 ((rd_T49 l0 cA).f0), .int .i64 ((rd_T49 l0 cA).f1)] 49 (0, 0)) (by refine zb ?_; refine blk_put (cs := #[.int .i64 ((rd_T49 l0 cA).f0), .int .i64 0]) ?_ 1 _ rfl; refine zb ?_; refine blk_put (cs := #[.int .i64 0, .int .i64 0]) ?_ 0 _ rfl; refine zb ?_; exact aA.out)) : iA ≠ hA)); replace aA := zQ (blk_below (g := hA) (o := .cells #[.int .i64 ((rd_T49 l0 cA).f0), .int .i64 ((rd_T49 l0 cA).f1)] 49 (0, 0)) (by refine zb ?_; refine blk_put (cs := #[.int .i64 ((rd_T49 l0 cA).f0), .int .i64 0]) ?_ 1 _ rfl; refine zb ?_; refine blk_put (cs := #[.int .i64 0, .int .i64 0]) ?_ 0 _ rfl; refine zb ?_; exact aA.out) hb); replace HB := zbs2 HB.out nA.out hb; clear hb fB hg; have pD := dB.out; have nD := sA.out; obtain ⟨YB, XB, QB, PB⟩ := zy2 bA.out))
                have n0_ : Aside0 (((aD.setCell ⟨iA, 0, none⟩ (.int .i64 ((rd_T49 l0 (dA)).f0))).setCell ⟨iA, 1, none⟩ (.int .i64 ((rd_T49 l0 (dA)).f1))).heap[hA]? = some (.cells #[.int .i64 ((rd_T49 l0 cA).f0), .int .i64 ((rd_T49 l0 cA).f1)] 49 (0, 0))) := ⟨by refine zb ?_; refine blk_far ?_ sA.out _; refine zb ?_; refine blk_far ?_ sA.out _; refine zb ?_; exact aA.out⟩; have n1_ : Aside0 (((aD.setCell ⟨iA, 0, none⟩ (.int .i64 ((rd_T49 l0 (dA)).f0))).setCell ⟨iA, 1, none⟩ (.int .i64 ((rd_T49 l0 (dA)).f1))).heap[iA]? = some (.cells #[.int .i64 ((rd_T49 l0 (dA)).f0), .int .i64 ((rd_T49 l0 (dA)).f1)] 49 (0, 0))) := ⟨by refine zb ?_; refine blk_put (cs := #[.int .i64 ((rd_T49 l0 (dA)).f0), .int .i64 0]) ?_ 1 _ rfl; refine zb ?_; refine blk_put (cs := #[.int .i64 0, .int .i64 0]) ?_ 0 _ rfl; refine zb ?_; exact bA.out⟩; have n2_ : Aside0 (Below w.heap.size w ((aD.setCell ⟨iA, 0, none⟩ (.int .i64 ((rd_T49 l0 (dA)).f0))).setCell ⟨iA, 1, none⟩ (.int .i64 ((rd_T49 l0 (dA)).f1)))) := ⟨zB3 HB.out nA.out xA.out⟩
                (try clear aA)
                (try clear bA)
                (try clear HB)
                generalize ((aD.setCell ⟨iA, 0, none⟩ (.int .i64 ((rd_T49 l0 (dA)).f0))).setCell ⟨iA, 1, none⟩ (.int .i64 ((rd_T49 l0 (dA)).f1))) = KD at n0_ n1_ n2_ ⊢
                have aA := n0_; have bA := n1_; have HB := n2_; clear n0_ n1_ n2_; have n0_ := zQ (blk_drew aA.out); have n1_ := zQ (blk_drew bA.out); have n2_ := zQ (below_drew1 HB.out); clear aA; clear bA; clear HB; have aA := n0_; have bA := n1_; have HB := n2_; clear n0_ n1_ n2_; have nB : 0 ≤ ((rA) : Int) := zD; have kB : (rA) < (l0.length : Int) := zD; obtain ⟨KB, rC, uA, tA⟩ := at_T49 hB.out (rA) nB kB; have PA := tA; have QA := uA; obtain rfl : eA = KB := (by injection rC); replace uA := zw HB.out uA; replace tA := zw HB.out tA; replace nB := eq_true nB; replace kB := eq_true kB
                refine zs (fun w' => w'.cell? ⟨hA, 0, none⟩ = some (.int .i64 ((rd_T49 l0 cA).f0)) ∧ w'.cell? ⟨hA, 1, none⟩ = some (.int .i64 ((rd_T49 l0 cA).f1)) ∧ w'.cell? ⟨iA, 0, none⟩ = some (.int .i64 ((rd_T49 l0 (dA)).f0)) ∧ w'.cell? ⟨iA, 1, none⟩ = some (.int .i64 ((rd_T49 l0 (dA)).f1)) ∧ w'.cell? (eA.add (((rA)).toNat * 2)) = some (.int .i64 ((rd_T49 l0 (rA)).f0)) ∧ w'.cell? ⟨(eA.add (((rA)).toNat * 2)).block, (eA.add (((rA)).toNat * 2)).off + 1, none⟩ = some (.int .i64 ((rd_T49 l0 (rA)).f1))) [] 11 ⟨(blk_cell aA.out 0).trans rfl, (blk_cell aA.out 1).trans rfl, (blk_cell bA.out 0).trans rfl, (blk_cell bA.out 1).trans rfl, ((HB.out.cell (World.block_lt_of_cell? w _ QA)).trans QA), ((HB.out.cell (World.block_lt_of_cell? w _ PA)).trans PA)⟩ (fun gA => ?_); refine with_tabW spec_l13Ok.tab14 spec_l13Ok.bits14 (fun HT_ HW_ => ?_)
                generalize KD.drew = dE at aA bA HB uA tA gA ⊢
                refine zp 2 53 ?_
                refine zp 3 54 ?_
                refine zp 4 55 ?_
                refine zp 5 56 ?_
                refine zp 6 57 ?_
                refine zp 7 58 ?_
                refine zt 0 51 gA ?_
                refine zt 1 52 gA ?_
                refine zt 8 59 gA ?_
                refine zo 9 (some 60) (fun K hK => ?_)
                refine goes_ Try.func50 (by kernel_rfl) rfl #[.agg #[.int .i64 ((rd_T49 l0 cA).f0), .int .i64 ((rd_T49 l0 cA).f1)], .agg #[.int .i64 ((rd_T49 l0 (dA)).f0), .int .i64 ((rd_T49 l0 (dA)).f1)], .agg #[.int .i64 ((rd_T49 l0 (rA)).f0), .int .i64 ((rd_T49 l0 (rA)).f1)]] (by rfl) rfl rfl (by (try simp only [List.map_toArray, List.map_cons, List.map_nil]); first | done | (simp only [TA, eB]; rfl) | rfl | (simp only [List.length_drop, List.length_take]; rfl)) ?_
                with_reducible refine (spec_l13Cross.calls ((rd_T49 l0 cA).f0) ((rd_T49 l0 cA).f1) ((rd_T49 l0 (dA)).f0) ((rd_T49 l0 (dA)).f1) ((rd_T49 l0 (rA)).f0) ((rd_T49 l0 (rA)).f1) aB _ JD.out).mono ?_
                rintro e cE ⟨rfl, hb⟩
                refine ⟨_, rfl, ?_⟩
                have n0_ := zbl aA.out hb; have n1_ := zbl bA.out hb; have n2_ := zQ (below_step (zB3 HB.out nA.out xA.out) hb); clear aA; clear bA; clear HB; have aA := n0_; have bA := n1_; have HB := n2_; clear n0_ n1_ n2_
                (try clear hb)
                (try clear DC)
                (try clear hk)
                (try clear hi)
                refine hK.out _ _ ⟨(blk_cell aA.out 0).trans rfl, (blk_cell aA.out 1).trans rfl, (blk_cell bA.out 0).trans rfl, (blk_cell bA.out 1).trans rfl, ((HB.out.cell (World.block_lt_of_cell? w _ QA)).trans QA), ((HB.out.cell (World.block_lt_of_cell? w _ PA)).trans PA)⟩ (fun gA => ?_)
                clear hK K
                refine zn 60 ?_
                refine zp 10 61 ?_
                refine done_ (done_of HT_.out (by kernel_rfl)) ?_
                try go_wp2
                go_loopg [8] k2 (fun kq v8 w' => ∃ (fA : Int), v8 = .int .i64 fA ∧ Aside0 (spec_l13Ok.l2 kq l0 (l0.length : Int) cA fA ((rd_T49 l0 cA).f0) ((rd_T49 l0 cA).f1) ((rd_T49 l0 (dA)).f0) ((rd_T49 l0 (dA)).f1) = some r) ∧ Aside0 (kq ≤ k2) ∧ Aside0 (w'.heap[hA]? = some (.cells #[.int .i64 ((rd_T49 l0 cA).f0), .int .i64 ((rd_T49 l0 cA).f1)] 49 (0, 0))) ∧ Aside0 (w'.heap[iA]? = some (.cells #[.int .i64 ((rd_T49 l0 (dA)).f0), .int .i64 ((rd_T49 l0 (dA)).f1)] 49 (0, 0))) ∧ Aside0 (Below w.heap.size w w'))
                case atStart => exact ⟨(wrap64 (cA + 2)), (zF), H', ⟨Nat.le_refl _⟩, ⟨zb aA.out⟩, ⟨zb bA.out⟩, ⟨zB3 HB.out nA.out xA.out⟩⟩
                case round =>
                 clear H'; (try clear c1); (try clear p1); (try clear q1); (try clear OD); (try clear c2); (try clear p2); (try clear c3); (try clear c4); (try clear vC); (try clear c5); (try clear FC); (try clear c6); (try clear EC); (try clear p6); (try clear c8); (try clear CC); (try clear wC); (try clear iC); (try clear ZC); (try clear YC); (try clear XC); (try clear WC); (try clear lE); (try clear jE); (try clear ND); (try clear BC); (try clear VC); (try clear UC); (try clear TC); (try clear kE); (try clear iE); (try clear MD); (try clear SC); (try clear RC); (try clear QC); (try clear PC); (try clear OC); (try clear NC); (try clear MC); (try clear LC); (try clear hC); (try clear gC); (try clear fC); (try clear pE); (try clear oE); (try clear nE); (try clear mE); (try clear eC dC WB VB); (try clear cC bC UB TB); (try clear aC ZB SB RB); (try clear YB XB QB PB); (try clear wA); (try clear vA); (try clear SA); (try clear RA); (try clear VA); (try clear UA); (try clear jA); (try clear mA); (try clear uA); (try clear tA); (try clear p1); (try clear cB); (try clear jB); (try clear pB); (try clear oB)
                 (try clear nB); (try clear p2); (try clear p6); (try clear q1); (try clear bB); (try clear iB); (try clear mB); (try clear lB); (try clear kB); obtain ⟨fA, rfl, HA, HK3, aA, bA, HB⟩ := hrel
                 cases gk with
                 | zero => exact absurd HA.out (by simp [spec_l13Ok.l2])
                 | succ k3 =>
                  have H := HA.out; clear HA
                  simp only [spec_l13Ok.l2] at H
                  by_cases AC : fA < (l0.length : Int)
                  ·rw [if_pos AC] at H
                   have KC := decide_eq_true AC; clear AC
                   by_cases yC : cA > 0
                   ·rw [if_pos yC] at H
                    have JC := decide_eq_true yC; clear yC
                    by_cases lD : 0 ≤ fA
                    ·rw [if_pos lD] at H
                     have GD := decide_eq_true lD; clear lD
                     by_cases kD : fA < (l0.length : Int)
                     ·rw [if_pos kD] at H
                      have FD := decide_eq_true kD; clear kD
                      by_cases IC : (l0.length : Int) = 0
                      ·rw [if_pos IC] at H
                       exact absurd H (by simp)
                      ·rw [if_neg IC] at H
                       have ED : ((l0.length : Int) == 0) = false := beq_eq_false_iff_ne.mpr IC; have DD : ((l0.length : Int) != 0) = true := bne_iff_ne.mpr IC
                       have CD : ¬ (l0 = []) := fun h_ => IC (by rw [h_]; rfl)
                       obtain ⟨qA, rB⟩ : ∃ j_ : Int, (Int.tmod (wrap64 (fA + 1)) (l0.length : Int)) = j_ := ⟨_, rfl⟩
                       replace H : (if 0 ≤ (qA) then (if (qA) < (l0.length : Int) then ((spec_l13Meet.f k3 ((rd_T49 l0 cA).f0) ((rd_T49 l0 cA).f1) ((rd_T49 l0 (dA)).f0) ((rd_T49 l0 (dA)).f1) ((rd_T49 l0 fA).f0) ((rd_T49 l0 fA).f1) ((rd_T49 l0 (qA)).f0) ((rd_T49 l0 (qA)).f1)).bind fun DB => (if DB = true then (some false) else (spec_l13Ok.l2 k3 l0 (l0.length : Int) cA (wrap64 (fA + 1)) ((rd_T49 l0 cA).f0) ((rd_T49 l0 cA).f1) ((rd_T49 l0 (dA)).f0) ((rd_T49 l0 (dA)).f1)))) else (none)) else (none)) = some r := by first | (rw [rB] at H; exact H) | (simp only [rB] at H ⊢; exact H)
                       by_cases jD : 0 ≤ (qA)
                       ·rw [if_pos jD] at H
                        have BD := decide_eq_true jD; clear jD
                        by_cases iD : (qA) < (l0.length : Int)
                        ·rw [if_pos iD] at H
                         have AD := decide_eq_true iD; clear iD; replace H := zob H; obtain ⟨DB, ID, H⟩ := H
                         by_cases hD : DB = true
                         ·subst hD
                          rw [if_pos rfl] at H; obtain rfl := Option.some.inj H
                          try go_wp2
                          have n0_ := zQ (blk_drew aA.out); have n1_ := zQ (blk_drew bA.out); have n2_ := zQ (below_drew1 HB.out); clear aA; clear bA; clear HB; have aA := n0_; have bA := n1_; have HB := n2_; clear n0_ n1_ n2_; have AB : 0 ≤ (fA : Int) := zD; have vB : fA < (l0.length : Int) := zD; obtain ⟨JB, qC, FA, EA⟩ := at_T49 hB.out fA AB vB; have NA := EA; have OA := FA; obtain rfl : eA = JB := (by injection qC); replace FA := zw HB.out FA; replace EA := zw HB.out EA; replace AB := eq_true AB; replace vB := eq_true vB; have yB : 0 ≤ ((qA) : Int) := zD; have uB : (qA) < (l0.length : Int) := zD; obtain ⟨IB, pC, DA, CA⟩ := at_T49 hB.out (qA) yB uB; have LA := CA; have MA := DA; obtain rfl : eA = IB := (by injection pC); replace DA := zw HB.out DA; replace CA := zw HB.out CA; replace yB := eq_true yB; replace uB := eq_true uB
                          refine zs (fun w' => w'.cell? ⟨hA, 0, none⟩ = some (.int .i64 ((rd_T49 l0 cA).f0)) ∧ w'.cell? ⟨hA, 1, none⟩ = some (.int .i64 ((rd_T49 l0 cA).f1)) ∧ w'.cell? ⟨iA, 0, none⟩ = some (.int .i64 ((rd_T49 l0 (dA)).f0)) ∧ w'.cell? ⟨iA, 1, none⟩ = some (.int .i64 ((rd_T49 l0 (dA)).f1)) ∧ w'.cell? (eA.add ((fA).toNat * 2)) = some (.int .i64 ((rd_T49 l0 fA).f0)) ∧ w'.cell? ⟨(eA.add ((fA).toNat * 2)).block, (eA.add ((fA).toNat * 2)).off + 1, none⟩ = some (.int .i64 ((rd_T49 l0 fA).f1)) ∧ w'.cell? (eA.add (((qA)).toNat * 2)) = some (.int .i64 ((rd_T49 l0 (qA)).f0)) ∧ w'.cell? ⟨(eA.add (((qA)).toNat * 2)).block, (eA.add (((qA)).toNat * 2)).off + 1, none⟩ = some (.int .i64 ((rd_T49 l0 (qA)).f1))) [] 24 ⟨(blk_cell aA.out 0).trans rfl, (blk_cell aA.out 1).trans rfl, (blk_cell bA.out 0).trans rfl, (blk_cell bA.out 1).trans rfl, ((HB.out.cell (World.block_lt_of_cell? w _ OA)).trans OA), ((HB.out.cell (World.block_lt_of_cell? w _ NA)).trans NA), ((HB.out.cell (World.block_lt_of_cell? w _ MA)).trans MA), ((HB.out.cell (World.block_lt_of_cell? w _ LA)).trans LA)⟩ (fun gA => ?_); refine with_tabW spec_l13Ok.tab19 spec_l13Ok.bits19 (fun HT_ HW_ => ?_)
                          generalize wr.drew = bE at aA bA HB FA EA DA CA gA ⊢
                          refine zp 0 69 ?_
                          refine zp 1 70 ?_
                          refine zp 2 71 ?_
                          refine zg 3 72 ?_
                          refine zg 4 73 ?_
                          refine zg 5 74 ?_
                          refine zg 6 75 ?_
                          refine zp 7 76 ?_
                          refine zp 8 77 ?_
                          refine zp 11 80 ?_
                          refine zp 12 81 ?_
                          refine zp 13 82 ?_
                          refine zp 15 84 ?_
                          refine zp 16 85 ?_
                          refine zp 17 86 ?_
                          refine zp 18 87 ?_
                          refine zp 19 88 ?_
                          refine zp 20 89 ?_
                          refine zt 9 78 gA ?_
                          refine zt 10 79 gA ?_
                          refine zt 14 83 gA ?_
                          refine zt 21 90 gA ?_
                          refine zo 22 (some 91) (fun K hK => ?_)
                          refine goes_ Try.func51 (by kernel_rfl) rfl #[.agg #[.int .i64 ((rd_T49 l0 cA).f0), .int .i64 ((rd_T49 l0 cA).f1)], .agg #[.int .i64 ((rd_T49 l0 (dA)).f0), .int .i64 ((rd_T49 l0 (dA)).f1)], .agg #[.int .i64 ((rd_T49 l0 fA).f0), .int .i64 ((rd_T49 l0 fA).f1)], .agg #[.int .i64 ((rd_T49 l0 (qA)).f0), .int .i64 ((rd_T49 l0 (qA)).f1)]] (by rfl) rfl rfl (by (try simp only [List.map_toArray, List.map_cons, List.map_nil]); first | done | (simp only [TA, rB]; rfl) | rfl | (simp only [List.length_drop, List.length_take]; rfl)) ?_
                          with_reducible refine (spec_l13Meet.calls k3 ((rd_T49 l0 cA).f0) ((rd_T49 l0 cA).f1) ((rd_T49 l0 (dA)).f0) ((rd_T49 l0 (dA)).f1) ((rd_T49 l0 fA).f0) ((rd_T49 l0 fA).f1) ((rd_T49 l0 (qA)).f0) ((rd_T49 l0 (qA)).f1) true _ ID.out).mono ?_
                          rintro e aE ⟨rfl, hb⟩
                          refine ⟨_, rfl, ?_⟩
                          have n0_ := zbl aA.out hb; have n1_ := zbl bA.out hb; have n2_ := zQ (below_step (zB3 HB.out nA.out xA.out) hb); clear aA; clear bA; clear HB; have aA := n0_; have bA := n1_; have HB := n2_; clear n0_ n1_ n2_
                          (try clear hb)
                          (try clear DC)
                          (try clear hk)
                          (try clear hi)
                          refine hK.out _ _ ⟨(blk_cell aA.out 0).trans rfl, (blk_cell aA.out 1).trans rfl, (blk_cell bA.out 0).trans rfl, (blk_cell bA.out 1).trans rfl, ((HB.out.cell (World.block_lt_of_cell? w _ OA)).trans OA), ((HB.out.cell (World.block_lt_of_cell? w _ NA)).trans NA), ((HB.out.cell (World.block_lt_of_cell? w _ MA)).trans MA), ((HB.out.cell (World.block_lt_of_cell? w _ LA)).trans LA)⟩ (fun gA => ?_)
                          clear hK K
                          refine zn 91 ?_
                          refine zp 23 92 ?_
                          refine done_ (done_of HT_.out (by kernel_rfl)) ?_
                          try go_wp2
                          go_ret
                          exact ⟨by first | rfl | (simp [errW_none, errW_some] <;> rfl) | (simp only [← TA, ← eB, ← rB]; first | rfl | (simp [errW_none, errW_some] <;> rfl)) | (simp [*, errW_none, errW_some] <;> rfl), zB3 HB.out nA.out xA.out⟩
                         ·replace hD := Bool.eq_false_iff.mpr hD
                          subst hD
                          rw [if_neg Bool.false_ne_true] at H; have H' := zQ H; clear H
                          try go_wp2
                          have n0_ := zQ (blk_drew aA.out); have n1_ := zQ (blk_drew bA.out); have n2_ := zQ (below_drew1 HB.out); clear aA; clear bA; clear HB; have aA := n0_; have bA := n1_; have HB := n2_; clear n0_ n1_ n2_; have AB : 0 ≤ (fA : Int) := zD; have vB : fA < (l0.length : Int) := zD; obtain ⟨JB, qC, FA, EA⟩ := at_T49 hB.out fA AB vB; have NA := EA; have OA := FA; obtain rfl : eA = JB := (by injection qC); replace FA := zw HB.out FA; replace EA := zw HB.out EA; replace AB := eq_true AB; replace vB := eq_true vB; have yB : 0 ≤ ((qA) : Int) := zD; have uB : (qA) < (l0.length : Int) := zD; obtain ⟨IB, pC, DA, CA⟩ := at_T49 hB.out (qA) yB uB; have LA := CA; have MA := DA; obtain rfl : eA = IB := (by injection pC); replace DA := zw HB.out DA; replace CA := zw HB.out CA; replace yB := eq_true yB; replace uB := eq_true uB
                          refine zs (fun w' => w'.cell? ⟨hA, 0, none⟩ = some (.int .i64 ((rd_T49 l0 cA).f0)) ∧ w'.cell? ⟨hA, 1, none⟩ = some (.int .i64 ((rd_T49 l0 cA).f1)) ∧ w'.cell? ⟨iA, 0, none⟩ = some (.int .i64 ((rd_T49 l0 (dA)).f0)) ∧ w'.cell? ⟨iA, 1, none⟩ = some (.int .i64 ((rd_T49 l0 (dA)).f1)) ∧ w'.cell? (eA.add ((fA).toNat * 2)) = some (.int .i64 ((rd_T49 l0 fA).f0)) ∧ w'.cell? ⟨(eA.add ((fA).toNat * 2)).block, (eA.add ((fA).toNat * 2)).off + 1, none⟩ = some (.int .i64 ((rd_T49 l0 fA).f1)) ∧ w'.cell? (eA.add (((qA)).toNat * 2)) = some (.int .i64 ((rd_T49 l0 (qA)).f0)) ∧ w'.cell? ⟨(eA.add (((qA)).toNat * 2)).block, (eA.add (((qA)).toNat * 2)).off + 1, none⟩ = some (.int .i64 ((rd_T49 l0 (qA)).f1))) [] 24 ⟨(blk_cell aA.out 0).trans rfl, (blk_cell aA.out 1).trans rfl, (blk_cell bA.out 0).trans rfl, (blk_cell bA.out 1).trans rfl, ((HB.out.cell (World.block_lt_of_cell? w _ OA)).trans OA), ((HB.out.cell (World.block_lt_of_cell? w _ NA)).trans NA), ((HB.out.cell (World.block_lt_of_cell? w _ MA)).trans MA), ((HB.out.cell (World.block_lt_of_cell? w _ LA)).trans LA)⟩ (fun gA => ?_); refine with_tabW spec_l13Ok.tab19 spec_l13Ok.bits19 (fun HT_ HW_ => ?_)
                          generalize wr.drew = ZD at aA bA HB FA EA DA CA gA ⊢
                          refine zp 0 69 ?_
                          refine zp 1 70 ?_
                          refine zp 2 71 ?_
                          refine zg 3 72 ?_
                          refine zg 4 73 ?_
                          refine zg 5 74 ?_
                          refine zg 6 75 ?_
                          refine zp 7 76 ?_
                          refine zp 8 77 ?_
                          refine zp 11 80 ?_
                          refine zp 12 81 ?_
                          refine zp 13 82 ?_
                          refine zp 15 84 ?_
                          refine zp 16 85 ?_
                          refine zp 17 86 ?_
                          refine zp 18 87 ?_
                          refine zp 19 88 ?_
                          refine zp 20 89 ?_
                          refine zt 9 78 gA ?_
                          refine zt 10 79 gA ?_
                          refine zt 14 83 gA ?_
                          refine zt 21 90 gA ?_
                          refine zo 22 (some 91) (fun K hK => ?_)
                          refine goes_ Try.func51 (by kernel_rfl) rfl #[.agg #[.int .i64 ((rd_T49 l0 cA).f0), .int .i64 ((rd_T49 l0 cA).f1)], .agg #[.int .i64 ((rd_T49 l0 (dA)).f0), .int .i64 ((rd_T49 l0 (dA)).f1)], .agg #[.int .i64 ((rd_T49 l0 fA).f0), .int .i64 ((rd_T49 l0 fA).f1)], .agg #[.int .i64 ((rd_T49 l0 (qA)).f0), .int .i64 ((rd_T49 l0 (qA)).f1)]] (by rfl) rfl rfl (by (try simp only [List.map_toArray, List.map_cons, List.map_nil]); first | done | (simp only [TA, rB]; rfl) | rfl | (simp only [List.length_drop, List.length_take]; rfl)) ?_
                          with_reducible refine (spec_l13Meet.calls k3 ((rd_T49 l0 cA).f0) ((rd_T49 l0 cA).f1) ((rd_T49 l0 (dA)).f0) ((rd_T49 l0 (dA)).f1) ((rd_T49 l0 fA).f0) ((rd_T49 l0 fA).f1) ((rd_T49 l0 (qA)).f0) ((rd_T49 l0 (qA)).f1) false _ ID.out).mono ?_
                          rintro e YD ⟨rfl, hb⟩
                          refine ⟨_, rfl, ?_⟩
                          have n0_ := zbl aA.out hb; have n1_ := zbl bA.out hb; have n2_ := zQ (below_step (zB3 HB.out nA.out xA.out) hb); clear aA; clear bA; clear HB; have aA := n0_; have bA := n1_; have HB := n2_; clear n0_ n1_ n2_
                          (try clear hb)
                          (try clear DC)
                          (try clear hk)
                          (try clear hi)
                          refine hK.out _ _ ⟨(blk_cell aA.out 0).trans rfl, (blk_cell aA.out 1).trans rfl, (blk_cell bA.out 0).trans rfl, (blk_cell bA.out 1).trans rfl, ((HB.out.cell (World.block_lt_of_cell? w _ OA)).trans OA), ((HB.out.cell (World.block_lt_of_cell? w _ NA)).trans NA), ((HB.out.cell (World.block_lt_of_cell? w _ MA)).trans MA), ((HB.out.cell (World.block_lt_of_cell? w _ LA)).trans LA)⟩ (fun gA => ?_)
                          clear hK K
                          refine zn 91 ?_
                          refine zp 23 92 ?_
                          refine done_ (done_of HT_.out (by kernel_rfl)) ?_
                          try go_wp2
                          go_roundg k3
                          case measure => have := OB.out; have := HK2.out; have := HK3.out; omega
                          case rel => exact ⟨(wrap64 (fA + 1)), (zF), H', ⟨by have := OB.out; have := HK2.out; have := HK3.out; omega⟩, ⟨zb aA.out⟩, ⟨zb bA.out⟩, ⟨zB3 HB.out nA.out xA.out⟩⟩
                        ·rw [if_neg iD] at H
                         exact absurd H (by simp)
                       ·rw [if_neg jD] at H
                        exact absurd H (by simp)
                     ·rw [if_neg kD] at H
                      exact absurd H (by simp)
                    ·rw [if_neg lD] at H
                     exact absurd H (by simp)
                   ·rw [if_neg yC] at H
                    have JC := decide_eq_false yC; clear yC
                    by_cases xC : fA < (wrap64 ((l0.length : Int) - 1))
                    ·rw [if_pos xC] at H
                     have HC := decide_eq_true xC; clear xC
                     by_cases gD : 0 ≤ fA
                     ·rw [if_pos gD] at H
                      have yD := decide_eq_true gD; clear gD
                      by_cases fD : fA < (l0.length : Int)
                      ·rw [if_pos fD] at H
                       have xD := decide_eq_true fD; clear fD
                       by_cases GC : (l0.length : Int) = 0
                       ·rw [if_pos GC] at H
                        exact absurd H (by simp)
                       ·rw [if_neg GC] at H
                        have wD : ((l0.length : Int) == 0) = false := beq_eq_false_iff_ne.mpr GC; have vD : ((l0.length : Int) != 0) = true := bne_iff_ne.mpr GC
                        have uD : ¬ (l0 = []) := fun h_ => GC (by rw [h_]; rfl)
                        obtain ⟨pA, qB⟩ : ∃ j_ : Int, (Int.tmod (wrap64 (fA + 1)) (l0.length : Int)) = j_ := ⟨_, rfl⟩
                        replace H : (if 0 ≤ (pA) then (if (pA) < (l0.length : Int) then ((spec_l13Meet.f k3 ((rd_T49 l0 cA).f0) ((rd_T49 l0 cA).f1) ((rd_T49 l0 (dA)).f0) ((rd_T49 l0 (dA)).f1) ((rd_T49 l0 fA).f0) ((rd_T49 l0 fA).f1) ((rd_T49 l0 (pA)).f0) ((rd_T49 l0 (pA)).f1)).bind fun CB => (if CB = true then (some false) else (spec_l13Ok.l2 k3 l0 (l0.length : Int) cA (wrap64 (fA + 1)) ((rd_T49 l0 cA).f0) ((rd_T49 l0 cA).f1) ((rd_T49 l0 (dA)).f0) ((rd_T49 l0 (dA)).f1)))) else (none)) else (none)) = some r := by first | (rw [qB] at H; exact H) | (simp only [qB] at H ⊢; exact H)
                        by_cases eD : 0 ≤ (pA)
                        ·rw [if_pos eD] at H
                         have tD := decide_eq_true eD; clear eD
                         by_cases dD : (pA) < (l0.length : Int)
                         ·rw [if_pos dD] at H
                          have sD := decide_eq_true dD; clear dD; replace H := zob H; obtain ⟨CB, HD, H⟩ := H
                          by_cases cD : CB = true
                          ·subst cD
                           rw [if_pos rfl] at H; obtain rfl := Option.some.inj H
                           try go_wp2
                           have n0_ := zQ (blk_drew aA.out); have n1_ := zQ (blk_drew bA.out); have n2_ := zQ (below_drew1 HB.out); clear aA; clear bA; clear HB; have aA := n0_; have bA := n1_; have HB := n2_; clear n0_ n1_ n2_; have xB : 0 ≤ (fA : Int) := zD; have tB : fA < (l0.length : Int) := zD; obtain ⟨GB, oC, BA, AA⟩ := at_T49 hB.out fA xB tB; have JA := AA; have KA := BA; obtain rfl : eA = GB := (by injection oC); replace BA := zw HB.out BA; replace AA := zw HB.out AA; replace xB := eq_true xB; replace tB := eq_true tB; have wB : 0 ≤ ((pA) : Int) := zD; have sB : (pA) < (l0.length : Int) := zD; obtain ⟨FB, nC, zA, yA⟩ := at_T49 hB.out (pA) wB sB; have GA := yA; have IA := zA; obtain rfl : eA = FB := (by injection nC); replace zA := zw HB.out zA; replace yA := zw HB.out yA; replace wB := eq_true wB; replace sB := eq_true sB
                           refine zs (fun w' => w'.cell? ⟨hA, 0, none⟩ = some (.int .i64 ((rd_T49 l0 cA).f0)) ∧ w'.cell? ⟨hA, 1, none⟩ = some (.int .i64 ((rd_T49 l0 cA).f1)) ∧ w'.cell? ⟨iA, 0, none⟩ = some (.int .i64 ((rd_T49 l0 (dA)).f0)) ∧ w'.cell? ⟨iA, 1, none⟩ = some (.int .i64 ((rd_T49 l0 (dA)).f1)) ∧ w'.cell? (eA.add ((fA).toNat * 2)) = some (.int .i64 ((rd_T49 l0 fA).f0)) ∧ w'.cell? ⟨(eA.add ((fA).toNat * 2)).block, (eA.add ((fA).toNat * 2)).off + 1, none⟩ = some (.int .i64 ((rd_T49 l0 fA).f1)) ∧ w'.cell? (eA.add (((pA)).toNat * 2)) = some (.int .i64 ((rd_T49 l0 (pA)).f0)) ∧ w'.cell? ⟨(eA.add (((pA)).toNat * 2)).block, (eA.add (((pA)).toNat * 2)).off + 1, none⟩ = some (.int .i64 ((rd_T49 l0 (pA)).f1))) [] 24 ⟨(blk_cell aA.out 0).trans rfl, (blk_cell aA.out 1).trans rfl, (blk_cell bA.out 0).trans rfl, (blk_cell bA.out 1).trans rfl, ((HB.out.cell (World.block_lt_of_cell? w _ KA)).trans KA), ((HB.out.cell (World.block_lt_of_cell? w _ JA)).trans JA), ((HB.out.cell (World.block_lt_of_cell? w _ IA)).trans IA), ((HB.out.cell (World.block_lt_of_cell? w _ GA)).trans GA)⟩ (fun gA => ?_); refine with_tabW spec_l13Ok.tab19 spec_l13Ok.bits19 (fun HT_ HW_ => ?_)
                           generalize wr.drew = XD at aA bA HB BA AA zA yA gA ⊢
                           refine zp 0 69 ?_
                           refine zp 1 70 ?_
                           refine zp 2 71 ?_
                           refine zp 3 72 ?_
                           refine zp 4 73 ?_
                           refine zp 5 74 ?_
                           refine zp 6 75 ?_
                           refine zp 7 76 ?_
                           refine zp 8 77 ?_
                           refine zp 11 80 ?_
                           refine zp 12 81 ?_
                           refine zp 13 82 ?_
                           refine zp 15 84 ?_
                           refine zp 16 85 ?_
                           refine zp 17 86 ?_
                           refine zp 18 87 ?_
                           refine zp 19 88 ?_
                           refine zp 20 89 ?_
                           refine zt 9 78 gA ?_
                           refine zt 10 79 gA ?_
                           refine zt 14 83 gA ?_
                           refine zt 21 90 gA ?_
                           refine zo 22 (some 91) (fun K hK => ?_)
                           refine goes_ Try.func51 (by kernel_rfl) rfl #[.agg #[.int .i64 ((rd_T49 l0 cA).f0), .int .i64 ((rd_T49 l0 cA).f1)], .agg #[.int .i64 ((rd_T49 l0 (dA)).f0), .int .i64 ((rd_T49 l0 (dA)).f1)], .agg #[.int .i64 ((rd_T49 l0 fA).f0), .int .i64 ((rd_T49 l0 fA).f1)], .agg #[.int .i64 ((rd_T49 l0 (pA)).f0), .int .i64 ((rd_T49 l0 (pA)).f1)]] (by rfl) rfl rfl (by (try simp only [List.map_toArray, List.map_cons, List.map_nil]); first | done | (simp only [TA, qB]; rfl) | rfl | (simp only [List.length_drop, List.length_take]; rfl)) ?_
                           with_reducible refine (spec_l13Meet.calls k3 ((rd_T49 l0 cA).f0) ((rd_T49 l0 cA).f1) ((rd_T49 l0 (dA)).f0) ((rd_T49 l0 (dA)).f1) ((rd_T49 l0 fA).f0) ((rd_T49 l0 fA).f1) ((rd_T49 l0 (pA)).f0) ((rd_T49 l0 (pA)).f1) true _ HD.out).mono ?_
                           rintro e WD ⟨rfl, hb⟩
                           refine ⟨_, rfl, ?_⟩
                           have n0_ := zbl aA.out hb; have n1_ := zbl bA.out hb; have n2_ := zQ (below_step (zB3 HB.out nA.out xA.out) hb); clear aA; clear bA; clear HB; have aA := n0_; have bA := n1_; have HB := n2_; clear n0_ n1_ n2_
                           (try clear hb)
                           (try clear DC)
                           (try clear hk)
                           (try clear hi)
                           refine hK.out _ _ ⟨(blk_cell aA.out 0).trans rfl, (blk_cell aA.out 1).trans rfl, (blk_cell bA.out 0).trans rfl, (blk_cell bA.out 1).trans rfl, ((HB.out.cell (World.block_lt_of_cell? w _ KA)).trans KA), ((HB.out.cell (World.block_lt_of_cell? w _ JA)).trans JA), ((HB.out.cell (World.block_lt_of_cell? w _ IA)).trans IA), ((HB.out.cell (World.block_lt_of_cell? w _ GA)).trans GA)⟩ (fun gA => ?_)
                           clear hK K
                           refine zn 91 ?_
                           refine zp 23 92 ?_
                           refine done_ (done_of HT_.out (by kernel_rfl)) ?_
                           try go_wp2
                           go_ret
                           exact ⟨by first | rfl | (simp [errW_none, errW_some] <;> rfl) | (simp only [← TA, ← eB, ← qB]; first | rfl | (simp [errW_none, errW_some] <;> rfl)) | (simp [*, errW_none, errW_some] <;> rfl), zB3 HB.out nA.out xA.out⟩
                          ·replace cD := Bool.eq_false_iff.mpr cD
                           subst cD
                           rw [if_neg Bool.false_ne_true] at H; have H' := zQ H; clear H
                           try go_wp2
                           have n0_ := zQ (blk_drew aA.out); have n1_ := zQ (blk_drew bA.out); have n2_ := zQ (below_drew1 HB.out); clear aA; clear bA; clear HB; have aA := n0_; have bA := n1_; have HB := n2_; clear n0_ n1_ n2_; have xB : 0 ≤ (fA : Int) := zD; have tB : fA < (l0.length : Int) := zD; obtain ⟨GB, oC, BA, AA⟩ := at_T49 hB.out fA xB tB; have JA := AA; have KA := BA; obtain rfl : eA = GB := (by injection oC); replace BA := zw HB.out BA; replace AA := zw HB.out AA; replace xB := eq_true xB; replace tB := eq_true tB; have wB : 0 ≤ ((pA) : Int) := zD; have sB : (pA) < (l0.length : Int) := zD; obtain ⟨FB, nC, zA, yA⟩ := at_T49 hB.out (pA) wB sB; have GA := yA; have IA := zA; obtain rfl : eA = FB := (by injection nC); replace zA := zw HB.out zA; replace yA := zw HB.out yA; replace wB := eq_true wB; replace sB := eq_true sB
                           refine zs (fun w' => w'.cell? ⟨hA, 0, none⟩ = some (.int .i64 ((rd_T49 l0 cA).f0)) ∧ w'.cell? ⟨hA, 1, none⟩ = some (.int .i64 ((rd_T49 l0 cA).f1)) ∧ w'.cell? ⟨iA, 0, none⟩ = some (.int .i64 ((rd_T49 l0 (dA)).f0)) ∧ w'.cell? ⟨iA, 1, none⟩ = some (.int .i64 ((rd_T49 l0 (dA)).f1)) ∧ w'.cell? (eA.add ((fA).toNat * 2)) = some (.int .i64 ((rd_T49 l0 fA).f0)) ∧ w'.cell? ⟨(eA.add ((fA).toNat * 2)).block, (eA.add ((fA).toNat * 2)).off + 1, none⟩ = some (.int .i64 ((rd_T49 l0 fA).f1)) ∧ w'.cell? (eA.add (((pA)).toNat * 2)) = some (.int .i64 ((rd_T49 l0 (pA)).f0)) ∧ w'.cell? ⟨(eA.add (((pA)).toNat * 2)).block, (eA.add (((pA)).toNat * 2)).off + 1, none⟩ = some (.int .i64 ((rd_T49 l0 (pA)).f1))) [] 24 ⟨(blk_cell aA.out 0).trans rfl, (blk_cell aA.out 1).trans rfl, (blk_cell bA.out 0).trans rfl, (blk_cell bA.out 1).trans rfl, ((HB.out.cell (World.block_lt_of_cell? w _ KA)).trans KA), ((HB.out.cell (World.block_lt_of_cell? w _ JA)).trans JA), ((HB.out.cell (World.block_lt_of_cell? w _ IA)).trans IA), ((HB.out.cell (World.block_lt_of_cell? w _ GA)).trans GA)⟩ (fun gA => ?_); refine with_tabW spec_l13Ok.tab19 spec_l13Ok.bits19 (fun HT_ HW_ => ?_)
                           generalize wr.drew = VD at aA bA HB BA AA zA yA gA ⊢
                           refine zp 0 69 ?_
                           refine zp 1 70 ?_
                           refine zp 2 71 ?_
                           refine zp 3 72 ?_
                           refine zp 4 73 ?_
                           refine zp 5 74 ?_
                           refine zp 6 75 ?_
                           refine zp 7 76 ?_
                           refine zp 8 77 ?_
                           refine zp 11 80 ?_
                           refine zp 12 81 ?_
                           refine zp 13 82 ?_
                           refine zp 15 84 ?_
                           refine zp 16 85 ?_
                           refine zp 17 86 ?_
                           refine zp 18 87 ?_
                           refine zp 19 88 ?_
                           refine zp 20 89 ?_
                           refine zt 9 78 gA ?_
                           refine zt 10 79 gA ?_
                           refine zt 14 83 gA ?_
                           refine zt 21 90 gA ?_
                           refine zo 22 (some 91) (fun K hK => ?_)
                           refine goes_ Try.func51 (by kernel_rfl) rfl #[.agg #[.int .i64 ((rd_T49 l0 cA).f0), .int .i64 ((rd_T49 l0 cA).f1)], .agg #[.int .i64 ((rd_T49 l0 (dA)).f0), .int .i64 ((rd_T49 l0 (dA)).f1)], .agg #[.int .i64 ((rd_T49 l0 fA).f0), .int .i64 ((rd_T49 l0 fA).f1)], .agg #[.int .i64 ((rd_T49 l0 (pA)).f0), .int .i64 ((rd_T49 l0 (pA)).f1)]] (by rfl) rfl rfl (by (try simp only [List.map_toArray, List.map_cons, List.map_nil]); first | done | (simp only [TA, qB]; rfl) | rfl | (simp only [List.length_drop, List.length_take]; rfl)) ?_
                           with_reducible refine (spec_l13Meet.calls k3 ((rd_T49 l0 cA).f0) ((rd_T49 l0 cA).f1) ((rd_T49 l0 (dA)).f0) ((rd_T49 l0 (dA)).f1) ((rd_T49 l0 fA).f0) ((rd_T49 l0 fA).f1) ((rd_T49 l0 (pA)).f0) ((rd_T49 l0 (pA)).f1) false _ HD.out).mono ?_
                           rintro e UD ⟨rfl, hb⟩
                           refine ⟨_, rfl, ?_⟩
                           have n0_ := zbl aA.out hb; have n1_ := zbl bA.out hb; have n2_ := zQ (below_step (zB3 HB.out nA.out xA.out) hb); clear aA; clear bA; clear HB; have aA := n0_; have bA := n1_; have HB := n2_; clear n0_ n1_ n2_
                           (try clear hb)
                           (try clear DC)
                           (try clear hk)
                           (try clear hi)
                           refine hK.out _ _ ⟨(blk_cell aA.out 0).trans rfl, (blk_cell aA.out 1).trans rfl, (blk_cell bA.out 0).trans rfl, (blk_cell bA.out 1).trans rfl, ((HB.out.cell (World.block_lt_of_cell? w _ KA)).trans KA), ((HB.out.cell (World.block_lt_of_cell? w _ JA)).trans JA), ((HB.out.cell (World.block_lt_of_cell? w _ IA)).trans IA), ((HB.out.cell (World.block_lt_of_cell? w _ GA)).trans GA)⟩ (fun gA => ?_)
                           clear hK K
                           refine zn 91 ?_
                           refine zp 23 92 ?_
                           refine done_ (done_of HT_.out (by kernel_rfl)) ?_
                           try go_wp2
                           go_roundg k3
                           case measure => have := OB.out; have := HK2.out; have := HK3.out; omega
                           case rel => exact ⟨(wrap64 (fA + 1)), (zF), H', ⟨by have := OB.out; have := HK2.out; have := HK3.out; omega⟩, ⟨zb aA.out⟩, ⟨zb bA.out⟩, ⟨zB3 HB.out nA.out xA.out⟩⟩
                         ·rw [if_neg dD] at H
                          exact absurd H (by simp)
                        ·rw [if_neg eD] at H
                         exact absurd H (by simp)
                      ·rw [if_neg fD] at H
                       exact absurd H (by simp)
                     ·rw [if_neg gD] at H
                      exact absurd H (by simp)
                    ·rw [if_neg xC] at H
                     have HC := decide_eq_false xC; clear xC; have H' := zQ H; clear H
                     try go_wp2
                     have n0_ := zQ (blk_drew aA.out); have n1_ := zQ (blk_drew bA.out); have n2_ := zQ (below_drew1 HB.out); clear aA; clear bA; clear HB; have aA := n0_; have bA := n1_; have HB := n2_; clear n0_ n1_ n2_
                     refine zs (fun w' => True) [] 24 trivial (fun gA => ?_); refine with_tabW spec_l13Ok.tab19 spec_l13Ok.bits19 (fun HT_ HW_ => ?_)
                     generalize wr.drew = TD at aA bA HB gA ⊢
                     refine zp 0 69 ?_
                     refine zp 1 70 ?_
                     refine zp 2 71 ?_
                     refine zp 3 72 ?_
                     refine zp 4 73 ?_
                     refine zp 5 74 ?_
                     refine zp 6 75 ?_
                     refine zp 7 76 ?_
                     refine zp 8 77 ?_
                     refine zg 9 78 ?_
                     refine zg 10 79 ?_
                     refine zg 11 80 ?_
                     refine zg 12 81 ?_
                     refine zg 13 82 ?_
                     refine zg 14 83 ?_
                     refine zg 15 84 ?_
                     refine zg 16 85 ?_
                     refine zg 17 86 ?_
                     refine zg 18 87 ?_
                     refine zg 19 88 ?_
                     refine zg 20 89 ?_
                     refine zg 21 90 ?_
                     refine zg 22 91 ?_
                     refine zp 23 92 ?_
                     refine done_ (done_of HT_.out (by kernel_rfl)) ?_
                     try go_wp2
                     go_roundg k3
                     case measure => have := OB.out; have := HK2.out; have := HK3.out; omega
                     case rel => exact ⟨(wrap64 (fA + 1)), (zF), H', ⟨by have := OB.out; have := HK2.out; have := HK3.out; omega⟩, ⟨zb aA.out⟩, ⟨zb bA.out⟩, ⟨zB3 HB.out nA.out xA.out⟩⟩
                  ·rw [if_neg AC] at H
                   have KC := decide_eq_false AC; clear AC; have H' := zQ H; clear H
                   go_wp2
                   go_roundg k3
                   case measure => have := OB.out; have := HK2.out; have := HK3.out; omega
                   case rel => exact ⟨(wrap64 (cA + 1)), (zF), H', ⟨by have := OB.out; have := HK2.out; have := HK3.out; omega⟩, ⟨zB3 HB.out nA.out xA.out⟩⟩
              ·rw [if_neg MC] at H
               exact absurd H (by simp)
             ·rw [if_neg OC] at H
              exact absurd H (by simp)
            ·rw [if_neg QC] at H
             exact absurd H (by simp)
           ·rw [if_neg SC] at H
            exact absurd H (by simp)
         ·rw [if_neg XC] at H
          exact absurd H (by simp)
        ·rw [if_neg ZC] at H
         exact absurd H (by simp)
       ·rw [if_neg wC] at H
        have iC := decide_eq_false wC; clear wC; replace H := zob H; obtain ⟨jC, RD, H⟩ := H; obtain rfl := Option.some.inj H
        go_wp2_with (first | ((with_reducible refine zgc 52 ?_); refine zgo (some 94) Try.func52 #[.slice A0 l0.length c0] ?_; (with_reducible refine (spec_l13Twice.calls k2 _ _ l0 jC _ (zC hB.out HB.out) QD.out RD.out).mono ?_); rintro e SD ⟨rfl, hb⟩; refine ⟨_, rfl, ?_⟩; replace HB := zbs HB.out hb; (try clear hb)))
        go_ret
        exact ⟨zE, zB HB.out⟩
 ·replace c3 := Bool.eq_false_iff.mpr c3
  subst c3
  rw [if_neg Bool.false_ne_true] at H; obtain rfl := Option.some.inj H
  go_enter Try.func25, Try.ntmps25
  go_wp2_with (first | ((with_reducible refine zgc 27 ?_); refine zgo (some 12) Try.func27 #[.int .i64 (l0.length : Int), .int .i64 3, .int .i64 8] ?_; (with_reducible refine (spec_l00In.calls (l0.length : Int) 3 8 false _ A2.out).mono ?_); rintro e w' ⟨rfl, ⟨nd, rfl⟩⟩; refine ⟨_, rfl, ?_⟩))
  go_ret
  exact ⟨zE, zB HB.out⟩

end
end Go.Proofs.Ytchngbjpjbahiaa.PSailw

