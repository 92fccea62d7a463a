import Derived.Test.YtchngbjpjbahiaaHSailw0
import Derived.Test.YtchngbjpjbahiaaHSailwh
import Derived.Test.YtchngbjpjbahiaaHSailwi
import Derived.Test.YtchngbjpjbahiaaHSailwj
namespace Go.Proofs.Ytchngbjpjbahiaa.PSailw
noncomputable section
open Go.RowKit Go.Proofs.YtchngbjpjbahiaaW.PrintWords Go.Proofs.YtchngbjpjbahiaaW.PrintLast Go.Proofs.YtchngbjpjbahiaaW.PrintMore
attribute [local go_sem] max2_int min2_int max_two min_two max_three min_three max_four min_four   -- for this text's walks alone
set_option linter.unusedVariables false
set_option linter.unusedSimpArgs false
set_option maxHeartbeats 8000000
set_option maxRecDepth 100000

mutual
def impl_ValidSail.j0 : Nat → List (S49) → Int → Bool → Option (Bool)
 | 0, _, _, _ => none
 | k + 1, x0, x3, x16 => if x16 = true then (some false) else (impl_ValidSail.l0 k x0 x3 x0 (x0.length : Int) 0)
def impl_ValidSail.l0 : Nat → List (S49) → Int → List (S49) → Int → Int → Option (Bool)
 | 0, _, _, _, _, _ => none
 | k + 1, x0, x3, x17, x18, x19 => if x19 < x18 then (if 0 ≤ x19 then (if x19 < (x17.length : Int) then ((impl_within.f ((rd_T49 x17 x19).f0) 0 2000).bind fun lC => (if lC = true then ((impl_within.f ((rd_T49 x17 x19).f1) 0 2000).bind fun kC => (if kC = true then (impl_ValidSail.l0 k x0 x3 x17 x18 (wrap64 (x19 + 1))) else (some false))) else (some false))) else (none)) else (none)) else (impl_ValidSail.l1 k x0 x3 (x0.length : Int) 0)
def impl_ValidSail.l1 : Nat → List (S49) → Int → Int → Int → Option (Bool)
 | 0, _, _, _, _ => none
 | k + 1, x0, x3, x35, x36 => if x36 < x35 then (if 0 ≤ x36 then (if x36 < (x0.length : Int) then (if x3 = 0 then (none) else (if 0 ≤ (Int.tmod (wrap64 (x36 + 1)) x3) then (if (Int.tmod (wrap64 (x36 + 1)) x3) < (x0.length : Int) then (if 0 ≤ (Int.tmod (wrap64 (x36 + 2)) x3) then (if (Int.tmod (wrap64 (x36 + 2)) x3) < (x0.length : Int) then ((impl_turnAt.f ((rd_T49 x0 x36).f0) ((rd_T49 x0 x36).f1) ((rd_T49 x0 (Int.tmod (wrap64 (x36 + 1)) x3)).f0) ((rd_T49 x0 (Int.tmod (wrap64 (x36 + 1)) x3)).f1) ((rd_T49 x0 (Int.tmod (wrap64 (x36 + 2)) x3)).f0) ((rd_T49 x0 (Int.tmod (wrap64 (x36 + 2)) x3)).f1)).bind fun SA => (if SA = 0 then (some false) else (impl_ValidSail.l1 k x0 x3 x35 (wrap64 (x36 + 1))))) else (none)) else (none)) else (none)) else (none))) else (none)) else (none)) else (impl_ValidSail.l2 k x0 x3 (x0.length : Int) 0)
def impl_ValidSail.l2 : Nat → List (S49) → Int → Int → Int → Option (Bool)
 | 0, _, _, _, _ => none
 | k + 1, x0, x3, x61, x62 => if x62 < x61 then (impl_ValidSail.l3 k x0 x3 x62 (wrap64 (x62 + 2)) x61 x62) else ((impl_twiceSail.f k x0).bind fun jC => (some (decide (jC > 0))))
def impl_ValidSail.l3 : Nat → List (S49) → Int → Int → Int → Int → Int → Option (Bool)
 | 0, _, _, _, _, _, _ => none
 | k + 1, x0, x3, x7, x8, x61, x62 => if x8 < x3 then (if x3 = 0 then (none) else (if (Int.tmod (wrap64 (x8 + 1)) x3) = x7 then (impl_ValidSail.l3 k x0 x3 x7 (wrap64 (x8 + 1)) x61 x62) else (if 0 ≤ x7 then (if x7 < (x0.length : Int) then (if 0 ≤ (wrap64 (x7 + 1)) then (if (wrap64 (x7 + 1)) < (x0.length : Int) then (if 0 ≤ x8 then (if x8 < (x0.length : Int) then (if 0 ≤ (Int.tmod (wrap64 (x8 + 1)) x3) then (if (Int.tmod (wrap64 (x8 + 1)) x3) < (x0.length : Int) then ((impl_edgesMeet.f k ((rd_T49 x0 x7).f0) ((rd_T49 x0 x7).f1) ((rd_T49 x0 (wrap64 (x7 + 1))).f0) ((rd_T49 x0 (wrap64 (x7 + 1))).f1) ((rd_T49 x0 x8).f0) ((rd_T49 x0 x8).f1) ((rd_T49 x0 (Int.tmod (wrap64 (x8 + 1)) x3)).f0) ((rd_T49 x0 (Int.tmod (wrap64 (x8 + 1)) x3)).f1)).bind fun vB => (if vB = true then (some false) else (impl_ValidSail.l3 k x0 x3 x7 (wrap64 (x8 + 1)) x61 x62))) else (none)) else (none)) else (none)) else (none)) else (none)) else (none)) else (none)) else (none)))) else (impl_ValidSail.l2 k x0 x3 x61 (wrap64 (x62 + 1)))
end
def impl_ValidSail.f (k : Nat) (l0 : List (S49)) : Option (Bool) := if (l0.length : Int) < 3 then (impl_ValidSail.j0 k l0 (l0.length : Int) true) else (impl_ValidSail.j0 k l0 (l0.length : Int) (decide ((l0.length : Int) > 8)))
def impl_ValidSail.T13 : Bool × List (List Nat × List Nat) := (true, [([], []), ([], []), ([0, 1], [0, 1]), ([2], [2]), ([], []), ([], []), ([5], [5]), ([], []), ([6, 7], [6, 7]), ([4, 8], [4, 8]), ([9], [9]), ([], []), ([], []), ([12], [12]), ([], []), ([13, 14], [13, 14]), ([11, 15], [11, 15]), ([16], [16]), ([3, 10, 17], [3, 10, 17]), ([18], [18])])
def impl_ValidSail.B13 : List Nat := [0, 0, 3, 7, 0, 0, 32, 0, 224, 496, 1008, 0, 0, 4096, 0, 28672, 63488, 129024, 262143, 524287]
theorem impl_ValidSail.tab13 : rtab .any (opsOf Try.f31 13) = impl_ValidSail.T13 := by kernel_rfl
theorem impl_ValidSail.bits13 : waitsOk impl_ValidSail.T13.2 impl_ValidSail.B13 = true := by kernel_rfl
def impl_ValidSail.T22 : Bool × List (List Nat × List Nat) := (true, [([], []), ([0], [0]), ([], []), ([1, 2], [1, 2]), ([], []), ([3, 4], [3, 4]), ([5], [5]), ([6], [6]), ([6], [6]), ([7, 8, 6], [6, 7, 8]), ([9, 6], [6, 9]), ([6], [6]), ([6], [6]), ([12, 6], [6, 12]), ([11, 13, 6], [6, 11, 13]), ([14, 6], [6, 14]), ([6], [6]), ([6], [6]), ([16, 17, 6], [6, 16, 17]), ([18, 6], [6, 18]), ([6], [6]), ([6], [6]), ([21, 6], [6, 21]), ([6], [6]), ([22, 23, 6], [6, 22, 23]), ([20, 24, 6], [6, 20, 24]), ([25, 6], [6, 25]), ([10, 15, 19, 26, 6, 6], [6, 10, 15, 19, 26]), ([6, 27], [6, 27])])
def impl_ValidSail.B22 : List Nat := [0, 1, 0, 7, 0, 31, 63, 127, 127, 511, 1023, 127, 127, 4223, 14463, 30847, 127, 127, 196735, 458879, 127, 127, 2097279, 127, 14680191, 32505983, 66060415, 134217727, 268435455]
theorem impl_ValidSail.tab22 : rtab .any (opsOf Try.f31 22) = impl_ValidSail.T22 := by kernel_rfl
theorem impl_ValidSail.bits22 : waitsOk impl_ValidSail.T22.2 impl_ValidSail.B22 = true := by kernel_rfl
theorem impl_ValidSail.calls (k : Nat) (A0 : Option Addr) (c0 : Nat) (l0 : List (S49)) (r : Bool) (w : World) (cD : Kd.C k49 w A0 l0.length l0) (dD : l0.length ≤ c0) (h : impl_ValidSail.f k l0 = some r) :
  Calls Try.prog 31 #[.slice A0 l0.length c0] w fun e w' => e = .returned (.bool r) ∧ Below w.heap.size w w' := by
 have wD := Try.underlying49
 have oB := zQ cD
 have yD := zQ dD
 clear cD dD
 have HB := zQ (Below.refl w.heap.size w)
 have H := h; unfold impl_ValidSail.f at H
 clear h
 have VC := zQ H
 clear H
 go_enter Try.func31, Try.ntmps31
 go_upto_region 2 with (fail)
 go_cut [16] (fun vD wc => ∃ (kq : Nat) (FB : Bool), vD = .bool FB ∧ Aside0 (impl_ValidSail.j0 kq l0 (l0.length : Int) FB = some r) ∧ Aside0 (kq ≤ k) ∧ Aside0 (Below w.heap.size w wc))
 case first =>
  have H := VC.out; clear VC
  by_cases c3 : (l0.length : Int) < 3
  ·rw [if_pos c3] at H
   have UA := decide_eq_true c3; have GB : decide (l0.length < 3) = true := decide_eq_true (by omega); clear c3
   (first | rw [UA] | (simp only [i64_w, i32_w]; rw [UA]) | skip)
   have H' := zQ H; clear H
   go_wp2
   go_meet
   case rel => exact ⟨_, (true), (zF), H', ⟨by first | omega | exact Nat.le_refl _⟩, ⟨zB HB.out⟩⟩
  ·rw [if_neg c3] at H
   have UA := decide_eq_false c3; have GB : decide (l0.length < 3) = false := decide_eq_false (by omega); clear c3
   (first | rw [UA] | (simp only [i64_w, i32_w]; rw [UA]) | skip)
   have H' := zQ H; clear H
   go_wp2
   go_meet
   case rel => exact ⟨_, (decide ((l0.length : Int) > 8)), (zF), H', ⟨by first | omega | exact Nat.le_refl _⟩, ⟨zB HB.out⟩⟩
 case rest =>
  clear VC; (try clear p2); (try clear c3); (try clear UA); (try clear GB); obtain ⟨kq, FB, rfl, HA, RB, HB⟩ := hcut
  cases kq with
  | zero => exact absurd HA.out (by simp [impl_ValidSail.j0])
  | succ aD =>
   have H := HA.out; clear HA
   simp only [impl_ValidSail.j0] at H
   by_cases c4 : FB = true
   ·subst c4
    rw [if_pos rfl] at H; obtain rfl := Option.some.inj H
    go_wp2
    go_ret
    exact ⟨zE, zB HB.out⟩
   ·replace c4 := Bool.eq_false_iff.mpr c4
    subst c4
    rw [if_neg Bool.false_ne_true] at H; have H' := zQ H; clear H
    go_wp2
    go_loopg [19] aD (fun kq uD w' => ∃ (fA : Int), uD = .int .i64 fA ∧ Aside0 (impl_ValidSail.l0 kq l0 (l0.length : Int) l0 (l0.length : Int) fA = some r) ∧ Aside0 (kq ≤ aD) ∧ Aside0 (Below w.heap.size w w'))
    case atStart => exact ⟨(0), (zF), H', ⟨Nat.le_refl _⟩, ⟨zB HB.out⟩⟩
    case round =>
     clear H'; (try clear p2); (try clear c3); (try clear UA); (try clear GB); (try clear c4); (try clear p2); obtain ⟨fA, rfl, HA, HK2, HB⟩ := hrel
     cases gk with
     | zero => exact absurd HA.out (by simp [impl_ValidSail.l0])
     | succ k2 =>
      have H := HA.out; clear HA
      simp only [impl_ValidSail.l0] at H
      by_cases c5 : fA < (l0.length : Int)
      ·rw [if_pos c5] at H
       have SB := decide_eq_true c5; clear c5
       by_cases c6 : 0 ≤ fA
       ·rw [if_pos c6] at H
        have uC := decide_eq_true c6; clear c6
        by_cases c7 : fA < (l0.length : Int)
        ·rw [if_pos c7] at H
         have tC := decide_eq_true c7; clear c7; replace H := zob H; obtain ⟨lC, A8, H⟩ := H
         by_cases c9 : lC = true
         ·subst c9
          rw [if_pos rfl] at H; replace H := zob H; obtain ⟨kC, rD, H⟩ := H
          by_cases yC : kC = true
          ·subst yC
           rw [if_pos rfl] at H; have H' := zQ H; clear H; have RA : 0 ≤ (fA : Int) := zD; have QA : fA < (l0.length : Int) := zD; obtain ⟨iC, IB, sA, rA⟩ := at_T49 oB.out fA RA QA
           cases IB
           replace sA := zw HB.out sA; replace rA := zw HB.out rA; replace RA := eq_true RA; replace QA := eq_true QA
           go_wp2_with (first | ((with_reducible refine zd 5 ?_); refine zbx (N := 5) (cs := #[.int .i64 0, .int .i64 0]) (t := 49) ?_; intro UB hg ND rB hb; have uB := zQ (rB); have sB := zgz hg HB.out; have tB := sB; replace HB := zbs HB.out hb; clear hb rB hg; obtain ⟨nB, mB, hB, gB⟩ := zy2 uB.out) | ((with_reducible refine zgc 33 ?_); refine zgo (some 25) Try.func33 #[.int .i64 ((rd_T49 l0 fA).f0), .int .i64 0, .int .i64 2000] ?_; (with_reducible refine (impl_within.calls ((rd_T49 l0 fA).f0) 0 2000 true _ A8.out).mono ?_); rintro e w' ⟨rfl, ⟨nd, rfl⟩⟩; refine ⟨_, rfl, ?_⟩) | (go_at_call 33; (with_reducible refine (impl_within.calls ((rd_T49 l0 fA).f1) 0 2000 true _ rD.out).mono ?_); rintro e w' ⟨rfl, ⟨nd, rfl⟩⟩))
           go_roundg k2
           case measure => have := RB.out; have := HK2.out; omega
           case rel => exact ⟨(wrap64 (fA + 1)), (zF), H', ⟨by have := RB.out; have := HK2.out; omega⟩, ⟨zB2 HB.out tB.out⟩⟩
          ·replace yC := Bool.eq_false_iff.mpr yC
           subst yC
           rw [if_neg Bool.false_ne_true] at H; obtain rfl := Option.some.inj H; have RA : 0 ≤ (fA : Int) := zD; have QA : fA < (l0.length : Int) := zD; obtain ⟨iC, IB, sA, rA⟩ := at_T49 oB.out fA RA QA
           cases IB
           replace sA := zw HB.out sA; replace rA := zw HB.out rA; replace RA := eq_true RA; replace QA := eq_true QA
           go_wp2_with (first | ((with_reducible refine zd 5 ?_); refine zbx (N := 5) (cs := #[.int .i64 0, .int .i64 0]) (t := 49) ?_; intro UB hg MD rB hb; have uB := zQ (rB); have sB := zgz hg HB.out; have tB := sB; replace HB := zbs HB.out hb; clear hb rB hg; obtain ⟨lB, kB, fB, eB⟩ := zy2 uB.out) | ((with_reducible refine zgc 33 ?_); refine zgo (some 25) Try.func33 #[.int .i64 ((rd_T49 l0 fA).f0), .int .i64 0, .int .i64 2000] ?_; (with_reducible refine (impl_within.calls ((rd_T49 l0 fA).f0) 0 2000 true _ A8.out).mono ?_); rintro e w' ⟨rfl, ⟨nd, rfl⟩⟩; refine ⟨_, rfl, ?_⟩) | (go_at_call 33; (with_reducible refine (impl_within.calls ((rd_T49 l0 fA).f1) 0 2000 false _ rD.out).mono ?_); rintro e w' ⟨rfl, ⟨nd, rfl⟩⟩))
           go_ret
           exact ⟨zE, zB2 HB.out tB.out⟩
         ·replace c9 := Bool.eq_false_iff.mpr c9
          subst c9
          rw [if_neg Bool.false_ne_true] at H; obtain rfl := Option.some.inj H; have RA : 0 ≤ (fA : Int) := zD; have QA : fA < (l0.length : Int) := zD; obtain ⟨iC, IB, sA, rA⟩ := at_T49 oB.out fA RA QA
          cases IB
          replace sA := zw HB.out sA; replace rA := zw HB.out rA; replace RA := eq_true RA; replace QA := eq_true QA
          go_wp2_with (first | ((with_reducible refine zd 5 ?_); refine zbx (N := 5) (cs := #[.int .i64 0, .int .i64 0]) (t := 49) ?_; intro UB hg LD rB hb; have uB := zQ (rB); have sB := zgz hg HB.out; have tB := sB; replace HB := zbs HB.out hb; clear hb rB hg; obtain ⟨jB, iB, dB, cB⟩ := zy2 uB.out) | ((with_reducible refine zgc 33 ?_); refine zgo (some 25) Try.func33 #[.int .i64 ((rd_T49 l0 fA).f0), .int .i64 0, .int .i64 2000] ?_; (with_reducible refine (impl_within.calls ((rd_T49 l0 fA).f0) 0 2000 false _ A8.out).mono ?_); rintro e w' ⟨rfl, ⟨nd, rfl⟩⟩; refine ⟨_, rfl, ?_⟩))
          go_ret
          exact ⟨zE, zB2 HB.out tB.out⟩
        ·rw [if_neg c7] at H
         exact absurd H (by simp)
       ·rw [if_neg c6] at H
        exact absurd H (by simp)
      ·rw [if_neg c5] at H
       have SB := decide_eq_false c5; clear c5; have H' := zQ H; clear H
       go_wp2
       go_loopg [36] k2 (fun kq tD w' => ∃ (bA : Int), tD = .int .i64 bA ∧ Aside0 (impl_ValidSail.l1 kq l0 (l0.length : Int) (l0.length : Int) bA = some r) ∧ Aside0 (kq ≤ k2) ∧ Aside0 (Below w.heap.size w w'))
       case atStart => exact ⟨(0), (zF), H', ⟨Nat.le_refl _⟩, ⟨zB HB.out⟩⟩
       case round =>
        clear H'; (try clear c1); (try clear p2); (try clear q2); (try clear bD); (try clear c3); (try clear UA); (try clear GB); (try clear c4); (try clear c5); (try clear SB); (try clear c6); (try clear uC); (try clear p6); (try clear c7); (try clear tC); (try clear c9); (try clear yC); (try clear nB mB hB gB); (try clear lB kB fB eB); (try clear jB iB dB cB); (try clear sA); (try clear rA); (try clear p2); (try clear RA); (try clear QA); obtain ⟨bA, rfl, HA, HK3, HB⟩ := hrel
        cases gk with
        | zero => exact absurd HA.out (by simp [impl_ValidSail.l1])
        | succ k3 =>
         have H := HA.out; clear HA
         simp only [impl_ValidSail.l1] at H
         by_cases hC : bA < (l0.length : Int)
         ·rw [if_pos hC] at H
          have LB := decide_eq_true hC; clear hC
          by_cases GC : 0 ≤ bA
          ·rw [if_pos GC] at H
           have gC := decide_eq_true GC; clear GC
           by_cases FC : bA < (l0.length : Int)
           ·rw [if_pos FC] at H
            have fC := decide_eq_true FC; clear FC
            by_cases xC : (l0.length : Int) = 0
            ·rw [if_pos xC] at H
             exact absurd H (by simp)
            ·rw [if_neg xC] at H
             have eC : ((l0.length : Int) == 0) = false := beq_eq_false_iff_ne.mpr xC; have dC : ((l0.length : Int) != 0) = true := bne_iff_ne.mpr xC
             have cC : ¬ (l0 = []) := fun h_ => xC (by rw [h_]; rfl)
             obtain ⟨iA, qB⟩ : ∃ j_ : Int, (Int.tmod (wrap64 (bA + 1)) (l0.length : Int)) = j_ := ⟨_, rfl⟩
             replace H : (if 0 ≤ (iA) then (if (iA) < (l0.length : Int) then (if 0 ≤ (Int.tmod (wrap64 (bA + 2)) (l0.length : Int)) then (if (Int.tmod (wrap64 (bA + 2)) (l0.length : Int)) < (l0.length : Int) then ((impl_turnAt.f ((rd_T49 l0 bA).f0) ((rd_T49 l0 bA).f1) ((rd_T49 l0 (iA)).f0) ((rd_T49 l0 (iA)).f1) ((rd_T49 l0 (Int.tmod (wrap64 (bA + 2)) (l0.length : Int))).f0) ((rd_T49 l0 (Int.tmod (wrap64 (bA + 2)) (l0.length : Int))).f1)).bind fun SA => (if SA = 0 then (some false) else (impl_ValidSail.l1 k3 l0 (l0.length : Int) (l0.length : Int) (wrap64 (bA + 1))))) else (none)) else (none)) else (none)) else (none)) = some r := by first | (rw [qB] at H; exact H) | (simp only [qB] at H ⊢; exact H)
             by_cases EC : 0 ≤ (iA)
             ·rw [if_pos EC] at H
              have bC := decide_eq_true EC; clear EC
              by_cases DC : (iA) < (l0.length : Int)
              ·rw [if_pos DC] at H
               have aC := decide_eq_true DC; clear DC; obtain ⟨kA, pB⟩ : ∃ j_ : Int, (Int.tmod (wrap64 (bA + 2)) (l0.length : Int)) = j_ := ⟨_, rfl⟩
               replace H : (if 0 ≤ (kA) then (if (kA) < (l0.length : Int) then ((impl_turnAt.f ((rd_T49 l0 bA).f0) ((rd_T49 l0 bA).f1) ((rd_T49 l0 (iA)).f0) ((rd_T49 l0 (iA)).f1) ((rd_T49 l0 (kA)).f0) ((rd_T49 l0 (kA)).f1)).bind fun SA => (if SA = 0 then (some false) else (impl_ValidSail.l1 k3 l0 (l0.length : Int) (l0.length : Int) (wrap64 (bA + 1))))) else (none)) else (none)) = some r := by first | (rw [pB] at H; exact H) | (simp only [pB] at H ⊢; exact H)
               by_cases CC : 0 ≤ (kA)
               ·rw [if_pos CC] at H
                have ZB := decide_eq_true CC; clear CC
                by_cases BC : (kA) < (l0.length : Int)
                ·rw [if_pos BC] at H
                 have YB := decide_eq_true BC; clear BC; replace H := zob H; obtain ⟨SA, qD, H⟩ := H
                 by_cases TB : SA = 0
                 ·rw [if_pos TB] at H
                  have KB : (SA == 0) = true := beq_iff_eq.mpr TB; have JB : (SA != 0) = false := bne_eq_false_iff_eq.mpr TB; clear TB; obtain rfl := Option.some.inj H
                  try go_wp2
                  have n0_ := zQ (below_drew1 HB.out); clear HB; have HB := n0_; clear n0_; have bB : 0 ≤ (bA : Int) := zD; have YA : bA < (l0.length : Int) := zD; obtain ⟨gA, sC, qA, pA⟩ := at_T49 oB.out bA bB YA; have OA := pA; have PA := qA
                  cases sC
                  replace qA := zw HB.out qA; replace pA := zw HB.out pA; replace bB := eq_true bB; replace YA := eq_true YA; have aB : 0 ≤ ((iA) : Int) := zD; have XA : (iA) < (l0.length : Int) := zD; obtain ⟨QB, rC, oA, nA⟩ := at_T49 oB.out (iA) aB XA; have MA := nA; have NA := oA; obtain rfl : gA = QB := (by injection rC); replace oA := zw HB.out oA; replace nA := zw HB.out nA; replace aB := eq_true aB; replace XA := eq_true XA; have ZA : 0 ≤ ((kA) : Int) := zD; have WA : (kA) < (l0.length : Int) := zD; obtain ⟨PB, qC, mA, lA⟩ := at_T49 oB.out (kA) ZA WA; have KA := lA; have LA := mA; obtain rfl : gA = PB := (by injection qC); replace mA := zw HB.out mA; replace lA := zw HB.out lA; replace ZA := eq_true ZA; replace WA := eq_true WA
                  refine zs (fun w' => w'.cell? (gA.add ((bA).toNat * 2)) = some (.int .i64 ((rd_T49 l0 bA).f0)) ∧ w'.cell? ⟨(gA.add ((bA).toNat * 2)).block, (gA.add ((bA).toNat * 2)).off + 1, none⟩ = some (.int .i64 ((rd_T49 l0 bA).f1)) ∧ w'.cell? (gA.add (((iA)).toNat * 2)) = some (.int .i64 ((rd_T49 l0 (iA)).f0)) ∧ w'.cell? ⟨(gA.add (((iA)).toNat * 2)).block, (gA.add (((iA)).toNat * 2)).off + 1, none⟩ = some (.int .i64 ((rd_T49 l0 (iA)).f1)) ∧ w'.cell? (gA.add (((kA)).toNat * 2)) = some (.int .i64 ((rd_T49 l0 (kA)).f0)) ∧ w'.cell? ⟨(gA.add (((kA)).toNat * 2)).block, (gA.add (((kA)).toNat * 2)).off + 1, none⟩ = some (.int .i64 ((rd_T49 l0 (kA)).f1))) [] 20 ⟨((HB.out.cell (World.block_lt_of_cell? w _ PA)).trans PA), ((HB.out.cell (World.block_lt_of_cell? w _ OA)).trans OA), ((HB.out.cell (World.block_lt_of_cell? w _ NA)).trans NA), ((HB.out.cell (World.block_lt_of_cell? w _ MA)).trans MA), ((HB.out.cell (World.block_lt_of_cell? w _ LA)).trans LA), ((HB.out.cell (World.block_lt_of_cell? w _ KA)).trans KA)⟩ (fun eA => ?_); refine with_tabW impl_ValidSail.tab13 impl_ValidSail.bits13 (fun HT_ HW_ => ?_)
                  generalize wr.drew = KD at HB qA pA oA nA mA lA eA ⊢
                  refine zp 0 39 ?_
                  refine zp 1 40 ?_
                  refine zp 2 41 ?_
                  refine zp 4 43 ?_
                  refine zp 5 44 ?_
                  refine zp 6 45 ?_
                  refine zp 7 46 ?_
                  refine zp 8 47 ?_
                  refine zp 9 48 ?_
                  refine zp 11 50 ?_
                  refine zp 12 51 ?_
                  refine zp 13 52 ?_
                  refine zp 14 53 ?_
                  refine zp 15 54 ?_
                  refine zp 16 55 ?_
                  refine zt 3 42 eA ?_
                  refine zt 10 49 eA ?_
                  refine zt 17 56 eA ?_
                  refine zo 18 (some 57) (fun K hK => ?_)
                  refine goes_ Try.func56 (by kernel_rfl) rfl #[.agg #[.int .i64 ((rd_T49 l0 bA).f0), .int .i64 ((rd_T49 l0 bA).f1)], .agg #[.int .i64 ((rd_T49 l0 (iA)).f0), .int .i64 ((rd_T49 l0 (iA)).f1)], .agg #[.int .i64 ((rd_T49 l0 (kA)).f0), .int .i64 ((rd_T49 l0 (kA)).f1)]] (by rfl) rfl rfl (by (try simp only [List.map_toArray, List.map_cons, List.map_nil]); first | done | (simp only [qB, pB]; rfl) | rfl | (simp only [List.length_drop, List.length_take]; rfl)) ?_
                  with_reducible refine (impl_turnAt.calls ((rd_T49 l0 bA).f0) ((rd_T49 l0 bA).f1) ((rd_T49 l0 (iA)).f0) ((rd_T49 l0 (iA)).f1) ((rd_T49 l0 (kA)).f0) ((rd_T49 l0 (kA)).f1) SA _ qD.out).mono ?_
                  rintro e JD ⟨rfl, hb⟩
                  refine ⟨_, rfl, ?_⟩
                  have n0_ := zbs HB.out hb; clear HB; have HB := n0_; clear n0_
                  (try clear hb)
                  (try clear UC)
                  (try clear hk)
                  (try clear hi)
                  refine hK.out _ _ ⟨((HB.out.cell (World.block_lt_of_cell? w _ PA)).trans PA), ((HB.out.cell (World.block_lt_of_cell? w _ OA)).trans OA), ((HB.out.cell (World.block_lt_of_cell? w _ NA)).trans NA), ((HB.out.cell (World.block_lt_of_cell? w _ MA)).trans MA), ((HB.out.cell (World.block_lt_of_cell? w _ LA)).trans LA), ((HB.out.cell (World.block_lt_of_cell? w _ KA)).trans KA)⟩ (fun eA => ?_)
                  clear hK K
                  refine zn 57 ?_
                  refine zp 19 58 ?_
                  refine done_ (done_of HT_.out (by kernel_rfl)) ?_
                  try go_wp2
                  go_ret
                  exact ⟨by first | rfl | (simp [errW_none, errW_some] <;> rfl) | (simp only [← qB, ← pB]; first | rfl | (simp [errW_none, errW_some] <;> rfl)) | (simp [*, errW_none, errW_some] <;> rfl), zB HB.out⟩
                 ·rw [if_neg TB] at H
                  have KB : (SA == 0) = false := beq_eq_false_iff_ne.mpr TB; have JB : (SA != 0) = true := bne_iff_ne.mpr TB; have H' := zQ H; clear H
                  try go_wp2
                  have n0_ := zQ (below_drew1 HB.out); clear HB; have HB := n0_; clear n0_; have bB : 0 ≤ (bA : Int) := zD; have YA : bA < (l0.length : Int) := zD; obtain ⟨gA, sC, qA, pA⟩ := at_T49 oB.out bA bB YA; have OA := pA; have PA := qA
                  cases sC
                  replace qA := zw HB.out qA; replace pA := zw HB.out pA; replace bB := eq_true bB; replace YA := eq_true YA; have aB : 0 ≤ ((iA) : Int) := zD; have XA : (iA) < (l0.length : Int) := zD; obtain ⟨QB, rC, oA, nA⟩ := at_T49 oB.out (iA) aB XA; have MA := nA; have NA := oA; obtain rfl : gA = QB := (by injection rC); replace oA := zw HB.out oA; replace nA := zw HB.out nA; replace aB := eq_true aB; replace XA := eq_true XA; have ZA : 0 ≤ ((kA) : Int) := zD; have WA : (kA) < (l0.length : Int) := zD; obtain ⟨PB, qC, mA, lA⟩ := at_T49 oB.out (kA) ZA WA; have KA := lA; have LA := mA; obtain rfl : gA = PB := (by injection qC); replace mA := zw HB.out mA; replace lA := zw HB.out lA; replace ZA := eq_true ZA; replace WA := eq_true WA
                  refine zs (fun w' => w'.cell? (gA.add ((bA).toNat * 2)) = some (.int .i64 ((rd_T49 l0 bA).f0)) ∧ w'.cell? ⟨(gA.add ((bA).toNat * 2)).block, (gA.add ((bA).toNat * 2)).off + 1, none⟩ = some (.int .i64 ((rd_T49 l0 bA).f1)) ∧ w'.cell? (gA.add (((iA)).toNat * 2)) = some (.int .i64 ((rd_T49 l0 (iA)).f0)) ∧ w'.cell? ⟨(gA.add (((iA)).toNat * 2)).block, (gA.add (((iA)).toNat * 2)).off + 1, none⟩ = some (.int .i64 ((rd_T49 l0 (iA)).f1)) ∧ w'.cell? (gA.add (((kA)).toNat * 2)) = some (.int .i64 ((rd_T49 l0 (kA)).f0)) ∧ w'.cell? ⟨(gA.add (((kA)).toNat * 2)).block, (gA.add (((kA)).toNat * 2)).off + 1, none⟩ = some (.int .i64 ((rd_T49 l0 (kA)).f1))) [] 20 ⟨((HB.out.cell (World.block_lt_of_cell? w _ PA)).trans PA), ((HB.out.cell (World.block_lt_of_cell? w _ OA)).trans OA), ((HB.out.cell (World.block_lt_of_cell? w _ NA)).trans NA), ((HB.out.cell (World.block_lt_of_cell? w _ MA)).trans MA), ((HB.out.cell (World.block_lt_of_cell? w _ LA)).trans LA), ((HB.out.cell (World.block_lt_of_cell? w _ KA)).trans KA)⟩ (fun eA => ?_); refine with_tabW impl_ValidSail.tab13 impl_ValidSail.bits13 (fun HT_ HW_ => ?_)
                  generalize wr.drew = ID at HB qA pA oA nA mA lA eA ⊢
                  refine zp 0 39 ?_
                  refine zp 1 40 ?_
                  refine zp 2 41 ?_
                  refine zp 4 43 ?_
                  refine zp 5 44 ?_
                  refine zp 6 45 ?_
                  refine zp 7 46 ?_
                  refine zp 8 47 ?_
                  refine zp 9 48 ?_
                  refine zp 11 50 ?_
                  refine zp 12 51 ?_
                  refine zp 13 52 ?_
                  refine zp 14 53 ?_
                  refine zp 15 54 ?_
                  refine zp 16 55 ?_
                  refine zt 3 42 eA ?_
                  refine zt 10 49 eA ?_
                  refine zt 17 56 eA ?_
                  refine zo 18 (some 57) (fun K hK => ?_)
                  refine goes_ Try.func56 (by kernel_rfl) rfl #[.agg #[.int .i64 ((rd_T49 l0 bA).f0), .int .i64 ((rd_T49 l0 bA).f1)], .agg #[.int .i64 ((rd_T49 l0 (iA)).f0), .int .i64 ((rd_T49 l0 (iA)).f1)], .agg #[.int .i64 ((rd_T49 l0 (kA)).f0), .int .i64 ((rd_T49 l0 (kA)).f1)]] (by rfl) rfl rfl (by (try simp only [List.map_toArray, List.map_cons, List.map_nil]); first | done | (simp only [qB, pB]; rfl) | rfl | (simp only [List.length_drop, List.length_take]; rfl)) ?_
                  with_reducible refine (impl_turnAt.calls ((rd_T49 l0 bA).f0) ((rd_T49 l0 bA).f1) ((rd_T49 l0 (iA)).f0) ((rd_T49 l0 (iA)).f1) ((rd_T49 l0 (kA)).f0) ((rd_T49 l0 (kA)).f1) SA _ qD.out).mono ?_
                  rintro e HD ⟨rfl, hb⟩
                  refine ⟨_, rfl, ?_⟩
                  have n0_ := zbs HB.out hb; clear HB; have HB := n0_; clear n0_
                  (try clear hb)
                  (try clear UC)
                  (try clear hk)
                  (try clear hi)
                  refine hK.out _ _ ⟨((HB.out.cell (World.block_lt_of_cell? w _ PA)).trans PA), ((HB.out.cell (World.block_lt_of_cell? w _ OA)).trans OA), ((HB.out.cell (World.block_lt_of_cell? w _ NA)).trans NA), ((HB.out.cell (World.block_lt_of_cell? w _ MA)).trans MA), ((HB.out.cell (World.block_lt_of_cell? w _ LA)).trans LA), ((HB.out.cell (World.block_lt_of_cell? w _ KA)).trans KA)⟩ (fun eA => ?_)
                  clear hK K
                  refine zn 57 ?_
                  refine zp 19 58 ?_
                  refine done_ (done_of HT_.out (by kernel_rfl)) ?_
                  try go_wp2
                  go_roundg k3
                  case measure => have := RB.out; have := HK2.out; have := HK3.out; omega
                  case rel => exact ⟨(wrap64 (bA + 1)), (zF), H', ⟨by have := RB.out; have := HK2.out; have := HK3.out; omega⟩, ⟨zB HB.out⟩⟩
                ·rw [if_neg BC] at H
                 exact absurd H (by simp)
               ·rw [if_neg CC] at H
                exact absurd H (by simp)
              ·rw [if_neg DC] at H
               exact absurd H (by simp)
             ·rw [if_neg EC] at H
              exact absurd H (by simp)
           ·rw [if_neg FC] at H
            exact absurd H (by simp)
          ·rw [if_neg GC] at H
           exact absurd H (by simp)
         ·rw [if_neg hC] at H
          have LB := decide_eq_false hC; clear hC; have H' := zQ H; clear H
          go_wp2
          go_loopg [62] k3 (fun kq sD w' => ∃ (aA : Int), sD = .int .i64 aA ∧ Aside0 (impl_ValidSail.l2 kq l0 (l0.length : Int) (l0.length : Int) aA = some r) ∧ Aside0 (kq ≤ k3) ∧ Aside0 (Below w.heap.size w w'))
          case atStart => exact ⟨(0), (zF), H', ⟨Nat.le_refl _⟩, ⟨zB HB.out⟩⟩
          case round =>
           clear H'; (try clear c1); (try clear c2); (try clear p2); (try clear q2); (try clear bD); (try clear c3); (try clear UA); (try clear GB); (try clear c4); (try clear c5); (try clear SB); (try clear c6); (try clear uC); (try clear p6); (try clear c7); (try clear tC); (try clear c9); (try clear yC); (try clear hC); (try clear LB); (try clear GC); (try clear gC); (try clear FC); (try clear fC); (try clear xC); (try clear eC); (try clear dC); (try clear cC); (try clear EC); (try clear bC); (try clear DC); (try clear aC); (try clear ZC); (try clear XC); (try clear TC); (try clear YC); (try clear WC); (try clear SC); (try clear CC); (try clear ZB); (try clear BC); (try clear YB); (try clear TB); (try clear KB); (try clear JB); (try clear xD); (try clear nB mB hB gB); (try clear lB kB fB eB); (try clear jB iB dB cB); (try clear sA); (try clear rA); (try clear qA); (try clear pA); (try clear oA); (try clear nA); (try clear mA); (try clear lA); (try clear p2); (try clear RA); (try clear bB); (try clear aB); (try clear ZA); (try clear p6); (try clear q2); (try clear QA); (try clear YA); (try clear XA); (try clear WA); obtain ⟨aA, rfl, HA, HK4, HB⟩ := hrel
           cases gk with
           | zero => exact absurd HA.out (by simp [impl_ValidSail.l2])
           | succ k4 =>
            have H := HA.out; clear HA
            simp only [impl_ValidSail.l2] at H
            by_cases wC : aA < (l0.length : Int)
            ·rw [if_pos wC] at H
             have XB := decide_eq_true wC; clear wC; have H' := zQ H; clear H
             go_wp2
             go_loopg [8] k4 (fun kq v8 w' => ∃ (cA : Int), v8 = .int .i64 cA ∧ Aside0 (impl_ValidSail.l3 kq l0 (l0.length : Int) aA cA (l0.length : Int) aA = some r) ∧ Aside0 (kq ≤ k4) ∧ Aside0 (Below w.heap.size w w'))
             case atStart => exact ⟨(wrap64 (aA + 2)), (zF), H', ⟨Nat.le_refl _⟩, ⟨zB HB.out⟩⟩
             case round =>
              clear H'; (try clear c1); (try clear c2); (try clear p2); (try clear q2); (try clear bD); (try clear c3); (try clear UA); (try clear GB); (try clear c4); (try clear c5); (try clear SB); (try clear c6); (try clear uC); (try clear p6); (try clear c7); (try clear tC); (try clear c9); (try clear yC); (try clear hC); (try clear LB); (try clear GC); (try clear gC); (try clear FC); (try clear fC); (try clear xC); (try clear eC); (try clear dC); (try clear cC); (try clear EC); (try clear bC); (try clear DC); (try clear aC); (try clear ZC); (try clear XC); (try clear TC); (try clear YC); (try clear WC); (try clear SC); (try clear CC); (try clear ZB); (try clear BC); (try clear YB); (try clear TB); (try clear KB); (try clear JB); (try clear xD); (try clear wC); (try clear XB); (try clear nB mB hB gB); (try clear lB kB fB eB); (try clear jB iB dB cB); (try clear sA); (try clear rA); (try clear qA); (try clear pA); (try clear oA); (try clear nA); (try clear mA); (try clear lA); (try clear p2); (try clear ZC); (try clear RA); (try clear YC); (try clear bB); (try clear aB); (try clear ZA); (try clear p6); (try clear q2); (try clear XC); (try clear QA); (try clear WC)
              (try clear YA); (try clear XA); (try clear WA); obtain ⟨cA, rfl, HA, HK5, HB⟩ := hrel
              cases gk with
              | zero => exact absurd HA.out (by simp [impl_ValidSail.l3])
              | succ k5 =>
               have H := HA.out; clear HA
               simp only [impl_ValidSail.l3] at H
               by_cases AC : cA < (l0.length : Int)
               ·rw [if_pos AC] at H
                have IC := decide_eq_true AC; clear AC
                by_cases HC : (l0.length : Int) = 0
                ·rw [if_pos HC] at H
                 exact absurd H (by simp)
                ·rw [if_neg HC] at H
                 have oD : ((l0.length : Int) == 0) = false := beq_eq_false_iff_ne.mpr HC; have nD : ((l0.length : Int) != 0) = true := bne_iff_ne.mpr HC
                 have mD : ¬ (l0 = []) := fun h_ => HC (by rw [h_]; rfl)
                 by_cases vC : (Int.tmod (wrap64 (cA + 1)) (l0.length : Int)) = aA
                 ·rw [if_pos vC] at H
                  have WB : ((Int.tmod (wrap64 (cA + 1)) (l0.length : Int)) == aA) = true := beq_iff_eq.mpr vC; have VB : ((Int.tmod (wrap64 (cA + 1)) (l0.length : Int)) != aA) = false := bne_eq_false_iff_eq.mpr vC; clear vC; have H' := zQ H; clear H
                  try go_wp2
                  have n0_ := zQ (below_drew1 HB.out); clear HB; have HB := n0_; clear n0_
                  refine zs (fun w' => True) [] 29 trivial (fun eA => ?_); refine with_tabW impl_ValidSail.tab22 impl_ValidSail.bits22 (fun HT_ HW_ => ?_)
                  generalize wr.drew = GD at HB eA ⊢
                  refine zp 0 72 ?_
                  refine zp 1 73 ?_
                  refine zp 2 74 ?_
                  refine zp 3 75 ?_
                  refine zp 4 76 ?_
                  refine zp 5 77 ?_
                  refine zp 6 78 ?_
                  refine zg 7 79 ?_
                  refine zg 8 80 ?_
                  refine zg 9 81 ?_
                  refine zg 10 82 ?_
                  refine zg 11 83 ?_
                  refine zg 12 84 ?_
                  refine zg 13 85 ?_
                  refine zg 14 86 ?_
                  refine zg 15 87 ?_
                  refine zg 16 88 ?_
                  refine zg 17 89 ?_
                  refine zg 18 90 ?_
                  refine zg 19 91 ?_
                  refine zg 20 92 ?_
                  refine zg 21 93 ?_
                  refine zg 22 94 ?_
                  refine zg 23 95 ?_
                  refine zg 24 96 ?_
                  refine zg 25 97 ?_
                  refine zg 26 98 ?_
                  refine zg 27 99 ?_
                  refine zp 28 100 ?_
                  refine done_ (done_of HT_.out (by kernel_rfl)) ?_
                  try go_wp2
                  go_roundg k5
                  case measure => have := RB.out; have := HK2.out; have := HK3.out; have := HK4.out; have := HK5.out; omega
                  case rel => exact ⟨(wrap64 (cA + 1)), (zF), H', ⟨by have := RB.out; have := HK2.out; have := HK3.out; have := HK4.out; have := HK5.out; omega⟩, ⟨zB HB.out⟩⟩
                 ·rw [if_neg vC] at H
                  have WB : ((Int.tmod (wrap64 (cA + 1)) (l0.length : Int)) == aA) = false := beq_eq_false_iff_ne.mpr vC; have VB : ((Int.tmod (wrap64 (cA + 1)) (l0.length : Int)) != aA) = true := bne_iff_ne.mpr vC
                  by_cases RC : 0 ≤ aA
                  ·rw [if_pos RC] at H
                   have lD := decide_eq_true RC; clear RC
                   by_cases QC : aA < (l0.length : Int)
                   ·rw [if_pos QC] at H
                    have kD := decide_eq_true QC; clear QC; obtain ⟨hA, VA⟩ : ∃ j_ : Int, (wrap64 (aA + 1)) = j_ := ⟨_, rfl⟩
                    replace H : (if 0 ≤ (hA) then (if (hA) < (l0.length : Int) then (if 0 ≤ cA then (if cA < (l0.length : Int) then (if 0 ≤ (Int.tmod (wrap64 (cA + 1)) (l0.length : Int)) then (if (Int.tmod (wrap64 (cA + 1)) (l0.length : Int)) < (l0.length : Int) then ((impl_edgesMeet.f k5 ((rd_T49 l0 aA).f0) ((rd_T49 l0 aA).f1) ((rd_T49 l0 (hA)).f0) ((rd_T49 l0 (hA)).f1) ((rd_T49 l0 cA).f0) ((rd_T49 l0 cA).f1) ((rd_T49 l0 (Int.tmod (wrap64 (cA + 1)) (l0.length : Int))).f0) ((rd_T49 l0 (Int.tmod (wrap64 (cA + 1)) (l0.length : Int))).f1)).bind fun vB => (if vB = true then (some false) else (impl_ValidSail.l3 k5 l0 (l0.length : Int) aA (wrap64 (cA + 1)) (l0.length : Int) aA))) else (none)) else (none)) else (none)) else (none)) else (none)) else (none)) = some r := by first | (rw [VA] at H; exact H) | (simp only [VA] at H ⊢; exact H)
                    have hji41w : (IntKind.i64.wrap (aA + 1)) = hA := (i64_w _).trans VA
                    by_cases PC : 0 ≤ (hA)
                    ·rw [if_pos PC] at H
                     have jD := decide_eq_true PC; clear PC
                     by_cases OC : (hA) < (l0.length : Int)
                     ·rw [if_pos OC] at H
                      have iD := decide_eq_true OC; clear OC
                      by_cases NC : 0 ≤ cA
                      ·rw [if_pos NC] at H
                       have hD := decide_eq_true NC; clear NC
                       by_cases MC : cA < (l0.length : Int)
                       ·rw [if_pos MC] at H
                        have gD := decide_eq_true MC; clear MC; obtain ⟨jA, TA⟩ : ∃ j_ : Int, (Int.tmod (wrap64 (cA + 1)) (l0.length : Int)) = j_ := ⟨_, rfl⟩
                        replace H : (if 0 ≤ (jA) then (if (jA) < (l0.length : Int) then ((impl_edgesMeet.f k5 ((rd_T49 l0 aA).f0) ((rd_T49 l0 aA).f1) ((rd_T49 l0 (hA)).f0) ((rd_T49 l0 (hA)).f1) ((rd_T49 l0 cA).f0) ((rd_T49 l0 cA).f1) ((rd_T49 l0 (jA)).f0) ((rd_T49 l0 (jA)).f1)).bind fun vB => (if vB = true then (some false) else (impl_ValidSail.l3 k5 l0 (l0.length : Int) aA (wrap64 (cA + 1)) (l0.length : Int) aA))) else (none)) else (none)) = some r := by first | (rw [TA] at H; exact H) | (simp only [TA] at H ⊢; exact H)
                        (try rw [TA] at WB)
                        (try rw [TA] at VB)
                        by_cases LC : 0 ≤ (jA)
                        ·rw [if_pos LC] at H
                         have fD := decide_eq_true LC; clear LC
                         by_cases KC : (jA) < (l0.length : Int)
                         ·rw [if_pos KC] at H
                          have eD := decide_eq_true KC; clear KC; replace H := zob H; obtain ⟨vB, pD, H⟩ := H
                          by_cases JC : vB = true
                          ·subst JC
                           rw [if_pos rfl] at H; obtain rfl := Option.some.inj H
                           try go_wp2
                           have n0_ := zQ (below_drew1 HB.out); clear HB; have HB := n0_; clear n0_; have EB : 0 ≤ (aA : Int) := zD; have AB : aA < (l0.length : Int) := zD; obtain ⟨dA, pC, AA, zA⟩ := at_T49 oB.out aA EB AB; have IA := zA; have JA := AA
                           cases pC
                           replace AA := zw HB.out AA; replace zA := zw HB.out zA; replace EB := eq_true EB; replace AB := eq_true AB; have DB : 0 ≤ ((hA) : Int) := zD; have yB : (hA) < (l0.length : Int) := zD; obtain ⟨OB, oC, yA, xA⟩ := at_T49 oB.out (hA) DB yB; have FA := xA; have GA := yA; obtain rfl : dA = OB := (by injection oC); replace yA := zw HB.out yA; replace xA := zw HB.out xA; replace DB := eq_true DB; replace yB := eq_true yB; have CB : 0 ≤ (cA : Int) := zD; have xB : cA < (l0.length : Int) := zD; obtain ⟨NB, nC, wA, vA⟩ := at_T49 oB.out cA CB xB; have DA := vA; have EA := wA; obtain rfl : dA = NB := (by injection nC); replace wA := zw HB.out wA; replace vA := zw HB.out vA; replace CB := eq_true CB; replace xB := eq_true xB; have BB : 0 ≤ ((jA) : Int) := zD; have wB : (jA) < (l0.length : Int) := zD; obtain ⟨MB, mC, uA, tA⟩ := at_T49 oB.out (jA) BB wB; have BA := tA; have CA := uA; obtain rfl : dA = MB := (by injection mC); replace uA := zw HB.out uA; replace tA := zw HB.out tA; replace BB := eq_true BB; replace wB := eq_true wB
                           refine zs (fun w' => w'.cell? (dA.add ((aA).toNat * 2)) = some (.int .i64 ((rd_T49 l0 aA).f0)) ∧ w'.cell? ⟨(dA.add ((aA).toNat * 2)).block, (dA.add ((aA).toNat * 2)).off + 1, none⟩ = some (.int .i64 ((rd_T49 l0 aA).f1)) ∧ w'.cell? (dA.add (((hA)).toNat * 2)) = some (.int .i64 ((rd_T49 l0 (hA)).f0)) ∧ w'.cell? ⟨(dA.add (((hA)).toNat * 2)).block, (dA.add (((hA)).toNat * 2)).off + 1, none⟩ = some (.int .i64 ((rd_T49 l0 (hA)).f1)) ∧ w'.cell? (dA.add ((cA).toNat * 2)) = some (.int .i64 ((rd_T49 l0 cA).f0)) ∧ w'.cell? ⟨(dA.add ((cA).toNat * 2)).block, (dA.add ((cA).toNat * 2)).off + 1, none⟩ = some (.int .i64 ((rd_T49 l0 cA).f1)) ∧ w'.cell? (dA.add (((jA)).toNat * 2)) = some (.int .i64 ((rd_T49 l0 (jA)).f0)) ∧ w'.cell? ⟨(dA.add (((jA)).toNat * 2)).block, (dA.add (((jA)).toNat * 2)).off + 1, none⟩ = some (.int .i64 ((rd_T49 l0 (jA)).f1))) [] 29 ⟨((HB.out.cell (World.block_lt_of_cell? w _ JA)).trans JA), ((HB.out.cell (World.block_lt_of_cell? w _ IA)).trans IA), ((HB.out.cell (World.block_lt_of_cell? w _ GA)).trans GA), ((HB.out.cell (World.block_lt_of_cell? w _ FA)).trans FA), ((HB.out.cell (World.block_lt_of_cell? w _ EA)).trans EA), ((HB.out.cell (World.block_lt_of_cell? w _ DA)).trans DA), ((HB.out.cell (World.block_lt_of_cell? w _ CA)).trans CA), ((HB.out.cell (World.block_lt_of_cell? w _ BA)).trans BA)⟩ (fun eA => ?_); refine with_tabW impl_ValidSail.tab22 impl_ValidSail.bits22 (fun HT_ HW_ => ?_)
                           generalize wr.drew = FD at HB AA zA yA xA wA vA uA tA eA ⊢
                           refine zp 0 72 ?_
                           refine zp 1 73 ?_
                           refine zp 2 74 ?_
                           refine zp 3 75 ?_
                           refine zp 4 76 ?_
                           refine zp 5 77 ?_
                           refine zp 6 78 ?_
                           refine zp 7 79 ?_
                           refine zp 8 80 ?_
                           refine zp 9 81 ?_
                           refine zp 11 83 ?_
                           refine zp 12 84 ?_
                           refine zp 13 85 ?_
                           refine zp 14 86 ?_
                           refine zp 16 88 ?_
                           refine zp 17 89 ?_
                           refine zp 18 90 ?_
                           refine zp 20 92 ?_
                           refine zp 21 93 ?_
                           refine zp 22 94 ?_
                           refine zp 23 95 ?_
                           refine zp 24 96 ?_
                           refine zp 25 97 ?_
                           refine zt 10 82 eA ?_
                           refine zt 15 87 eA ?_
                           refine zt 19 91 eA ?_
                           refine zt 26 98 eA ?_
                           refine zo 27 (some 99) (fun K hK => ?_)
                           refine goes_ Try.func57 (by kernel_rfl) rfl #[.agg #[.int .i64 ((rd_T49 l0 aA).f0), .int .i64 ((rd_T49 l0 aA).f1)], .agg #[.int .i64 ((rd_T49 l0 (hA)).f0), .int .i64 ((rd_T49 l0 (hA)).f1)], .agg #[.int .i64 ((rd_T49 l0 cA).f0), .int .i64 ((rd_T49 l0 cA).f1)], .agg #[.int .i64 ((rd_T49 l0 (jA)).f0), .int .i64 ((rd_T49 l0 (jA)).f1)]] (by rfl) rfl rfl (by (try simp only [List.map_toArray, List.map_cons, List.map_nil]); first | done | (simp only [VA, TA]; rfl) | rfl | (simp only [List.length_drop, List.length_take]; rfl)) ?_
                           with_reducible refine (impl_edgesMeet.calls k5 ((rd_T49 l0 aA).f0) ((rd_T49 l0 aA).f1) ((rd_T49 l0 (hA)).f0) ((rd_T49 l0 (hA)).f1) ((rd_T49 l0 cA).f0) ((rd_T49 l0 cA).f1) ((rd_T49 l0 (jA)).f0) ((rd_T49 l0 (jA)).f1) true _ pD.out).mono ?_
                           rintro e ED ⟨rfl, hb⟩
                           refine ⟨_, rfl, ?_⟩
                           have n0_ := zbs HB.out hb; clear HB; have HB := n0_; clear n0_
                           (try clear hb)
                           (try clear UC)
                           (try clear hk)
                           (try clear hi)
                           refine hK.out _ _ ⟨((HB.out.cell (World.block_lt_of_cell? w _ JA)).trans JA), ((HB.out.cell (World.block_lt_of_cell? w _ IA)).trans IA), ((HB.out.cell (World.block_lt_of_cell? w _ GA)).trans GA), ((HB.out.cell (World.block_lt_of_cell? w _ FA)).trans FA), ((HB.out.cell (World.block_lt_of_cell? w _ EA)).trans EA), ((HB.out.cell (World.block_lt_of_cell? w _ DA)).trans DA), ((HB.out.cell (World.block_lt_of_cell? w _ CA)).trans CA), ((HB.out.cell (World.block_lt_of_cell? w _ BA)).trans BA)⟩ (fun eA => ?_)
                           clear hK K
                           refine zn 99 ?_
                           refine zp 28 100 ?_
                           refine done_ (done_of HT_.out (by kernel_rfl)) ?_
                           try go_wp2
                           go_ret
                           exact ⟨by first | rfl | (simp [errW_none, errW_some] <;> rfl) | (simp only [← VA, ← TA]; first | rfl | (simp [errW_none, errW_some] <;> rfl)) | (simp [*, errW_none, errW_some] <;> rfl), zB HB.out⟩
                          ·replace JC := Bool.eq_false_iff.mpr JC
                           subst JC
                           rw [if_neg Bool.false_ne_true] at H; have H' := zQ H; clear H
                           try go_wp2
                           have n0_ := zQ (below_drew1 HB.out); clear HB; have HB := n0_; clear n0_; have EB : 0 ≤ (aA : Int) := zD; have AB : aA < (l0.length : Int) := zD; obtain ⟨dA, pC, AA, zA⟩ := at_T49 oB.out aA EB AB; have IA := zA; have JA := AA
                           cases pC
                           replace AA := zw HB.out AA; replace zA := zw HB.out zA; replace EB := eq_true EB; replace AB := eq_true AB; have DB : 0 ≤ ((hA) : Int) := zD; have yB : (hA) < (l0.length : Int) := zD; obtain ⟨OB, oC, yA, xA⟩ := at_T49 oB.out (hA) DB yB; have FA := xA; have GA := yA; obtain rfl : dA = OB := (by injection oC); replace yA := zw HB.out yA; replace xA := zw HB.out xA; replace DB := eq_true DB; replace yB := eq_true yB; have CB : 0 ≤ (cA : Int) := zD; have xB : cA < (l0.length : Int) := zD; obtain ⟨NB, nC, wA, vA⟩ := at_T49 oB.out cA CB xB; have DA := vA; have EA := wA; obtain rfl : dA = NB := (by injection nC); replace wA := zw HB.out wA; replace vA := zw HB.out vA; replace CB := eq_true CB; replace xB := eq_true xB; have BB : 0 ≤ ((jA) : Int) := zD; have wB : (jA) < (l0.length : Int) := zD; obtain ⟨MB, mC, uA, tA⟩ := at_T49 oB.out (jA) BB wB; have BA := tA; have CA := uA; obtain rfl : dA = MB := (by injection mC); replace uA := zw HB.out uA; replace tA := zw HB.out tA; replace BB := eq_true BB; replace wB := eq_true wB
                           refine zs (fun w' => w'.cell? (dA.add ((aA).toNat * 2)) = some (.int .i64 ((rd_T49 l0 aA).f0)) ∧ w'.cell? ⟨(dA.add ((aA).toNat * 2)).block, (dA.add ((aA).toNat * 2)).off + 1, none⟩ = some (.int .i64 ((rd_T49 l0 aA).f1)) ∧ w'.cell? (dA.add (((hA)).toNat * 2)) = some (.int .i64 ((rd_T49 l0 (hA)).f0)) ∧ w'.cell? ⟨(dA.add (((hA)).toNat * 2)).block, (dA.add (((hA)).toNat * 2)).off + 1, none⟩ = some (.int .i64 ((rd_T49 l0 (hA)).f1)) ∧ w'.cell? (dA.add ((cA).toNat * 2)) = some (.int .i64 ((rd_T49 l0 cA).f0)) ∧ w'.cell? ⟨(dA.add ((cA).toNat * 2)).block, (dA.add ((cA).toNat * 2)).off + 1, none⟩ = some (.int .i64 ((rd_T49 l0 cA).f1)) ∧ w'.cell? (dA.add (((jA)).toNat * 2)) = some (.int .i64 ((rd_T49 l0 (jA)).f0)) ∧ w'.cell? ⟨(dA.add (((jA)).toNat * 2)).block, (dA.add (((jA)).toNat * 2)).off + 1, none⟩ = some (.int .i64 ((rd_T49 l0 (jA)).f1))) [] 29 ⟨((HB.out.cell (World.block_lt_of_cell? w _ JA)).trans JA), ((HB.out.cell (World.block_lt_of_cell? w _ IA)).trans IA), ((HB.out.cell (World.block_lt_of_cell? w _ GA)).trans GA), ((HB.out.cell (World.block_lt_of_cell? w _ FA)).trans FA), ((HB.out.cell (World.block_lt_of_cell? w _ EA)).trans EA), ((HB.out.cell (World.block_lt_of_cell? w _ DA)).trans DA), ((HB.out.cell (World.block_lt_of_cell? w _ CA)).trans CA), ((HB.out.cell (World.block_lt_of_cell? w _ BA)).trans BA)⟩ (fun eA => ?_); refine with_tabW impl_ValidSail.tab22 impl_ValidSail.bits22 (fun HT_ HW_ => ?_)
                           generalize wr.drew = DD at HB AA zA yA xA wA vA uA tA eA ⊢
                           refine zp 0 72 ?_
                           refine zp 1 73 ?_
                           refine zp 2 74 ?_
                           refine zp 3 75 ?_
                           refine zp 4 76 ?_
                           refine zp 5 77 ?_
                           refine zp 6 78 ?_
                           refine zp 7 79 ?_
                           refine zp 8 80 ?_
                           refine zp 9 81 ?_
                           refine zp 11 83 ?_
                           refine zp 12 84 ?_
                           refine zp 13 85 ?_
                           refine zp 14 86 ?_
                           refine zp 16 88 ?_
                           refine zp 17 89 ?_
                           refine zp 18 90 ?_
                           refine zp 20 92 ?_
                           refine zp 21 93 ?_
                           refine zp 22 94 ?_
                           refine zp 23 95 ?_
                           refine zp 24 96 ?_
                           refine zp 25 97 ?_
                           refine zt 10 82 eA ?_
                           refine zt 15 87 eA ?_
                           refine zt 19 91 eA ?_
                           refine zt 26 98 eA ?_
                           refine zo 27 (some 99) (fun K hK => ?_)
                           refine goes_ Try.func57 (by kernel_rfl) rfl #[.agg #[.int .i64 ((rd_T49 l0 aA).f0), .int .i64 ((rd_T49 l0 aA).f1)], .agg #[.int .i64 ((rd_T49 l0 (hA)).f0), .int .i64 ((rd_T49 l0 (hA)).f1)], .agg #[.int .i64 ((rd_T49 l0 cA).f0), .int .i64 ((rd_T49 l0 cA).f1)], .agg #[.int .i64 ((rd_T49 l0 (jA)).f0), .int .i64 ((rd_T49 l0 (jA)).f1)]] (by rfl) rfl rfl (by (try simp only [List.map_toArray, List.map_cons, List.map_nil]); first | done | (simp only [VA, TA]; rfl) | rfl | (simp only [List.length_drop, List.length_take]; rfl)) ?_
                           with_reducible refine (impl_edgesMeet.calls k5 ((rd_T49 l0 aA).f0) ((rd_T49 l0 aA).f1) ((rd_T49 l0 (hA)).f0) ((rd_T49 l0 (hA)).f1) ((rd_T49 l0 cA).f0) ((rd_T49 l0 cA).f1) ((rd_T49 l0 (jA)).f0) ((rd_T49 l0 (jA)).f1) false _ pD.out).mono ?_
                           rintro e CD ⟨rfl, hb⟩
                           refine ⟨_, rfl, ?_⟩
                           have n0_ := zbs HB.out hb; clear HB; have HB := n0_; clear n0_
                           (try clear hb)
                           (try clear UC)
                           (try clear hk)
                           (try clear hi)
                           refine hK.out _ _ ⟨((HB.out.cell (World.block_lt_of_cell? w _ JA)).trans JA), ((HB.out.cell (World.block_lt_of_cell? w _ IA)).trans IA), ((HB.out.cell (World.block_lt_of_cell? w _ GA)).trans GA), ((HB.out.cell (World.block_lt_of_cell? w _ FA)).trans FA), ((HB.out.cell (World.block_lt_of_cell? w _ EA)).trans EA), ((HB.out.cell (World.block_lt_of_cell? w _ DA)).trans DA), ((HB.out.cell (World.block_lt_of_cell? w _ CA)).trans CA), ((HB.out.cell (World.block_lt_of_cell? w _ BA)).trans BA)⟩ (fun eA => ?_)
                           clear hK K
                           refine zn 99 ?_
                           refine zp 28 100 ?_
                           refine done_ (done_of HT_.out (by kernel_rfl)) ?_
                           try go_wp2
                           go_roundg k5
                           case measure => have := RB.out; have := HK2.out; have := HK3.out; have := HK4.out; have := HK5.out; omega
                           case rel => exact ⟨(wrap64 (cA + 1)), (zF), H', ⟨by have := RB.out; have := HK2.out; have := HK3.out; have := HK4.out; have := HK5.out; omega⟩, ⟨zB HB.out⟩⟩
                         ·rw [if_neg KC] at H
                          exact absurd H (by simp)
                        ·rw [if_neg LC] at H
                         exact absurd H (by simp)
                       ·rw [if_neg MC] at H
                        exact absurd H (by simp)
                      ·rw [if_neg NC] at H
                       exact absurd H (by simp)
                     ·rw [if_neg OC] at H
                      exact absurd H (by simp)
                    ·rw [if_neg PC] at H
                     exact absurd H (by simp)
                   ·rw [if_neg QC] at H
                    exact absurd H (by simp)
                  ·rw [if_neg RC] at H
                   exact absurd H (by simp)
               ·rw [if_neg AC] at H
                have IC := decide_eq_false AC; clear AC; have H' := zQ H; clear H
                go_wp2
                go_roundg k5
                case measure => have := RB.out; have := HK2.out; have := HK3.out; have := HK4.out; have := HK5.out; omega
                case rel => exact ⟨(wrap64 (aA + 1)), (zF), H', ⟨by have := RB.out; have := HK2.out; have := HK3.out; have := HK4.out; have := HK5.out; omega⟩, ⟨zB HB.out⟩⟩
            ·rw [if_neg wC] at H
             have XB := decide_eq_false wC; clear wC; replace H := zob H; obtain ⟨jC, AD, H⟩ := H; obtain rfl := Option.some.inj H
             go_wp2_with (first | ((with_reducible refine zgc 58 ?_); refine zgo (some 103) Try.func58 #[.slice A0 l0.length c0] ?_; (with_reducible refine (impl_twiceSail.calls k4 _ _ l0 jC _ (zC oB.out HB.out) yD.out AD.out).mono ?_); rintro e BD ⟨rfl, hb⟩; refine ⟨_, rfl, ?_⟩; replace HB := zbs HB.out hb; (try clear hb)))
             go_ret
             exact ⟨zE, zB HB.out⟩

end
end Go.Proofs.Ytchngbjpjbahiaa.PSailw

