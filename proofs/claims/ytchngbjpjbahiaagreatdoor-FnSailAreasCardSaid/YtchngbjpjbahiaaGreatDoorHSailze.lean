import Derived.Test.YtchngbjpjbahiaaGreatDoorHSailz0
import Derived.Test.YtchngbjpjbahiaaGreatDoorHSailzc
import Derived.Test.YtchngbjpjbahiaaGreatDoorHSailzd
namespace Go.Proofs.YtchngbjpjbahiaaGreatDoor.PSailz
noncomputable section
open Go.RowKit Go.Proofs.YtchngbjpjbahiaaGreatDoorW.PrintWords Go.Proofs.YtchngbjpjbahiaaGreatDoorW.PrintLast Go.Proofs.YtchngbjpjbahiaaGreatDoorW.PrintMore
attribute [local go_sem] max2_int min2_int max_two min_two max_three min_three max_four min_four   -- for this text's walks alone
set_option linter.unusedVariables false
set_option linter.unusedSimpArgs false
set_option maxHeartbeats 8000000
set_option maxRecDepth 100000

mutual
def impl_ValidSail.j0 : Nat → List (S47) → Int → Bool → Option (Bool)
 | 0, _, _, _ => none
 | k + 1, x0, x3, x16 => if x16 = true then (some false) else (impl_ValidSail.l0 k x0 x3 x0 (x0.length : Int) 0)
def impl_ValidSail.l0 : Nat → List (S47) → Int → List (S47) → Int → Int → Option (Bool)
 | 0, _, _, _, _, _ => none
 | k + 1, x0, x3, x17, x18, x19 => if x19 < x18 then (if 0 ≤ x19 then (if x19 < (x17.length : Int) then ((impl_within.f ((rd_T47 x17 x19).f0) 0 2000).bind fun t271 => (if t271 = true then ((impl_within.f ((rd_T47 x17 x19).f1) 0 2000).bind fun t272 => (if t272 = true then (impl_ValidSail.l0 k x0 x3 x17 x18 (wrap64 (x19 + 1))) else (some false))) else (some false))) else (none)) else (none)) else (impl_ValidSail.l1 k x0 x3 (x0.length : Int) 0)
def impl_ValidSail.l1 : Nat → List (S47) → Int → Int → Int → Option (Bool)
 | 0, _, _, _, _ => none
 | k + 1, x0, x3, x35, x36 => if x36 < x35 then (if 0 ≤ x36 then (if x36 < (x0.length : Int) then (if x3 = 0 then (none) else (if 0 ≤ (Int.tmod (wrap64 (x36 + 1)) x3) then (if (Int.tmod (wrap64 (x36 + 1)) x3) < (x0.length : Int) then (if 0 ≤ (Int.tmod (wrap64 (x36 + 2)) x3) then (if (Int.tmod (wrap64 (x36 + 2)) x3) < (x0.length : Int) then ((impl_turnAt.f ((rd_T47 x0 x36).f0) ((rd_T47 x0 x36).f1) ((rd_T47 x0 (Int.tmod (wrap64 (x36 + 1)) x3)).f0) ((rd_T47 x0 (Int.tmod (wrap64 (x36 + 1)) x3)).f1) ((rd_T47 x0 (Int.tmod (wrap64 (x36 + 2)) x3)).f0) ((rd_T47 x0 (Int.tmod (wrap64 (x36 + 2)) x3)).f1)).bind fun t276 => (if t276 = 0 then (some false) else (impl_ValidSail.l1 k x0 x3 x35 (wrap64 (x36 + 1))))) else (none)) else (none)) else (none)) else (none))) else (none)) else (none)) else (impl_ValidSail.l2 k x0 x3 (x0.length : Int) 0)
def impl_ValidSail.l2 : Nat → List (S47) → Int → Int → Int → Option (Bool)
 | 0, _, _, _, _ => none
 | k + 1, x0, x3, x61, x62 => if x62 < x61 then (impl_ValidSail.l3 k x0 x3 x62 (wrap64 (x62 + 2)) x61 x62) else ((impl_twiceSail.f k x0).bind fun t277 => (some (decide (t277 > 0))))
def impl_ValidSail.l3 : Nat → List (S47) → Int → Int → Int → Int → Int → Option (Bool)
 | 0, _, _, _, _, _, _ => none
 | k + 1, x0, x3, x7, x8, x61, x62 => if x8 < x3 then (if x3 = 0 then (none) else (if (Int.tmod (wrap64 (x8 + 1)) x3) = x7 then (impl_ValidSail.l3 k x0 x3 x7 (wrap64 (x8 + 1)) x61 x62) else (if 0 ≤ x7 then (if x7 < (x0.length : Int) then (if 0 ≤ (wrap64 (x7 + 1)) then (if (wrap64 (x7 + 1)) < (x0.length : Int) then (if 0 ≤ x8 then (if x8 < (x0.length : Int) then (if 0 ≤ (Int.tmod (wrap64 (x8 + 1)) x3) then (if (Int.tmod (wrap64 (x8 + 1)) x3) < (x0.length : Int) then ((impl_edgesMeet.f k ((rd_T47 x0 x7).f0) ((rd_T47 x0 x7).f1) ((rd_T47 x0 (wrap64 (x7 + 1))).f0) ((rd_T47 x0 (wrap64 (x7 + 1))).f1) ((rd_T47 x0 x8).f0) ((rd_T47 x0 x8).f1) ((rd_T47 x0 (Int.tmod (wrap64 (x8 + 1)) x3)).f0) ((rd_T47 x0 (Int.tmod (wrap64 (x8 + 1)) x3)).f1)).bind fun t282 => (if t282 = true then (some false) else (impl_ValidSail.l3 k x0 x3 x7 (wrap64 (x8 + 1)) x61 x62))) else (none)) else (none)) else (none)) else (none)) else (none)) else (none)) else (none)) else (none)))) else (impl_ValidSail.l2 k x0 x3 x61 (wrap64 (x62 + 1)))
end
def impl_ValidSail.f (k : Nat) (l0 : List (S47)) : Option (Bool) := if (l0.length : Int) < 3 then (impl_ValidSail.j0 k l0 (l0.length : Int) true) else (impl_ValidSail.j0 k l0 (l0.length : Int) (decide ((l0.length : Int) > 8)))
def impl_ValidSail.T13 : Bool × List (List Nat × List Nat) := (true, [([], []), ([], []), ([0, 1], [0, 1]), ([2], [2]), ([], []), ([], []), ([5], [5]), ([], []), ([6, 7], [6, 7]), ([4, 8], [4, 8]), ([9], [9]), ([], []), ([], []), ([12], [12]), ([], []), ([13, 14], [13, 14]), ([11, 15], [11, 15]), ([16], [16]), ([3, 10, 17], [3, 10, 17]), ([18], [18])])
def impl_ValidSail.B13 : List Nat := [0, 0, 3, 7, 0, 0, 32, 0, 224, 496, 1008, 0, 0, 4096, 0, 28672, 63488, 129024, 262143, 524287]
theorem impl_ValidSail.tab13 : rtab .any (opsOf Tryz.f23 13) = impl_ValidSail.T13 := by kernel_rfl
theorem impl_ValidSail.bits13 : waitsOk impl_ValidSail.T13.2 impl_ValidSail.B13 = true := by kernel_rfl
def impl_ValidSail.T22 : Bool × List (List Nat × List Nat) := (true, [([], []), ([0], [0]), ([], []), ([1, 2], [1, 2]), ([], []), ([3, 4], [3, 4]), ([5], [5]), ([6], [6]), ([6], [6]), ([7, 8, 6], [6, 7, 8]), ([9, 6], [6, 9]), ([6], [6]), ([6], [6]), ([12, 6], [6, 12]), ([11, 13, 6], [6, 11, 13]), ([14, 6], [6, 14]), ([6], [6]), ([6], [6]), ([16, 17, 6], [6, 16, 17]), ([18, 6], [6, 18]), ([6], [6]), ([6], [6]), ([21, 6], [6, 21]), ([6], [6]), ([22, 23, 6], [6, 22, 23]), ([20, 24, 6], [6, 20, 24]), ([25, 6], [6, 25]), ([10, 15, 19, 26, 6, 6], [6, 10, 15, 19, 26]), ([6, 27], [6, 27])])
def impl_ValidSail.B22 : List Nat := [0, 1, 0, 7, 0, 31, 63, 127, 127, 511, 1023, 127, 127, 4223, 14463, 30847, 127, 127, 196735, 458879, 127, 127, 2097279, 127, 14680191, 32505983, 66060415, 134217727, 268435455]
theorem impl_ValidSail.tab22 : rtab .any (opsOf Tryz.f23 22) = impl_ValidSail.T22 := by kernel_rfl
theorem impl_ValidSail.bits22 : waitsOk impl_ValidSail.T22.2 impl_ValidSail.B22 = true := by kernel_rfl
theorem impl_ValidSail.calls (k : Nat) (A0 : Option Addr) (c0 : Nat) (l0 : List (S47)) (r : Bool) (w : World) (hr0 : Kd.C k47 w A0 l0.length l0) (hc0 : l0.length ≤ c0) (h : impl_ValidSail.f k l0 = some r) :
  Calls Tryz.prog 23 #[.slice A0 l0.length c0] w fun e w' => e = .returned (.bool r) ∧ Below w.heap.size w w' := by
 have hu47 := Tryz.underlying47
 have HR0 := zQ hr0
 have HC0 := zQ hc0
 clear hr0 hc0
 have HB := zQ (Below.refl w.heap.size w)
 have H := h; unfold impl_ValidSail.f at H
 clear h
 have HC2 := zQ H
 clear H
 go_enter Tryz.func23, Tryz.ntmps23
 go_upto_region 2 with (fail)
 go_cut [16] (fun v16 wc => ∃ (kq : Nat) (x16_1 : Bool), v16 = .bool x16_1 ∧ Aside0 (impl_ValidSail.j0 kq l0 (l0.length : Int) x16_1 = some r) ∧ Aside0 (kq ≤ k) ∧ Aside0 (Below w.heap.size w wc))
 case first =>
  have H := HC2.out; clear HC2
  by_cases c3 : (l0.length : Int) < 3
  ·rw [if_pos c3] at H
   have c3b0 := decide_eq_true c3; have c3b1 : decide (l0.length < 3) = true := decide_eq_true (by omega); clear c3
   (first | rw [c3b0] | (simp only [i64_w, i32_w]; rw [c3b0]) | skip)
   have H' := zQ H; clear H
   go_wp2
   go_meet
   case rel => exact ⟨_, (true), (zF), H', ⟨by first | omega | exact Nat.le_refl _⟩, ⟨zB HB.out⟩⟩
  ·rw [if_neg c3] at H
   have c3b0 := decide_eq_false c3; have c3b1 : decide (l0.length < 3) = false := decide_eq_false (by omega); clear c3
   (first | rw [c3b0] | (simp only [i64_w, i32_w]; rw [c3b0]) | skip)
   have H' := zQ H; clear H
   go_wp2
   go_meet
   case rel => exact ⟨_, (decide ((l0.length : Int) > 8)), (zF), H', ⟨by first | omega | exact Nat.le_refl _⟩, ⟨zB HB.out⟩⟩
 case rest =>
  clear HC2; (try clear c2); (try clear p2); (try clear c3); (try clear c3b0); (try clear c3b1); obtain ⟨kq, x16_1, rfl, HA, HJ1, HB⟩ := hcut
  cases kq with
  | zero => exact absurd HA.out (by simp [impl_ValidSail.j0])
  | succ kj1 =>
   have H := HA.out; clear HA
   simp only [impl_ValidSail.j0] at H
   by_cases c4 : x16_1 = true
   ·subst c4
    rw [if_pos rfl] at H; obtain rfl := Option.some.inj H
    go_wp2
    go_ret
    exact ⟨zE, zB HB.out⟩
   ·replace c4 := Bool.eq_false_iff.mpr c4
    subst c4
    rw [if_neg Bool.false_ne_true] at H; have H' := zQ H; clear H
    go_wp2
    go_loopg [19] kj1 (fun kq v19 w' => ∃ (x19_2 : Int), v19 = .int .i64 x19_2 ∧ Aside0 (impl_ValidSail.l0 kq l0 (l0.length : Int) l0 (l0.length : Int) x19_2 = some r) ∧ Aside0 (kq ≤ kj1) ∧ Aside0 (Below w.heap.size w w'))
    case atStart => exact ⟨(0), (zF), H', ⟨Nat.le_refl _⟩, ⟨zB HB.out⟩⟩
    case round =>
     clear H'; (try clear c2); (try clear p2); (try clear c3); (try clear c3b0); (try clear c3b1); (try clear c4); (try clear p2); obtain ⟨x19_2, rfl, HA, HK2, HB⟩ := hrel
     cases gk with
     | zero => exact absurd HA.out (by simp [impl_ValidSail.l0])
     | succ k2 =>
      have H := HA.out; clear HA
      simp only [impl_ValidSail.l0] at H
      by_cases c5 : x19_2 < (l0.length : Int)
      ·rw [if_pos c5] at H
       have c5b0 := decide_eq_true c5; clear c5
       by_cases c6 : 0 ≤ x19_2
       ·rw [if_pos c6] at H
        have c6b0 := decide_eq_true c6; clear c6
        by_cases c7 : x19_2 < (l0.length : Int)
        ·rw [if_pos c7] at H
         have c7b0 := decide_eq_true c7; clear c7; replace H := zob H; obtain ⟨t271, A8, H⟩ := H
         by_cases c9 : t271 = true
         ·subst c9
          rw [if_pos rfl] at H; replace H := zob H; obtain ⟨t272, A10, H⟩ := H
          by_cases c11 : t272 = true
          ·subst c11
           rw [if_pos rfl] at H; have H' := zQ H; clear H; have p269 : 0 ≤ (x19_2 : Int) := zD; have q269 : x19_2 < (l0.length : Int) := zD; obtain ⟨ad269, e269, hx269_0, hx269_1⟩ := at_T47 HR0.out x19_2 p269 q269
           cases e269
           replace hx269_0 := zw HB.out hx269_0; replace hx269_1 := zw HB.out hx269_1; replace p269 := eq_true p269; replace q269 := eq_true q269
           go_wp2_with (first | ((with_reducible refine zd 5 ?_); refine zbx (N := 5) (cs := #[.int .i64 0, .int .i64 0]) (t := 47) ?_; intro gb270 hg w12 hbox hb; have BK270 := zQ (hbox); have GW270 := zgz hg HB.out; have GE270 := GW270; replace HB := zbs HB.out hb; clear hb hbox hg; obtain ⟨hcz13_0, hcz13_1, hfz13_0, hfz13_1⟩ := zy2 BK270.out) | ((with_reducible refine zgc 30 ?_); refine goesL_ (some 25) rfl rfl Tryz.func30 (by kernel_rfl) rfl #[.int .i64 ((rd_T47 l0 x19_2).f0), .int .i64 0, .int .i64 2000] rfl zM ?_; (with_reducible refine (impl_within.calls ((rd_T47 l0 x19_2).f0) 0 2000 true _ A8.out).mono ?_); rintro e w' ⟨rfl, ⟨nd, rfl⟩⟩; refine ⟨_, rfl, ?_⟩) | (go_at_call 30; (with_reducible refine (impl_within.calls ((rd_T47 l0 x19_2).f1) 0 2000 true _ A10.out).mono ?_); rintro e w' ⟨rfl, ⟨nd, rfl⟩⟩))
           go_roundg k2
           case measure => have := HJ1.out; have := HK2.out; omega
           case rel => exact ⟨(wrap64 (x19_2 + 1)), (zF), H', ⟨by have := HJ1.out; have := HK2.out; omega⟩, ⟨zB2 HB.out GE270.out⟩⟩
          ·replace c11 := Bool.eq_false_iff.mpr c11
           subst c11
           rw [if_neg Bool.false_ne_true] at H; obtain rfl := Option.some.inj H; have p269 : 0 ≤ (x19_2 : Int) := zD; have q269 : x19_2 < (l0.length : Int) := zD; obtain ⟨ad269, e269, hx269_0, hx269_1⟩ := at_T47 HR0.out x19_2 p269 q269
           cases e269
           replace hx269_0 := zw HB.out hx269_0; replace hx269_1 := zw HB.out hx269_1; replace p269 := eq_true p269; replace q269 := eq_true q269
           go_wp2_with (first | ((with_reducible refine zd 5 ?_); refine zbx (N := 5) (cs := #[.int .i64 0, .int .i64 0]) (t := 47) ?_; intro gb270 hg w14 hbox hb; have BK270 := zQ (hbox); have GW270 := zgz hg HB.out; have GE270 := GW270; replace HB := zbs HB.out hb; clear hb hbox hg; obtain ⟨hcz15_0, hcz15_1, hfz15_0, hfz15_1⟩ := zy2 BK270.out) | ((with_reducible refine zgc 30 ?_); refine goesL_ (some 25) rfl rfl Tryz.func30 (by kernel_rfl) rfl #[.int .i64 ((rd_T47 l0 x19_2).f0), .int .i64 0, .int .i64 2000] rfl zM ?_; (with_reducible refine (impl_within.calls ((rd_T47 l0 x19_2).f0) 0 2000 true _ A8.out).mono ?_); rintro e w' ⟨rfl, ⟨nd, rfl⟩⟩; refine ⟨_, rfl, ?_⟩) | (go_at_call 30; (with_reducible refine (impl_within.calls ((rd_T47 l0 x19_2).f1) 0 2000 false _ A10.out).mono ?_); rintro e w' ⟨rfl, ⟨nd, rfl⟩⟩))
           go_ret
           exact ⟨zE, zB2 HB.out GE270.out⟩
         ·replace c9 := Bool.eq_false_iff.mpr c9
          subst c9
          rw [if_neg Bool.false_ne_true] at H; obtain rfl := Option.some.inj H; have p269 : 0 ≤ (x19_2 : Int) := zD; have q269 : x19_2 < (l0.length : Int) := zD; obtain ⟨ad269, e269, hx269_0, hx269_1⟩ := at_T47 HR0.out x19_2 p269 q269
          cases e269
          replace hx269_0 := zw HB.out hx269_0; replace hx269_1 := zw HB.out hx269_1; replace p269 := eq_true p269; replace q269 := eq_true q269
          go_wp2_with (first | ((with_reducible refine zd 5 ?_); refine zbx (N := 5) (cs := #[.int .i64 0, .int .i64 0]) (t := 47) ?_; intro gb270 hg w16 hbox hb; have BK270 := zQ (hbox); have GW270 := zgz hg HB.out; have GE270 := GW270; replace HB := zbs HB.out hb; clear hb hbox hg; obtain ⟨hcz17_0, hcz17_1, hfz17_0, hfz17_1⟩ := zy2 BK270.out) | ((with_reducible refine zgc 30 ?_); refine goesL_ (some 25) rfl rfl Tryz.func30 (by kernel_rfl) rfl #[.int .i64 ((rd_T47 l0 x19_2).f0), .int .i64 0, .int .i64 2000] rfl zM ?_; (with_reducible refine (impl_within.calls ((rd_T47 l0 x19_2).f0) 0 2000 false _ A8.out).mono ?_); rintro e w' ⟨rfl, ⟨nd, rfl⟩⟩; refine ⟨_, rfl, ?_⟩))
          go_ret
          exact ⟨zE, zB2 HB.out GE270.out⟩
        ·rw [if_neg c7] at H
         exact absurd H (by simp)
       ·rw [if_neg c6] at H
        exact absurd H (by simp)
      ·rw [if_neg c5] at H
       have c5b0 := decide_eq_false c5; clear c5; have H' := zQ H; clear H
       go_wp2
       go_loopg [36] k2 (fun kq v36 w' => ∃ (x36_3 : Int), v36 = .int .i64 x36_3 ∧ Aside0 (impl_ValidSail.l1 kq l0 (l0.length : Int) (l0.length : Int) x36_3 = some r) ∧ Aside0 (kq ≤ k2) ∧ Aside0 (Below w.heap.size w w'))
       case atStart => exact ⟨(0), (zF), H', ⟨Nat.le_refl _⟩, ⟨zB HB.out⟩⟩
       case round =>
        clear H'; (try clear c1); (try clear c2); (try clear p2); (try clear q2); (try clear hx2); (try clear c3); (try clear c3b0); (try clear c3b1); (try clear c4); (try clear c5); (try clear c5b0); (try clear c6); (try clear c6b0); (try clear p6); (try clear c7); (try clear c7b0); (try clear c9); (try clear c11); (try clear hcz13_0 hcz13_1 hfz13_0 hfz13_1); (try clear hcz15_0 hcz15_1 hfz15_0 hfz15_1); (try clear hcz17_0 hcz17_1 hfz17_0 hfz17_1); (try clear hx269_0); (try clear hx269_1); (try clear p2); (try clear p269); (try clear q269); obtain ⟨x36_3, rfl, HA, HK3, HB⟩ := hrel
        cases gk with
        | zero => exact absurd HA.out (by simp [impl_ValidSail.l1])
        | succ k3 =>
         have H := HA.out; clear HA
         simp only [impl_ValidSail.l1] at H
         by_cases c18 : x36_3 < (l0.length : Int)
         ·rw [if_pos c18] at H
          have c18b0 := decide_eq_true c18; clear c18
          by_cases c19 : 0 ≤ x36_3
          ·rw [if_pos c19] at H
           have c19b0 := decide_eq_true c19; clear c19
           by_cases c20 : x36_3 < (l0.length : Int)
           ·rw [if_pos c20] at H
            have c20b0 := decide_eq_true c20; clear c20
            by_cases c21 : (l0.length : Int) = 0
            ·rw [if_pos c21] at H
             exact absurd H (by simp)
            ·rw [if_neg c21] at H
             have c21b0 : ((l0.length : Int) == 0) = false := beq_eq_false_iff_ne.mpr c21; have c21b1 : ((l0.length : Int) != 0) = true := bne_iff_ne.mpr c21
             have c21b2 : ¬ (l0 = []) := fun h_ => c21 (by rw [h_]; rfl)
             obtain ⟨ji22, hji22⟩ : ∃ j_ : Int, (Int.tmod (wrap64 (x36_3 + 1)) (l0.length : Int)) = j_ := ⟨_, rfl⟩
             replace H : (if 0 ≤ (ji22) then (if (ji22) < (l0.length : Int) then (if 0 ≤ (Int.tmod (wrap64 (x36_3 + 2)) (l0.length : Int)) then (if (Int.tmod (wrap64 (x36_3 + 2)) (l0.length : Int)) < (l0.length : Int) then ((impl_turnAt.f ((rd_T47 l0 x36_3).f0) ((rd_T47 l0 x36_3).f1) ((rd_T47 l0 (ji22)).f0) ((rd_T47 l0 (ji22)).f1) ((rd_T47 l0 (Int.tmod (wrap64 (x36_3 + 2)) (l0.length : Int))).f0) ((rd_T47 l0 (Int.tmod (wrap64 (x36_3 + 2)) (l0.length : Int))).f1)).bind fun t276 => (if t276 = 0 then (some false) else (impl_ValidSail.l1 k3 l0 (l0.length : Int) (l0.length : Int) (wrap64 (x36_3 + 1))))) else (none)) else (none)) else (none)) else (none)) = some r := by first | (rw [hji22] at H; exact H) | (simp only [hji22] at H ⊢; exact H)
             by_cases c23 : 0 ≤ (ji22)
             ·rw [if_pos c23] at H
              have c23b0 := decide_eq_true c23; clear c23
              by_cases c24 : (ji22) < (l0.length : Int)
              ·rw [if_pos c24] at H
               have c24b0 := decide_eq_true c24; clear c24; obtain ⟨ji25, hji25⟩ : ∃ j_ : Int, (Int.tmod (wrap64 (x36_3 + 2)) (l0.length : Int)) = j_ := ⟨_, rfl⟩
               replace H : (if 0 ≤ (ji25) then (if (ji25) < (l0.length : Int) then ((impl_turnAt.f ((rd_T47 l0 x36_3).f0) ((rd_T47 l0 x36_3).f1) ((rd_T47 l0 (ji22)).f0) ((rd_T47 l0 (ji22)).f1) ((rd_T47 l0 (ji25)).f0) ((rd_T47 l0 (ji25)).f1)).bind fun t276 => (if t276 = 0 then (some false) else (impl_ValidSail.l1 k3 l0 (l0.length : Int) (l0.length : Int) (wrap64 (x36_3 + 1))))) else (none)) else (none)) = some r := by first | (rw [hji25] at H; exact H) | (simp only [hji25] at H ⊢; exact H)
               by_cases c26 : 0 ≤ (ji25)
               ·rw [if_pos c26] at H
                have c26b0 := decide_eq_true c26; clear c26
                by_cases c27 : (ji25) < (l0.length : Int)
                ·rw [if_pos c27] at H
                 have c27b0 := decide_eq_true c27; clear c27; replace H := zob H; obtain ⟨t276, A28, H⟩ := H
                 by_cases c29 : t276 = 0
                 ·rw [if_pos c29] at H
                  have c29b0 : (t276 == 0) = true := beq_iff_eq.mpr c29; have c29b1 : (t276 != 0) = false := bne_eq_false_iff_eq.mpr c29; clear c29; obtain rfl := Option.some.inj H
                  try go_wp2
                  have n0_ := zQ (below_drew1 HB.out); clear HB; have HB := n0_; clear n0_; have p273 : 0 ≤ (x36_3 : Int) := zD; have q273 : x36_3 < (l0.length : Int) := zD; obtain ⟨ad273, e273, hx273_0, hx273_1⟩ := at_T47 HR0.out x36_3 p273 q273; have hw273_1 := hx273_1; have hw273_0 := hx273_0
                  cases e273
                  replace hx273_0 := zw HB.out hx273_0; replace hx273_1 := zw HB.out hx273_1; replace p273 := eq_true p273; replace q273 := eq_true q273; have p274 : 0 ≤ ((ji22) : Int) := zD; have q274 : (ji22) < (l0.length : Int) := zD; obtain ⟨ad274, e274, hx274_0, hx274_1⟩ := at_T47 HR0.out (ji22) p274 q274; have hw274_1 := hx274_1; have hw274_0 := hx274_0; obtain rfl : ad273 = ad274 := (by injection e274); replace hx274_0 := zw HB.out hx274_0; replace hx274_1 := zw HB.out hx274_1; replace p274 := eq_true p274; replace q274 := eq_true q274; have p275 : 0 ≤ ((ji25) : Int) := zD; have q275 : (ji25) < (l0.length : Int) := zD; obtain ⟨ad275, e275, hx275_0, hx275_1⟩ := at_T47 HR0.out (ji25) p275 q275; have hw275_1 := hx275_1; have hw275_0 := hx275_0; obtain rfl : ad273 = ad275 := (by injection e275); replace hx275_0 := zw HB.out hx275_0; replace hx275_1 := zw HB.out hx275_1; replace p275 := eq_true p275; replace q275 := eq_true q275
                  refine zs (fun w' => w'.cell? (ad273.add ((x36_3).toNat * 2)) = some (.int .i64 ((rd_T47 l0 x36_3).f0)) ∧ w'.cell? ⟨(ad273.add ((x36_3).toNat * 2)).block, (ad273.add ((x36_3).toNat * 2)).off + 1, none⟩ = some (.int .i64 ((rd_T47 l0 x36_3).f1)) ∧ w'.cell? (ad273.add (((ji22)).toNat * 2)) = some (.int .i64 ((rd_T47 l0 (ji22)).f0)) ∧ w'.cell? ⟨(ad273.add (((ji22)).toNat * 2)).block, (ad273.add (((ji22)).toNat * 2)).off + 1, none⟩ = some (.int .i64 ((rd_T47 l0 (ji22)).f1)) ∧ w'.cell? (ad273.add (((ji25)).toNat * 2)) = some (.int .i64 ((rd_T47 l0 (ji25)).f0)) ∧ w'.cell? ⟨(ad273.add (((ji25)).toNat * 2)).block, (ad273.add (((ji25)).toNat * 2)).off + 1, none⟩ = some (.int .i64 ((rd_T47 l0 (ji25)).f1))) [] 20 ⟨((HB.out.cell (World.block_lt_of_cell? w _ hw273_0)).trans hw273_0), ((HB.out.cell (World.block_lt_of_cell? w _ hw273_1)).trans hw273_1), ((HB.out.cell (World.block_lt_of_cell? w _ hw274_0)).trans hw274_0), ((HB.out.cell (World.block_lt_of_cell? w _ hw274_1)).trans hw274_1), ((HB.out.cell (World.block_lt_of_cell? w _ hw275_0)).trans hw275_0), ((HB.out.cell (World.block_lt_of_cell? w _ hw275_1)).trans hw275_1)⟩ (fun hHeld => ?_); refine with_tabW impl_ValidSail.tab13 impl_ValidSail.bits13 (fun HT_ HW_ => ?_)
                  generalize wr.drew = w30 at HB hx273_0 hx273_1 hx274_0 hx274_1 hx275_0 hx275_1 hHeld ⊢
                  refine zp 0 39 ?_
                  refine zp 1 40 ?_
                  refine zp 2 41 ?_
                  refine zp 4 43 ?_
                  refine zp 5 44 ?_
                  refine zp 6 45 ?_
                  refine zp 7 46 ?_
                  refine zp 8 47 ?_
                  refine zp 9 48 ?_
                  refine zp 11 50 ?_
                  refine zp 12 51 ?_
                  refine zp 13 52 ?_
                  refine zp 14 53 ?_
                  refine zp 15 54 ?_
                  refine zp 16 55 ?_
                  refine zt 3 42 hHeld ?_
                  refine zt 10 49 hHeld ?_
                  refine zt 17 56 hHeld ?_
                  refine zo 18 (some 57) (fun K hK => ?_)
                  refine goes_ Tryz.func49 (by kernel_rfl) rfl #[.agg #[.int .i64 ((rd_T47 l0 x36_3).f0), .int .i64 ((rd_T47 l0 x36_3).f1)], .agg #[.int .i64 ((rd_T47 l0 (ji22)).f0), .int .i64 ((rd_T47 l0 (ji22)).f1)], .agg #[.int .i64 ((rd_T47 l0 (ji25)).f0), .int .i64 ((rd_T47 l0 (ji25)).f1)]] (by rfl) rfl rfl (by (try simp only [List.map_toArray, List.map_cons, List.map_nil]); first | done | (simp only [hji22, hji25]; rfl) | rfl | (simp only [List.length_drop, List.length_take]; rfl)) ?_
                  with_reducible refine (impl_turnAt.calls ((rd_T47 l0 x36_3).f0) ((rd_T47 l0 x36_3).f1) ((rd_T47 l0 (ji22)).f0) ((rd_T47 l0 (ji22)).f1) ((rd_T47 l0 (ji25)).f0) ((rd_T47 l0 (ji25)).f1) t276 _ A28.out).mono ?_
                  rintro e w31 ⟨rfl, hb⟩
                  refine ⟨_, rfl, ?_⟩
                  have n0_ := zbs HB.out hb; clear HB; have HB := n0_; clear n0_
                  (try clear hb)
                  (try clear hb2)
                  (try clear hk)
                  (try clear hi)
                  refine hK.out _ _ ⟨((HB.out.cell (World.block_lt_of_cell? w _ hw273_0)).trans hw273_0), ((HB.out.cell (World.block_lt_of_cell? w _ hw273_1)).trans hw273_1), ((HB.out.cell (World.block_lt_of_cell? w _ hw274_0)).trans hw274_0), ((HB.out.cell (World.block_lt_of_cell? w _ hw274_1)).trans hw274_1), ((HB.out.cell (World.block_lt_of_cell? w _ hw275_0)).trans hw275_0), ((HB.out.cell (World.block_lt_of_cell? w _ hw275_1)).trans hw275_1)⟩ (fun hHeld => ?_)
                  clear hK K
                  refine zn 57 ?_
                  refine zp 19 58 ?_
                  refine done_ (done_of HT_.out (by kernel_rfl)) ?_
                  try go_wp2
                  go_ret
                  exact ⟨by first | rfl | (simp [errW_none, errW_some] <;> rfl) | (simp only [← hji22, ← hji25]; first | rfl | (simp [errW_none, errW_some] <;> rfl)) | (simp [*, errW_none, errW_some] <;> rfl), zB HB.out⟩
                 ·rw [if_neg c29] at H
                  have c29b0 : (t276 == 0) = false := beq_eq_false_iff_ne.mpr c29; have c29b1 : (t276 != 0) = true := bne_iff_ne.mpr c29; have H' := zQ H; clear H
                  try go_wp2
                  have n0_ := zQ (below_drew1 HB.out); clear HB; have HB := n0_; clear n0_; have p273 : 0 ≤ (x36_3 : Int) := zD; have q273 : x36_3 < (l0.length : Int) := zD; obtain ⟨ad273, e273, hx273_0, hx273_1⟩ := at_T47 HR0.out x36_3 p273 q273; have hw273_1 := hx273_1; have hw273_0 := hx273_0
                  cases e273
                  replace hx273_0 := zw HB.out hx273_0; replace hx273_1 := zw HB.out hx273_1; replace p273 := eq_true p273; replace q273 := eq_true q273; have p274 : 0 ≤ ((ji22) : Int) := zD; have q274 : (ji22) < (l0.length : Int) := zD; obtain ⟨ad274, e274, hx274_0, hx274_1⟩ := at_T47 HR0.out (ji22) p274 q274; have hw274_1 := hx274_1; have hw274_0 := hx274_0; obtain rfl : ad273 = ad274 := (by injection e274); replace hx274_0 := zw HB.out hx274_0; replace hx274_1 := zw HB.out hx274_1; replace p274 := eq_true p274; replace q274 := eq_true q274; have p275 : 0 ≤ ((ji25) : Int) := zD; have q275 : (ji25) < (l0.length : Int) := zD; obtain ⟨ad275, e275, hx275_0, hx275_1⟩ := at_T47 HR0.out (ji25) p275 q275; have hw275_1 := hx275_1; have hw275_0 := hx275_0; obtain rfl : ad273 = ad275 := (by injection e275); replace hx275_0 := zw HB.out hx275_0; replace hx275_1 := zw HB.out hx275_1; replace p275 := eq_true p275; replace q275 := eq_true q275
                  refine zs (fun w' => w'.cell? (ad273.add ((x36_3).toNat * 2)) = some (.int .i64 ((rd_T47 l0 x36_3).f0)) ∧ w'.cell? ⟨(ad273.add ((x36_3).toNat * 2)).block, (ad273.add ((x36_3).toNat * 2)).off + 1, none⟩ = some (.int .i64 ((rd_T47 l0 x36_3).f1)) ∧ w'.cell? (ad273.add (((ji22)).toNat * 2)) = some (.int .i64 ((rd_T47 l0 (ji22)).f0)) ∧ w'.cell? ⟨(ad273.add (((ji22)).toNat * 2)).block, (ad273.add (((ji22)).toNat * 2)).off + 1, none⟩ = some (.int .i64 ((rd_T47 l0 (ji22)).f1)) ∧ w'.cell? (ad273.add (((ji25)).toNat * 2)) = some (.int .i64 ((rd_T47 l0 (ji25)).f0)) ∧ w'.cell? ⟨(ad273.add (((ji25)).toNat * 2)).block, (ad273.add (((ji25)).toNat * 2)).off + 1, none⟩ = some (.int .i64 ((rd_T47 l0 (ji25)).f1))) [] 20 ⟨((HB.out.cell (World.block_lt_of_cell? w _ hw273_0)).trans hw273_0), ((HB.out.cell (World.block_lt_of_cell? w _ hw273_1)).trans hw273_1), ((HB.out.cell (World.block_lt_of_cell? w _ hw274_0)).trans hw274_0), ((HB.out.cell (World.block_lt_of_cell? w _ hw274_1)).trans hw274_1), ((HB.out.cell (World.block_lt_of_cell? w _ hw275_0)).trans hw275_0), ((HB.out.cell (World.block_lt_of_cell? w _ hw275_1)).trans hw275_1)⟩ (fun hHeld => ?_); refine with_tabW impl_ValidSail.tab13 impl_ValidSail.bits13 (fun HT_ HW_ => ?_)
                  generalize wr.drew = w32 at HB hx273_0 hx273_1 hx274_0 hx274_1 hx275_0 hx275_1 hHeld ⊢
                  refine zp 0 39 ?_
                  refine zp 1 40 ?_
                  refine zp 2 41 ?_
                  refine zp 4 43 ?_
                  refine zp 5 44 ?_
                  refine zp 6 45 ?_
                  refine zp 7 46 ?_
                  refine zp 8 47 ?_
                  refine zp 9 48 ?_
                  refine zp 11 50 ?_
                  refine zp 12 51 ?_
                  refine zp 13 52 ?_
                  refine zp 14 53 ?_
                  refine zp 15 54 ?_
                  refine zp 16 55 ?_
                  refine zt 3 42 hHeld ?_
                  refine zt 10 49 hHeld ?_
                  refine zt 17 56 hHeld ?_
                  refine zo 18 (some 57) (fun K hK => ?_)
                  refine goes_ Tryz.func49 (by kernel_rfl) rfl #[.agg #[.int .i64 ((rd_T47 l0 x36_3).f0), .int .i64 ((rd_T47 l0 x36_3).f1)], .agg #[.int .i64 ((rd_T47 l0 (ji22)).f0), .int .i64 ((rd_T47 l0 (ji22)).f1)], .agg #[.int .i64 ((rd_T47 l0 (ji25)).f0), .int .i64 ((rd_T47 l0 (ji25)).f1)]] (by rfl) rfl rfl (by (try simp only [List.map_toArray, List.map_cons, List.map_nil]); first | done | (simp only [hji22, hji25]; rfl) | rfl | (simp only [List.length_drop, List.length_take]; rfl)) ?_
                  with_reducible refine (impl_turnAt.calls ((rd_T47 l0 x36_3).f0) ((rd_T47 l0 x36_3).f1) ((rd_T47 l0 (ji22)).f0) ((rd_T47 l0 (ji22)).f1) ((rd_T47 l0 (ji25)).f0) ((rd_T47 l0 (ji25)).f1) t276 _ A28.out).mono ?_
                  rintro e w33 ⟨rfl, hb⟩
                  refine ⟨_, rfl, ?_⟩
                  have n0_ := zbs HB.out hb; clear HB; have HB := n0_; clear n0_
                  (try clear hb)
                  (try clear hb2)
                  (try clear hk)
                  (try clear hi)
                  refine hK.out _ _ ⟨((HB.out.cell (World.block_lt_of_cell? w _ hw273_0)).trans hw273_0), ((HB.out.cell (World.block_lt_of_cell? w _ hw273_1)).trans hw273_1), ((HB.out.cell (World.block_lt_of_cell? w _ hw274_0)).trans hw274_0), ((HB.out.cell (World.block_lt_of_cell? w _ hw274_1)).trans hw274_1), ((HB.out.cell (World.block_lt_of_cell? w _ hw275_0)).trans hw275_0), ((HB.out.cell (World.block_lt_of_cell? w _ hw275_1)).trans hw275_1)⟩ (fun hHeld => ?_)
                  clear hK K
                  refine zn 57 ?_
                  refine zp 19 58 ?_
                  refine done_ (done_of HT_.out (by kernel_rfl)) ?_
                  try go_wp2
                  go_roundg k3
                  case measure => have := HJ1.out; have := HK2.out; have := HK3.out; omega
                  case rel => exact ⟨(wrap64 (x36_3 + 1)), (zF), H', ⟨by have := HJ1.out; have := HK2.out; have := HK3.out; omega⟩, ⟨zB HB.out⟩⟩
                ·rw [if_neg c27] at H
                 exact absurd H (by simp)
               ·rw [if_neg c26] at H
                exact absurd H (by simp)
              ·rw [if_neg c24] at H
               exact absurd H (by simp)
             ·rw [if_neg c23] at H
              exact absurd H (by simp)
           ·rw [if_neg c20] at H
            exact absurd H (by simp)
          ·rw [if_neg c19] at H
           exact absurd H (by simp)
         ·rw [if_neg c18] at H
          have c18b0 := decide_eq_false c18; clear c18; have H' := zQ H; clear H
          go_wp2
          go_loopg [62] k3 (fun kq v62 w' => ∃ (x62_4 : Int), v62 = .int .i64 x62_4 ∧ Aside0 (impl_ValidSail.l2 kq l0 (l0.length : Int) (l0.length : Int) x62_4 = some r) ∧ Aside0 (kq ≤ k3) ∧ Aside0 (Below w.heap.size w w'))
          case atStart => exact ⟨(0), (zF), H', ⟨Nat.le_refl _⟩, ⟨zB HB.out⟩⟩
          case round =>
           clear H'; (try clear c1); (try clear c2); (try clear p2); (try clear q2); (try clear hx2); (try clear c3); (try clear c3b0); (try clear c3b1); (try clear c4); (try clear c5); (try clear c5b0); (try clear c6); (try clear c6b0); (try clear p6); (try clear c7); (try clear c7b0); (try clear c9); (try clear c11); (try clear c18); (try clear c18b0); (try clear c19); (try clear c19b0); (try clear c20); (try clear c20b0); (try clear c21); (try clear c21b0); (try clear c21b1); (try clear c21b2); (try clear c23); (try clear c23b0); (try clear c24); (try clear c24b0); (try clear c26); (try clear c26b0); (try clear p26); (try clear q26); (try clear hx26); (try clear c27); (try clear c27b0); (try clear p27); (try clear q27); (try clear hx27); (try clear c29); (try clear c29b0); (try clear c29b1); (try clear c30); (try clear hcz13_0 hcz13_1 hfz13_0 hfz13_1); (try clear hcz15_0 hcz15_1 hfz15_0 hfz15_1); (try clear hcz17_0 hcz17_1 hfz17_0 hfz17_1); (try clear hx269_0); (try clear hx269_1); (try clear hx273_0); (try clear hx273_1); (try clear hx274_0); (try clear hx274_1); (try clear hx275_0); (try clear hx275_1); (try clear p2); (try clear p269); (try clear p273); (try clear p274); (try clear p275); (try clear p6); (try clear q2); (try clear q269); (try clear q273); (try clear q274); (try clear q275); obtain ⟨x62_4, rfl, HA, HK4, HB⟩ := hrel
           cases gk with
           | zero => exact absurd HA.out (by simp [impl_ValidSail.l2])
           | succ k4 =>
            have H := HA.out; clear HA
            simp only [impl_ValidSail.l2] at H
            by_cases c34 : x62_4 < (l0.length : Int)
            ·rw [if_pos c34] at H
             have c34b0 := decide_eq_true c34; clear c34; have H' := zQ H; clear H
             go_wp2
             go_loopg [8] k4 (fun kq v8 w' => ∃ (x8_5 : Int), v8 = .int .i64 x8_5 ∧ Aside0 (impl_ValidSail.l3 kq l0 (l0.length : Int) x62_4 x8_5 (l0.length : Int) x62_4 = some r) ∧ Aside0 (kq ≤ k4) ∧ Aside0 (Below w.heap.size w w'))
             case atStart => exact ⟨(wrap64 (x62_4 + 2)), (zF), H', ⟨Nat.le_refl _⟩, ⟨zB HB.out⟩⟩
             case round =>
              clear H'; (try clear c1); (try clear c2); (try clear p2); (try clear q2); (try clear hx2); (try clear c3); (try clear c3b0); (try clear c3b1); (try clear c4); (try clear c5); (try clear c5b0); (try clear c6); (try clear c6b0); (try clear p6); (try clear c7); (try clear c7b0); (try clear c9); (try clear c11); (try clear c18); (try clear c18b0); (try clear c19); (try clear c19b0); (try clear c20); (try clear c20b0); (try clear c21); (try clear c21b0); (try clear c21b1); (try clear c21b2); (try clear c23); (try clear c23b0); (try clear c24); (try clear c24b0); (try clear c26); (try clear c26b0); (try clear p26); (try clear q26); (try clear hx26); (try clear c27); (try clear c27b0); (try clear p27); (try clear q27); (try clear hx27); (try clear c29); (try clear c29b0); (try clear c29b1); (try clear c30); (try clear c34); (try clear c34b0); (try clear hcz13_0 hcz13_1 hfz13_0 hfz13_1); (try clear hcz15_0 hcz15_1 hfz15_0 hfz15_1); (try clear hcz17_0 hcz17_1 hfz17_0 hfz17_1); (try clear hx269_0); (try clear hx269_1); (try clear hx273_0); (try clear hx273_1); (try clear hx274_0); (try clear hx274_1); (try clear hx275_0); (try clear hx275_1); (try clear p2); (try clear p26); (try clear p269); (try clear p27); (try clear p273); (try clear p274); (try clear p275); (try clear p6); (try clear q2); (try clear q26); (try clear q269); (try clear q27)
              (try clear q273); (try clear q274); (try clear q275); obtain ⟨x8_5, rfl, HA, HK5, HB⟩ := hrel
              cases gk with
              | zero => exact absurd HA.out (by simp [impl_ValidSail.l3])
              | succ k5 =>
               have H := HA.out; clear HA
               simp only [impl_ValidSail.l3] at H
               by_cases c35 : x8_5 < (l0.length : Int)
               ·rw [if_pos c35] at H
                have c35b0 := decide_eq_true c35; clear c35
                by_cases c36 : (l0.length : Int) = 0
                ·rw [if_pos c36] at H
                 exact absurd H (by simp)
                ·rw [if_neg c36] at H
                 have c36b0 : ((l0.length : Int) == 0) = false := beq_eq_false_iff_ne.mpr c36; have c36b1 : ((l0.length : Int) != 0) = true := bne_iff_ne.mpr c36
                 have c36b2 : ¬ (l0 = []) := fun h_ => c36 (by rw [h_]; rfl)
                 by_cases c37 : (Int.tmod (wrap64 (x8_5 + 1)) (l0.length : Int)) = x62_4
                 ·rw [if_pos c37] at H
                  have c37b0 : ((Int.tmod (wrap64 (x8_5 + 1)) (l0.length : Int)) == x62_4) = true := beq_iff_eq.mpr c37; have c37b1 : ((Int.tmod (wrap64 (x8_5 + 1)) (l0.length : Int)) != x62_4) = false := bne_eq_false_iff_eq.mpr c37; clear c37; have H' := zQ H; clear H
                  try go_wp2
                  have n0_ := zQ (below_drew1 HB.out); clear HB; have HB := n0_; clear n0_
                  refine zs (fun w' => True) [] 29 trivial (fun hHeld => ?_); refine with_tabW impl_ValidSail.tab22 impl_ValidSail.bits22 (fun HT_ HW_ => ?_)
                  generalize wr.drew = w38 at HB hHeld ⊢
                  refine zp 0 72 ?_
                  refine zp 1 73 ?_
                  refine zp 2 74 ?_
                  refine zp 3 75 ?_
                  refine zp 4 76 ?_
                  refine zp 5 77 ?_
                  refine zp 6 78 ?_
                  refine zg 7 79 ?_
                  refine zg 8 80 ?_
                  refine zg 9 81 ?_
                  refine zg 10 82 ?_
                  refine zg 11 83 ?_
                  refine zg 12 84 ?_
                  refine zg 13 85 ?_
                  refine zg 14 86 ?_
                  refine zg 15 87 ?_
                  refine zg 16 88 ?_
                  refine zg 17 89 ?_
                  refine zg 18 90 ?_
                  refine zg 19 91 ?_
                  refine zg 20 92 ?_
                  refine zg 21 93 ?_
                  refine zg 22 94 ?_
                  refine zg 23 95 ?_
                  refine zg 24 96 ?_
                  refine zg 25 97 ?_
                  refine zg 26 98 ?_
                  refine zg 27 99 ?_
                  refine zp 28 100 ?_
                  refine done_ (done_of HT_.out (by kernel_rfl)) ?_
                  try go_wp2
                  go_roundg k5
                  case measure => have := HJ1.out; have := HK2.out; have := HK3.out; have := HK4.out; have := HK5.out; omega
                  case rel => exact ⟨(wrap64 (x8_5 + 1)), (zF), H', ⟨by have := HJ1.out; have := HK2.out; have := HK3.out; have := HK4.out; have := HK5.out; omega⟩, ⟨zB HB.out⟩⟩
                 ·rw [if_neg c37] at H
                  have c37b0 : ((Int.tmod (wrap64 (x8_5 + 1)) (l0.length : Int)) == x62_4) = false := beq_eq_false_iff_ne.mpr c37; have c37b1 : ((Int.tmod (wrap64 (x8_5 + 1)) (l0.length : Int)) != x62_4) = true := bne_iff_ne.mpr c37
                  by_cases c39 : 0 ≤ x62_4
                  ·rw [if_pos c39] at H
                   have c39b0 := decide_eq_true c39; clear c39
                   by_cases c40 : x62_4 < (l0.length : Int)
                   ·rw [if_pos c40] at H
                    have c40b0 := decide_eq_true c40; clear c40; obtain ⟨ji41, hji41⟩ : ∃ j_ : Int, (wrap64 (x62_4 + 1)) = j_ := ⟨_, rfl⟩
                    replace H : (if 0 ≤ (ji41) then (if (ji41) < (l0.length : Int) then (if 0 ≤ x8_5 then (if x8_5 < (l0.length : Int) then (if 0 ≤ (Int.tmod (wrap64 (x8_5 + 1)) (l0.length : Int)) then (if (Int.tmod (wrap64 (x8_5 + 1)) (l0.length : Int)) < (l0.length : Int) then ((impl_edgesMeet.f k5 ((rd_T47 l0 x62_4).f0) ((rd_T47 l0 x62_4).f1) ((rd_T47 l0 (ji41)).f0) ((rd_T47 l0 (ji41)).f1) ((rd_T47 l0 x8_5).f0) ((rd_T47 l0 x8_5).f1) ((rd_T47 l0 (Int.tmod (wrap64 (x8_5 + 1)) (l0.length : Int))).f0) ((rd_T47 l0 (Int.tmod (wrap64 (x8_5 + 1)) (l0.length : Int))).f1)).bind fun t282 => (if t282 = true then (some false) else (impl_ValidSail.l3 k5 l0 (l0.length : Int) x62_4 (wrap64 (x8_5 + 1)) (l0.length : Int) x62_4))) else (none)) else (none)) else (none)) else (none)) else (none)) else (none)) = some r := by first | (rw [hji41] at H; exact H) | (simp only [hji41] at H ⊢; exact H)
                    have hji41w : (IntKind.i64.wrap (x62_4 + 1)) = ji41 := (i64_w _).trans hji41
                    by_cases c42 : 0 ≤ (ji41)
                    ·rw [if_pos c42] at H
                     have c42b0 := decide_eq_true c42; clear c42
                     by_cases c43 : (ji41) < (l0.length : Int)
                     ·rw [if_pos c43] at H
                      have c43b0 := decide_eq_true c43; clear c43
                      by_cases c44 : 0 ≤ x8_5
                      ·rw [if_pos c44] at H
                       have c44b0 := decide_eq_true c44; clear c44
                       by_cases c45 : x8_5 < (l0.length : Int)
                       ·rw [if_pos c45] at H
                        have c45b0 := decide_eq_true c45; clear c45; obtain ⟨ji46, hji46⟩ : ∃ j_ : Int, (Int.tmod (wrap64 (x8_5 + 1)) (l0.length : Int)) = j_ := ⟨_, rfl⟩
                        replace H : (if 0 ≤ (ji46) then (if (ji46) < (l0.length : Int) then ((impl_edgesMeet.f k5 ((rd_T47 l0 x62_4).f0) ((rd_T47 l0 x62_4).f1) ((rd_T47 l0 (ji41)).f0) ((rd_T47 l0 (ji41)).f1) ((rd_T47 l0 x8_5).f0) ((rd_T47 l0 x8_5).f1) ((rd_T47 l0 (ji46)).f0) ((rd_T47 l0 (ji46)).f1)).bind fun t282 => (if t282 = true then (some false) else (impl_ValidSail.l3 k5 l0 (l0.length : Int) x62_4 (wrap64 (x8_5 + 1)) (l0.length : Int) x62_4))) else (none)) else (none)) = some r := by first | (rw [hji46] at H; exact H) | (simp only [hji46] at H ⊢; exact H)
                        (try rw [hji46] at c37b0)
                        (try rw [hji46] at c37b1)
                        by_cases c47 : 0 ≤ (ji46)
                        ·rw [if_pos c47] at H
                         have c47b0 := decide_eq_true c47; clear c47
                         by_cases c48 : (ji46) < (l0.length : Int)
                         ·rw [if_pos c48] at H
                          have c48b0 := decide_eq_true c48; clear c48; replace H := zob H; obtain ⟨t282, A49, H⟩ := H
                          by_cases c50 : t282 = true
                          ·subst c50
                           rw [if_pos rfl] at H; obtain rfl := Option.some.inj H
                           try go_wp2
                           have n0_ := zQ (below_drew1 HB.out); clear HB; have HB := n0_; clear n0_; have p278 : 0 ≤ (x62_4 : Int) := zD; have q278 : x62_4 < (l0.length : Int) := zD; obtain ⟨ad278, e278, hx278_0, hx278_1⟩ := at_T47 HR0.out x62_4 p278 q278; have hw278_1 := hx278_1; have hw278_0 := hx278_0
                           cases e278
                           replace hx278_0 := zw HB.out hx278_0; replace hx278_1 := zw HB.out hx278_1; replace p278 := eq_true p278; replace q278 := eq_true q278; have p279 : 0 ≤ ((ji41) : Int) := zD; have q279 : (ji41) < (l0.length : Int) := zD; obtain ⟨ad279, e279, hx279_0, hx279_1⟩ := at_T47 HR0.out (ji41) p279 q279; have hw279_1 := hx279_1; have hw279_0 := hx279_0; obtain rfl : ad278 = ad279 := (by injection e279); replace hx279_0 := zw HB.out hx279_0; replace hx279_1 := zw HB.out hx279_1; replace p279 := eq_true p279; replace q279 := eq_true q279; have p280 : 0 ≤ (x8_5 : Int) := zD; have q280 : x8_5 < (l0.length : Int) := zD; obtain ⟨ad280, e280, hx280_0, hx280_1⟩ := at_T47 HR0.out x8_5 p280 q280; have hw280_1 := hx280_1; have hw280_0 := hx280_0; obtain rfl : ad278 = ad280 := (by injection e280); replace hx280_0 := zw HB.out hx280_0; replace hx280_1 := zw HB.out hx280_1; replace p280 := eq_true p280; replace q280 := eq_true q280; have p281 : 0 ≤ ((ji46) : Int) := zD; have q281 : (ji46) < (l0.length : Int) := zD; obtain ⟨ad281, e281, hx281_0, hx281_1⟩ := at_T47 HR0.out (ji46) p281 q281; have hw281_1 := hx281_1; have hw281_0 := hx281_0; obtain rfl : ad278 = ad281 := (by injection e281); replace hx281_0 := zw HB.out hx281_0; replace hx281_1 := zw HB.out hx281_1; replace p281 := eq_true p281; replace q281 := eq_true q281
                           refine zs (fun w' => w'.cell? (ad278.add ((x62_4).toNat * 2)) = some (.int .i64 ((rd_T47 l0 x62_4).f0)) ∧ w'.cell? ⟨(ad278.add ((x62_4).toNat * 2)).block, (ad278.add ((x62_4).toNat * 2)).off + 1, none⟩ = some (.int .i64 ((rd_T47 l0 x62_4).f1)) ∧ w'.cell? (ad278.add (((ji41)).toNat * 2)) = some (.int .i64 ((rd_T47 l0 (ji41)).f0)) ∧ w'.cell? ⟨(ad278.add (((ji41)).toNat * 2)).block, (ad278.add (((ji41)).toNat * 2)).off + 1, none⟩ = some (.int .i64 ((rd_T47 l0 (ji41)).f1)) ∧ w'.cell? (ad278.add ((x8_5).toNat * 2)) = some (.int .i64 ((rd_T47 l0 x8_5).f0)) ∧ w'.cell? ⟨(ad278.add ((x8_5).toNat * 2)).block, (ad278.add ((x8_5).toNat * 2)).off + 1, none⟩ = some (.int .i64 ((rd_T47 l0 x8_5).f1)) ∧ w'.cell? (ad278.add (((ji46)).toNat * 2)) = some (.int .i64 ((rd_T47 l0 (ji46)).f0)) ∧ w'.cell? ⟨(ad278.add (((ji46)).toNat * 2)).block, (ad278.add (((ji46)).toNat * 2)).off + 1, none⟩ = some (.int .i64 ((rd_T47 l0 (ji46)).f1))) [] 29 ⟨((HB.out.cell (World.block_lt_of_cell? w _ hw278_0)).trans hw278_0), ((HB.out.cell (World.block_lt_of_cell? w _ hw278_1)).trans hw278_1), ((HB.out.cell (World.block_lt_of_cell? w _ hw279_0)).trans hw279_0), ((HB.out.cell (World.block_lt_of_cell? w _ hw279_1)).trans hw279_1), ((HB.out.cell (World.block_lt_of_cell? w _ hw280_0)).trans hw280_0), ((HB.out.cell (World.block_lt_of_cell? w _ hw280_1)).trans hw280_1), ((HB.out.cell (World.block_lt_of_cell? w _ hw281_0)).trans hw281_0), ((HB.out.cell (World.block_lt_of_cell? w _ hw281_1)).trans hw281_1)⟩ (fun hHeld => ?_); refine with_tabW impl_ValidSail.tab22 impl_ValidSail.bits22 (fun HT_ HW_ => ?_)
                           generalize wr.drew = w51 at HB hx278_0 hx278_1 hx279_0 hx279_1 hx280_0 hx280_1 hx281_0 hx281_1 hHeld ⊢
                           refine zp 0 72 ?_
                           refine zp 1 73 ?_
                           refine zp 2 74 ?_
                           refine zp 3 75 ?_
                           refine zp 4 76 ?_
                           refine zp 5 77 ?_
                           refine zp 6 78 ?_
                           refine zp 7 79 ?_
                           refine zp 8 80 ?_
                           refine zp 9 81 ?_
                           refine zp 11 83 ?_
                           refine zp 12 84 ?_
                           refine zp 13 85 ?_
                           refine zp 14 86 ?_
                           refine zp 16 88 ?_
                           refine zp 17 89 ?_
                           refine zp 18 90 ?_
                           refine zp 20 92 ?_
                           refine zp 21 93 ?_
                           refine zp 22 94 ?_
                           refine zp 23 95 ?_
                           refine zp 24 96 ?_
                           refine zp 25 97 ?_
                           refine zt 10 82 hHeld ?_
                           refine zt 15 87 hHeld ?_
                           refine zt 19 91 hHeld ?_
                           refine zt 26 98 hHeld ?_
                           refine zo 27 (some 99) (fun K hK => ?_)
                           refine goes_ Tryz.func50 (by kernel_rfl) rfl #[.agg #[.int .i64 ((rd_T47 l0 x62_4).f0), .int .i64 ((rd_T47 l0 x62_4).f1)], .agg #[.int .i64 ((rd_T47 l0 (ji41)).f0), .int .i64 ((rd_T47 l0 (ji41)).f1)], .agg #[.int .i64 ((rd_T47 l0 x8_5).f0), .int .i64 ((rd_T47 l0 x8_5).f1)], .agg #[.int .i64 ((rd_T47 l0 (ji46)).f0), .int .i64 ((rd_T47 l0 (ji46)).f1)]] (by rfl) rfl rfl (by (try simp only [List.map_toArray, List.map_cons, List.map_nil]); first | done | (simp only [hji41, hji46]; rfl) | rfl | (simp only [List.length_drop, List.length_take]; rfl)) ?_
                           with_reducible refine (impl_edgesMeet.calls k5 ((rd_T47 l0 x62_4).f0) ((rd_T47 l0 x62_4).f1) ((rd_T47 l0 (ji41)).f0) ((rd_T47 l0 (ji41)).f1) ((rd_T47 l0 x8_5).f0) ((rd_T47 l0 x8_5).f1) ((rd_T47 l0 (ji46)).f0) ((rd_T47 l0 (ji46)).f1) true _ A49.out).mono ?_
                           rintro e w52 ⟨rfl, hb⟩
                           refine ⟨_, rfl, ?_⟩
                           have n0_ := zbs HB.out hb; clear HB; have HB := n0_; clear n0_
                           (try clear hb)
                           (try clear hb2)
                           (try clear hk)
                           (try clear hi)
                           refine hK.out _ _ ⟨((HB.out.cell (World.block_lt_of_cell? w _ hw278_0)).trans hw278_0), ((HB.out.cell (World.block_lt_of_cell? w _ hw278_1)).trans hw278_1), ((HB.out.cell (World.block_lt_of_cell? w _ hw279_0)).trans hw279_0), ((HB.out.cell (World.block_lt_of_cell? w _ hw279_1)).trans hw279_1), ((HB.out.cell (World.block_lt_of_cell? w _ hw280_0)).trans hw280_0), ((HB.out.cell (World.block_lt_of_cell? w _ hw280_1)).trans hw280_1), ((HB.out.cell (World.block_lt_of_cell? w _ hw281_0)).trans hw281_0), ((HB.out.cell (World.block_lt_of_cell? w _ hw281_1)).trans hw281_1)⟩ (fun hHeld => ?_)
                           clear hK K
                           refine zn 99 ?_
                           refine zp 28 100 ?_
                           refine done_ (done_of HT_.out (by kernel_rfl)) ?_
                           try go_wp2
                           go_ret
                           exact ⟨by first | rfl | (simp [errW_none, errW_some] <;> rfl) | (simp only [← hji41, ← hji46]; first | rfl | (simp [errW_none, errW_some] <;> rfl)) | (simp [*, errW_none, errW_some] <;> rfl), zB HB.out⟩
                          ·replace c50 := Bool.eq_false_iff.mpr c50
                           subst c50
                           rw [if_neg Bool.false_ne_true] at H; have H' := zQ H; clear H
                           try go_wp2
                           have n0_ := zQ (below_drew1 HB.out); clear HB; have HB := n0_; clear n0_; have p278 : 0 ≤ (x62_4 : Int) := zD; have q278 : x62_4 < (l0.length : Int) := zD; obtain ⟨ad278, e278, hx278_0, hx278_1⟩ := at_T47 HR0.out x62_4 p278 q278; have hw278_1 := hx278_1; have hw278_0 := hx278_0
                           cases e278
                           replace hx278_0 := zw HB.out hx278_0; replace hx278_1 := zw HB.out hx278_1; replace p278 := eq_true p278; replace q278 := eq_true q278; have p279 : 0 ≤ ((ji41) : Int) := zD; have q279 : (ji41) < (l0.length : Int) := zD; obtain ⟨ad279, e279, hx279_0, hx279_1⟩ := at_T47 HR0.out (ji41) p279 q279; have hw279_1 := hx279_1; have hw279_0 := hx279_0; obtain rfl : ad278 = ad279 := (by injection e279); replace hx279_0 := zw HB.out hx279_0; replace hx279_1 := zw HB.out hx279_1; replace p279 := eq_true p279; replace q279 := eq_true q279; have p280 : 0 ≤ (x8_5 : Int) := zD; have q280 : x8_5 < (l0.length : Int) := zD; obtain ⟨ad280, e280, hx280_0, hx280_1⟩ := at_T47 HR0.out x8_5 p280 q280; have hw280_1 := hx280_1; have hw280_0 := hx280_0; obtain rfl : ad278 = ad280 := (by injection e280); replace hx280_0 := zw HB.out hx280_0; replace hx280_1 := zw HB.out hx280_1; replace p280 := eq_true p280; replace q280 := eq_true q280; have p281 : 0 ≤ ((ji46) : Int) := zD; have q281 : (ji46) < (l0.length : Int) := zD; obtain ⟨ad281, e281, hx281_0, hx281_1⟩ := at_T47 HR0.out (ji46) p281 q281; have hw281_1 := hx281_1; have hw281_0 := hx281_0; obtain rfl : ad278 = ad281 := (by injection e281); replace hx281_0 := zw HB.out hx281_0; replace hx281_1 := zw HB.out hx281_1; replace p281 := eq_true p281; replace q281 := eq_true q281
                           refine zs (fun w' => w'.cell? (ad278.add ((x62_4).toNat * 2)) = some (.int .i64 ((rd_T47 l0 x62_4).f0)) ∧ w'.cell? ⟨(ad278.add ((x62_4).toNat * 2)).block, (ad278.add ((x62_4).toNat * 2)).off + 1, none⟩ = some (.int .i64 ((rd_T47 l0 x62_4).f1)) ∧ w'.cell? (ad278.add (((ji41)).toNat * 2)) = some (.int .i64 ((rd_T47 l0 (ji41)).f0)) ∧ w'.cell? ⟨(ad278.add (((ji41)).toNat * 2)).block, (ad278.add (((ji41)).toNat * 2)).off + 1, none⟩ = some (.int .i64 ((rd_T47 l0 (ji41)).f1)) ∧ w'.cell? (ad278.add ((x8_5).toNat * 2)) = some (.int .i64 ((rd_T47 l0 x8_5).f0)) ∧ w'.cell? ⟨(ad278.add ((x8_5).toNat * 2)).block, (ad278.add ((x8_5).toNat * 2)).off + 1, none⟩ = some (.int .i64 ((rd_T47 l0 x8_5).f1)) ∧ w'.cell? (ad278.add (((ji46)).toNat * 2)) = some (.int .i64 ((rd_T47 l0 (ji46)).f0)) ∧ w'.cell? ⟨(ad278.add (((ji46)).toNat * 2)).block, (ad278.add (((ji46)).toNat * 2)).off + 1, none⟩ = some (.int .i64 ((rd_T47 l0 (ji46)).f1))) [] 29 ⟨((HB.out.cell (World.block_lt_of_cell? w _ hw278_0)).trans hw278_0), ((HB.out.cell (World.block_lt_of_cell? w _ hw278_1)).trans hw278_1), ((HB.out.cell (World.block_lt_of_cell? w _ hw279_0)).trans hw279_0), ((HB.out.cell (World.block_lt_of_cell? w _ hw279_1)).trans hw279_1), ((HB.out.cell (World.block_lt_of_cell? w _ hw280_0)).trans hw280_0), ((HB.out.cell (World.block_lt_of_cell? w _ hw280_1)).trans hw280_1), ((HB.out.cell (World.block_lt_of_cell? w _ hw281_0)).trans hw281_0), ((HB.out.cell (World.block_lt_of_cell? w _ hw281_1)).trans hw281_1)⟩ (fun hHeld => ?_); refine with_tabW impl_ValidSail.tab22 impl_ValidSail.bits22 (fun HT_ HW_ => ?_)
                           generalize wr.drew = w53 at HB hx278_0 hx278_1 hx279_0 hx279_1 hx280_0 hx280_1 hx281_0 hx281_1 hHeld ⊢
                           refine zp 0 72 ?_
                           refine zp 1 73 ?_
                           refine zp 2 74 ?_
                           refine zp 3 75 ?_
                           refine zp 4 76 ?_
                           refine zp 5 77 ?_
                           refine zp 6 78 ?_
                           refine zp 7 79 ?_
                           refine zp 8 80 ?_
                           refine zp 9 81 ?_
                           refine zp 11 83 ?_
                           refine zp 12 84 ?_
                           refine zp 13 85 ?_
                           refine zp 14 86 ?_
                           refine zp 16 88 ?_
                           refine zp 17 89 ?_
                           refine zp 18 90 ?_
                           refine zp 20 92 ?_
                           refine zp 21 93 ?_
                           refine zp 22 94 ?_
                           refine zp 23 95 ?_
                           refine zp 24 96 ?_
                           refine zp 25 97 ?_
                           refine zt 10 82 hHeld ?_
                           refine zt 15 87 hHeld ?_
                           refine zt 19 91 hHeld ?_
                           refine zt 26 98 hHeld ?_
                           refine zo 27 (some 99) (fun K hK => ?_)
                           refine goes_ Tryz.func50 (by kernel_rfl) rfl #[.agg #[.int .i64 ((rd_T47 l0 x62_4).f0), .int .i64 ((rd_T47 l0 x62_4).f1)], .agg #[.int .i64 ((rd_T47 l0 (ji41)).f0), .int .i64 ((rd_T47 l0 (ji41)).f1)], .agg #[.int .i64 ((rd_T47 l0 x8_5).f0), .int .i64 ((rd_T47 l0 x8_5).f1)], .agg #[.int .i64 ((rd_T47 l0 (ji46)).f0), .int .i64 ((rd_T47 l0 (ji46)).f1)]] (by rfl) rfl rfl (by (try simp only [List.map_toArray, List.map_cons, List.map_nil]); first | done | (simp only [hji41, hji46]; rfl) | rfl | (simp only [List.length_drop, List.length_take]; rfl)) ?_
                           with_reducible refine (impl_edgesMeet.calls k5 ((rd_T47 l0 x62_4).f0) ((rd_T47 l0 x62_4).f1) ((rd_T47 l0 (ji41)).f0) ((rd_T47 l0 (ji41)).f1) ((rd_T47 l0 x8_5).f0) ((rd_T47 l0 x8_5).f1) ((rd_T47 l0 (ji46)).f0) ((rd_T47 l0 (ji46)).f1) false _ A49.out).mono ?_
                           rintro e w54 ⟨rfl, hb⟩
                           refine ⟨_, rfl, ?_⟩
                           have n0_ := zbs HB.out hb; clear HB; have HB := n0_; clear n0_
                           (try clear hb)
                           (try clear hb2)
                           (try clear hk)
                           (try clear hi)
                           refine hK.out _ _ ⟨((HB.out.cell (World.block_lt_of_cell? w _ hw278_0)).trans hw278_0), ((HB.out.cell (World.block_lt_of_cell? w _ hw278_1)).trans hw278_1), ((HB.out.cell (World.block_lt_of_cell? w _ hw279_0)).trans hw279_0), ((HB.out.cell (World.block_lt_of_cell? w _ hw279_1)).trans hw279_1), ((HB.out.cell (World.block_lt_of_cell? w _ hw280_0)).trans hw280_0), ((HB.out.cell (World.block_lt_of_cell? w _ hw280_1)).trans hw280_1), ((HB.out.cell (World.block_lt_of_cell? w _ hw281_0)).trans hw281_0), ((HB.out.cell (World.block_lt_of_cell? w _ hw281_1)).trans hw281_1)⟩ (fun hHeld => ?_)
                           clear hK K
                           refine zn 99 ?_
                           refine zp 28 100 ?_
                           refine done_ (done_of HT_.out (by kernel_rfl)) ?_
                           try go_wp2
                           go_roundg k5
                           case measure => have := HJ1.out; have := HK2.out; have := HK3.out; have := HK4.out; have := HK5.out; omega
                           case rel => exact ⟨(wrap64 (x8_5 + 1)), (zF), H', ⟨by have := HJ1.out; have := HK2.out; have := HK3.out; have := HK4.out; have := HK5.out; omega⟩, ⟨zB HB.out⟩⟩
                         ·rw [if_neg c48] at H
                          exact absurd H (by simp)
                        ·rw [if_neg c47] at H
                         exact absurd H (by simp)
                       ·rw [if_neg c45] at H
                        exact absurd H (by simp)
                      ·rw [if_neg c44] at H
                       exact absurd H (by simp)
                     ·rw [if_neg c43] at H
                      exact absurd H (by simp)
                    ·rw [if_neg c42] at H
                     exact absurd H (by simp)
                   ·rw [if_neg c40] at H
                    exact absurd H (by simp)
                  ·rw [if_neg c39] at H
                   exact absurd H (by simp)
               ·rw [if_neg c35] at H
                have c35b0 := decide_eq_false c35; clear c35; have H' := zQ H; clear H
                go_wp2
                go_roundg k5
                case measure => have := HJ1.out; have := HK2.out; have := HK3.out; have := HK4.out; have := HK5.out; omega
                case rel => exact ⟨(wrap64 (x62_4 + 1)), (zF), H', ⟨by have := HJ1.out; have := HK2.out; have := HK3.out; have := HK4.out; have := HK5.out; omega⟩, ⟨zB HB.out⟩⟩
            ·rw [if_neg c34] at H
             have c34b0 := decide_eq_false c34; clear c34; replace H := zob H; obtain ⟨t277, A55, H⟩ := H; obtain rfl := Option.some.inj H
             go_wp2_with (first | ((with_reducible refine zgc 33 ?_); refine goesL_ (some 103) rfl rfl Tryz.func33 (by kernel_rfl) rfl #[.slice A0 l0.length c0] rfl zM ?_; (with_reducible refine (impl_twiceSail.calls k4 _ _ l0 t277 _ (zC HR0.out HB.out) HC0.out A55.out).mono ?_); rintro e w56 ⟨rfl, hb⟩; refine ⟨_, rfl, ?_⟩; replace HB := zbs HB.out hb; (try clear hb)))
             go_ret
             exact ⟨zE, zB HB.out⟩

end
end Go.Proofs.YtchngbjpjbahiaaGreatDoor.PSailz

