import Derived.Test.YtcomncokgkeniaaHSailw0
import Derived.Test.YtcomncokgkeniaaHSailwh
import Derived.Test.YtcomncokgkeniaaHSailwi
import Derived.Test.YtcomncokgkeniaaHSailwj
namespace Go.Proofs.Ytcomncokgkeniaa.PSailw
noncomputable section
open Go.RowKit Go.Proofs.YtcomncokgkeniaaW.PrintWords Go.Proofs.YtcomncokgkeniaaW.PrintLast Go.Proofs.YtcomncokgkeniaaW.PrintMore
attribute [local go_sem] max2_int min2_int max_two min_two max_three min_three max_four min_four   -- for this text's walks alone
set_option linter.unusedVariables false
set_option linter.unusedSimpArgs false
set_option maxHeartbeats 8000000
set_option maxRecDepth 100000

mutual
def impl_ValidSail.j0 : Nat → List (S49) → Int → Bool → Option (Bool)
 | 0, _, _, _ => none
 | k + 1, x0, x3, x16 => if x16 = true then (some false) else (impl_ValidSail.l0 k x0 x3 x0 (x0.length : Int) 0)
def impl_ValidSail.l0 : Nat → List (S49) → Int → List (S49) → Int → Int → Option (Bool)
 | 0, _, _, _, _, _ => none
 | k + 1, x0, x3, x17, x18, x19 => if x19 < x18 then (if 0 ≤ x19 then (if x19 < (x17.length : Int) then ((impl_within.f ((rd_T49 x17 x19).f0) 0 2000).bind fun t259 => (if t259 = true then ((impl_within.f ((rd_T49 x17 x19).f1) 0 2000).bind fun t260 => (if t260 = true then (impl_ValidSail.l0 k x0 x3 x17 x18 (wrap64 (x19 + 1))) else (some false))) else (some false))) else (none)) else (none)) else (impl_ValidSail.l1 k x0 x3 (x0.length : Int) 0)
def impl_ValidSail.l1 : Nat → List (S49) → Int → Int → Int → Option (Bool)
 | 0, _, _, _, _ => none
 | k + 1, x0, x3, x35, x36 => if x36 < x35 then (if 0 ≤ x36 then (if x36 < (x0.length : Int) then (if x3 = 0 then (none) else (if 0 ≤ (Int.tmod (wrap64 (x36 + 1)) x3) then (if (Int.tmod (wrap64 (x36 + 1)) x3) < (x0.length : Int) then (if 0 ≤ (Int.tmod (wrap64 (x36 + 2)) x3) then (if (Int.tmod (wrap64 (x36 + 2)) x3) < (x0.length : Int) then ((impl_turnAt.f ((rd_T49 x0 x36).f0) ((rd_T49 x0 x36).f1) ((rd_T49 x0 (Int.tmod (wrap64 (x36 + 1)) x3)).f0) ((rd_T49 x0 (Int.tmod (wrap64 (x36 + 1)) x3)).f1) ((rd_T49 x0 (Int.tmod (wrap64 (x36 + 2)) x3)).f0) ((rd_T49 x0 (Int.tmod (wrap64 (x36 + 2)) x3)).f1)).bind fun t264 => (if t264 = 0 then (some false) else (impl_ValidSail.l1 k x0 x3 x35 (wrap64 (x36 + 1))))) else (none)) else (none)) else (none)) else (none))) else (none)) else (none)) else (impl_ValidSail.l2 k x0 x3 (x0.length : Int) 0)
def impl_ValidSail.l2 : Nat → List (S49) → Int → Int → Int → Option (Bool)
 | 0, _, _, _, _ => none
 | k + 1, x0, x3, x61, x62 => if x62 < x61 then (impl_ValidSail.l3 k x0 x3 x62 (wrap64 (x62 + 2)) x61 x62) else ((impl_twiceSail.f k x0).bind fun t265 => (some (decide (t265 > 0))))
def impl_ValidSail.l3 : Nat → List (S49) → Int → Int → Int → Int → Int → Option (Bool)
 | 0, _, _, _, _, _, _ => none
 | k + 1, x0, x3, x7, x8, x61, x62 => if x8 < x3 then (if x3 = 0 then (none) else (if (Int.tmod (wrap64 (x8 + 1)) x3) = x7 then (impl_ValidSail.l3 k x0 x3 x7 (wrap64 (x8 + 1)) x61 x62) else (if 0 ≤ x7 then (if x7 < (x0.length : Int) then (if 0 ≤ (wrap64 (x7 + 1)) then (if (wrap64 (x7 + 1)) < (x0.length : Int) then (if 0 ≤ x8 then (if x8 < (x0.length : Int) then (if 0 ≤ (Int.tmod (wrap64 (x8 + 1)) x3) then (if (Int.tmod (wrap64 (x8 + 1)) x3) < (x0.length : Int) then ((impl_edgesMeet.f k ((rd_T49 x0 x7).f0) ((rd_T49 x0 x7).f1) ((rd_T49 x0 (wrap64 (x7 + 1))).f0) ((rd_T49 x0 (wrap64 (x7 + 1))).f1) ((rd_T49 x0 x8).f0) ((rd_T49 x0 x8).f1) ((rd_T49 x0 (Int.tmod (wrap64 (x8 + 1)) x3)).f0) ((rd_T49 x0 (Int.tmod (wrap64 (x8 + 1)) x3)).f1)).bind fun t270 => (if t270 = true then (some false) else (impl_ValidSail.l3 k x0 x3 x7 (wrap64 (x8 + 1)) x61 x62))) else (none)) else (none)) else (none)) else (none)) else (none)) else (none)) else (none)) else (none)))) else (impl_ValidSail.l2 k x0 x3 x61 (wrap64 (x62 + 1)))
end
def impl_ValidSail.f (k : Nat) (l0 : List (S49)) : Option (Bool) := if (l0.length : Int) < 3 then (impl_ValidSail.j0 k l0 (l0.length : Int) true) else (impl_ValidSail.j0 k l0 (l0.length : Int) (decide ((l0.length : Int) > 8)))
def impl_ValidSail.T13 : Bool × List (List Nat × List Nat) := (true, [([], []), ([], []), ([0, 1], [0, 1]), ([2], [2]), ([], []), ([], []), ([5], [5]), ([], []), ([6, 7], [6, 7]), ([4, 8], [4, 8]), ([9], [9]), ([], []), ([], []), ([12], [12]), ([], []), ([13, 14], [13, 14]), ([11, 15], [11, 15]), ([16], [16]), ([3, 10, 17], [3, 10, 17]), ([18], [18])])
def impl_ValidSail.B13 : List Nat := [0, 0, 3, 7, 0, 0, 32, 0, 224, 496, 1008, 0, 0, 4096, 0, 28672, 63488, 129024, 262143, 524287]
theorem impl_ValidSail.tab13 : rtab .any (opsOf Try.f31 13) = impl_ValidSail.T13 := by kernel_rfl
theorem impl_ValidSail.bits13 : waitsOk impl_ValidSail.T13.2 impl_ValidSail.B13 = true := by kernel_rfl
def impl_ValidSail.T22 : Bool × List (List Nat × List Nat) := (true, [([], []), ([0], [0]), ([], []), ([1, 2], [1, 2]), ([], []), ([3, 4], [3, 4]), ([5], [5]), ([6], [6]), ([6], [6]), ([7, 8, 6], [6, 7, 8]), ([9, 6], [6, 9]), ([6], [6]), ([6], [6]), ([12, 6], [6, 12]), ([11, 13, 6], [6, 11, 13]), ([14, 6], [6, 14]), ([6], [6]), ([6], [6]), ([16, 17, 6], [6, 16, 17]), ([18, 6], [6, 18]), ([6], [6]), ([6], [6]), ([21, 6], [6, 21]), ([6], [6]), ([22, 23, 6], [6, 22, 23]), ([20, 24, 6], [6, 20, 24]), ([25, 6], [6, 25]), ([10, 15, 19, 26, 6, 6], [6, 10, 15, 19, 26]), ([6, 27], [6, 27])])
def impl_ValidSail.B22 : List Nat := [0, 1, 0, 7, 0, 31, 63, 127, 127, 511, 1023, 127, 127, 4223, 14463, 30847, 127, 127, 196735, 458879, 127, 127, 2097279, 127, 14680191, 32505983, 66060415, 134217727, 268435455]
theorem impl_ValidSail.tab22 : rtab .any (opsOf Try.f31 22) = impl_ValidSail.T22 := by kernel_rfl
theorem impl_ValidSail.bits22 : waitsOk impl_ValidSail.T22.2 impl_ValidSail.B22 = true := by kernel_rfl
theorem impl_ValidSail.calls (k : Nat) (A0 : Option Addr) (c0 : Nat) (l0 : List (S49)) (r : Bool) (w : World) (hr0 : Kd.C k49 w A0 l0.length l0) (hc0 : l0.length ≤ c0) (h : impl_ValidSail.f k l0 = some r) :
  Calls Try.prog 31 #[.slice A0 l0.length c0] w fun e w' => e = .returned (.bool r) ∧ Below w.heap.size w w' := by
 have hu49 := Try.underlying49
 have HR0 := zQ hr0
 have HC0 := zQ hc0
 clear hr0 hc0
 have HB := zQ (Below.refl w.heap.size w)
 have H := h; unfold impl_ValidSail.f at H
 clear h
 have HC2 := zQ H
 clear H
 go_enter Try.func31, Try.ntmps31
 go_upto_region 2 with (fail)
 go_cut [16] (fun v16 wc => ∃ (kq : Nat) (x16_1 : Bool), v16 = .bool x16_1 ∧ Aside0 (impl_ValidSail.j0 kq l0 (l0.length : Int) x16_1 = some r) ∧ Aside0 (kq ≤ k) ∧ Aside0 (Below w.heap.size w wc))
 case first =>
  have H := HC2.out; clear HC2
  by_cases c3 : (l0.length : Int) < 3
  ·rw [if_pos c3] at H
   have c3b0 := decide_eq_true c3; have c3b1 : decide (l0.length < 3) = true := decide_eq_true (by omega); clear c3
   (first | rw [c3b0] | (simp only [i64_w, i32_w]; rw [c3b0]) | skip)
   have H' := zQ H; clear H
   go_wp2
   go_meet
   case rel => exact ⟨_, (true), (zF), H', ⟨by first | omega | exact Nat.le_refl _⟩, ⟨zB HB.out⟩⟩
  ·rw [if_neg c3] at H
   have c3b0 := decide_eq_false c3; have c3b1 : decide (l0.length < 3) = false := decide_eq_false (by omega); clear c3
   (first | rw [c3b0] | (simp only [i64_w, i32_w]; rw [c3b0]) | skip)
   have H' := zQ H; clear H
   go_wp2
   go_meet
   case rel => exact ⟨_, (decide ((l0.length : Int) > 8)), (zF), H', ⟨by first | omega | exact Nat.le_refl _⟩, ⟨zB HB.out⟩⟩
 case rest =>
  clear HC2; (try clear p2); (try clear c3); (try clear c3b0); (try clear c3b1); obtain ⟨kq, x16_1, rfl, HA, HJ1, HB⟩ := hcut
  cases kq with
  | zero => exact absurd HA.out (by simp [impl_ValidSail.j0])
  | succ kj1 =>
   have H := HA.out; clear HA
   simp only [impl_ValidSail.j0] at H
   by_cases c4 : x16_1 = true
   ·subst c4
    rw [if_pos rfl] at H; obtain rfl := Option.some.inj H
    go_wp2
    go_ret
    exact ⟨zE, zB HB.out⟩
   ·replace c4 := Bool.eq_false_iff.mpr c4
    subst c4
    rw [if_neg Bool.false_ne_true] at H; have H' := zQ H; clear H
    go_wp2
    go_loopg [19] kj1 (fun kq v19 w' => ∃ (x19_2 : Int), v19 = .int .i64 x19_2 ∧ Aside0 (impl_ValidSail.l0 kq l0 (l0.length : Int) l0 (l0.length : Int) x19_2 = some r) ∧ Aside0 (kq ≤ kj1) ∧ Aside0 (Below w.heap.size w w'))
    case atStart => exact ⟨(0), (zF), H', ⟨Nat.le_refl _⟩, ⟨zB HB.out⟩⟩
    case round =>
     clear H'; (try clear p2); (try clear c3); (try clear c3b0); (try clear c3b1); (try clear c4); (try clear p2); obtain ⟨x19_2, rfl, HA, HK2, HB⟩ := hrel
     cases gk with
     | zero => exact absurd HA.out (by simp [impl_ValidSail.l0])
     | succ k2 =>
      have H := HA.out; clear HA
      simp only [impl_ValidSail.l0] at H
      by_cases c5 : x19_2 < (l0.length : Int)
      ·rw [if_pos c5] at H
       have c5b0 := decide_eq_true c5; clear c5
       by_cases c6 : 0 ≤ x19_2
       ·rw [if_pos c6] at H
        have c6b0 := decide_eq_true c6; clear c6
        by_cases c7 : x19_2 < (l0.length : Int)
        ·rw [if_pos c7] at H
         have c7b0 := decide_eq_true c7; clear c7; replace H := zob H; obtain ⟨t259, A8, H⟩ := H
         by_cases c9 : t259 = true
         ·subst c9
          rw [if_pos rfl] at H; replace H := zob H; obtain ⟨t260, A10, H⟩ := H
          by_cases c11 : t260 = true
          ·subst c11
           rw [if_pos rfl] at H; have H' := zQ H; clear H; have p257 : 0 ≤ (x19_2 : Int) := zD; have q257 : x19_2 < (l0.length : Int) := zD; obtain ⟨ad257, e257, hx257_0, hx257_1⟩ := at_T49 HR0.out x19_2 p257 q257
           cases e257
           replace hx257_0 := zw HB.out hx257_0; replace hx257_1 := zw HB.out hx257_1; replace p257 := eq_true p257; replace q257 := eq_true q257
           go_wp2_with (first | ((with_reducible refine zd 5 ?_); refine zbx (N := 5) (cs := #[.int .i64 0, .int .i64 0]) (t := 49) ?_; intro gb258 hg w12 hbox hb; have BK258 := zQ (hbox); have GW258 := zgz hg HB.out; have GE258 := GW258; replace HB := zbs HB.out hb; clear hb hbox hg; obtain ⟨hcz13_0, hcz13_1, hfz13_0, hfz13_1⟩ := zy2 BK258.out) | ((with_reducible refine zgc 33 ?_); refine zgo (some 25) Try.func33 #[.int .i64 ((rd_T49 l0 x19_2).f0), .int .i64 0, .int .i64 2000] ?_; (with_reducible refine (impl_within.calls ((rd_T49 l0 x19_2).f0) 0 2000 true _ A8.out).mono ?_); rintro e w' ⟨rfl, ⟨nd, rfl⟩⟩; refine ⟨_, rfl, ?_⟩) | (go_at_call 33; (with_reducible refine (impl_within.calls ((rd_T49 l0 x19_2).f1) 0 2000 true _ A10.out).mono ?_); rintro e w' ⟨rfl, ⟨nd, rfl⟩⟩))
           go_roundg k2
           case measure => have := HJ1.out; have := HK2.out; omega
           case rel => exact ⟨(wrap64 (x19_2 + 1)), (zF), H', ⟨by have := HJ1.out; have := HK2.out; omega⟩, ⟨zB2 HB.out GE258.out⟩⟩
          ·replace c11 := Bool.eq_false_iff.mpr c11
           subst c11
           rw [if_neg Bool.false_ne_true] at H; obtain rfl := Option.some.inj H; have p257 : 0 ≤ (x19_2 : Int) := zD; have q257 : x19_2 < (l0.length : Int) := zD; obtain ⟨ad257, e257, hx257_0, hx257_1⟩ := at_T49 HR0.out x19_2 p257 q257
           cases e257
           replace hx257_0 := zw HB.out hx257_0; replace hx257_1 := zw HB.out hx257_1; replace p257 := eq_true p257; replace q257 := eq_true q257
           go_wp2_with (first | ((with_reducible refine zd 5 ?_); refine zbx (N := 5) (cs := #[.int .i64 0, .int .i64 0]) (t := 49) ?_; intro gb258 hg w14 hbox hb; have BK258 := zQ (hbox); have GW258 := zgz hg HB.out; have GE258 := GW258; replace HB := zbs HB.out hb; clear hb hbox hg; obtain ⟨hcz15_0, hcz15_1, hfz15_0, hfz15_1⟩ := zy2 BK258.out) | ((with_reducible refine zgc 33 ?_); refine zgo (some 25) Try.func33 #[.int .i64 ((rd_T49 l0 x19_2).f0), .int .i64 0, .int .i64 2000] ?_; (with_reducible refine (impl_within.calls ((rd_T49 l0 x19_2).f0) 0 2000 true _ A8.out).mono ?_); rintro e w' ⟨rfl, ⟨nd, rfl⟩⟩; refine ⟨_, rfl, ?_⟩) | (go_at_call 33; (with_reducible refine (impl_within.calls ((rd_T49 l0 x19_2).f1) 0 2000 false _ A10.out).mono ?_); rintro e w' ⟨rfl, ⟨nd, rfl⟩⟩))
           go_ret
           exact ⟨zE, zB2 HB.out GE258.out⟩
         ·replace c9 := Bool.eq_false_iff.mpr c9
          subst c9
          rw [if_neg Bool.false_ne_true] at H; obtain rfl := Option.some.inj H; have p257 : 0 ≤ (x19_2 : Int) := zD; have q257 : x19_2 < (l0.length : Int) := zD; obtain ⟨ad257, e257, hx257_0, hx257_1⟩ := at_T49 HR0.out x19_2 p257 q257
          cases e257
          replace hx257_0 := zw HB.out hx257_0; replace hx257_1 := zw HB.out hx257_1; replace p257 := eq_true p257; replace q257 := eq_true q257
          go_wp2_with (first | ((with_reducible refine zd 5 ?_); refine zbx (N := 5) (cs := #[.int .i64 0, .int .i64 0]) (t := 49) ?_; intro gb258 hg w16 hbox hb; have BK258 := zQ (hbox); have GW258 := zgz hg HB.out; have GE258 := GW258; replace HB := zbs HB.out hb; clear hb hbox hg; obtain ⟨hcz17_0, hcz17_1, hfz17_0, hfz17_1⟩ := zy2 BK258.out) | ((with_reducible refine zgc 33 ?_); refine zgo (some 25) Try.func33 #[.int .i64 ((rd_T49 l0 x19_2).f0), .int .i64 0, .int .i64 2000] ?_; (with_reducible refine (impl_within.calls ((rd_T49 l0 x19_2).f0) 0 2000 false _ A8.out).mono ?_); rintro e w' ⟨rfl, ⟨nd, rfl⟩⟩; refine ⟨_, rfl, ?_⟩))
          go_ret
          exact ⟨zE, zB2 HB.out GE258.out⟩
        ·rw [if_neg c7] at H
         exact absurd H (by simp)
       ·rw [if_neg c6] at H
        exact absurd H (by simp)
      ·rw [if_neg c5] at H
       have c5b0 := decide_eq_false c5; clear c5; have H' := zQ H; clear H
       go_wp2
       go_loopg [36] k2 (fun kq v36 w' => ∃ (x36_3 : Int), v36 = .int .i64 x36_3 ∧ Aside0 (impl_ValidSail.l1 kq l0 (l0.length : Int) (l0.length : Int) x36_3 = some r) ∧ Aside0 (kq ≤ k2) ∧ Aside0 (Below w.heap.size w w'))
       case atStart => exact ⟨(0), (zF), H', ⟨Nat.le_refl _⟩, ⟨zB HB.out⟩⟩
       case round =>
        clear H'; (try clear c1); (try clear p2); (try clear q2); (try clear hx2); (try clear c3); (try clear c3b0); (try clear c3b1); (try clear c4); (try clear c5); (try clear c5b0); (try clear c6); (try clear c6b0); (try clear p6); (try clear c7); (try clear c7b0); (try clear c9); (try clear c11); (try clear hcz13_0 hcz13_1 hfz13_0 hfz13_1); (try clear hcz15_0 hcz15_1 hfz15_0 hfz15_1); (try clear hcz17_0 hcz17_1 hfz17_0 hfz17_1); (try clear hx257_0); (try clear hx257_1); (try clear p2); (try clear p257); (try clear q257); obtain ⟨x36_3, rfl, HA, HK3, HB⟩ := hrel
        cases gk with
        | zero => exact absurd HA.out (by simp [impl_ValidSail.l1])
        | succ k3 =>
         have H := HA.out; clear HA
         simp only [impl_ValidSail.l1] at H
         by_cases c18 : x36_3 < (l0.length : Int)
         ·rw [if_pos c18] at H
          have c18b0 := decide_eq_true c18; clear c18
          by_cases c19 : 0 ≤ x36_3
          ·rw [if_pos c19] at H
           have c19b0 := decide_eq_true c19; clear c19
           by_cases c20 : x36_3 < (l0.length : Int)
           ·rw [if_pos c20] at H
            have c20b0 := decide_eq_true c20; clear c20
            by_cases c21 : (l0.length : Int) = 0
            ·rw [if_pos c21] at H
             exact absurd H (by simp)
            ·rw [if_neg c21] at H
             have c21b0 : ((l0.length : Int) == 0) = false := beq_eq_false_iff_ne.mpr c21; have c21b1 : ((l0.length : Int) != 0) = true := bne_iff_ne.mpr c21
             have c21b2 : ¬ (l0 = []) := fun h_ => c21 (by rw [h_]; rfl)
             obtain ⟨ji22, hji22⟩ : ∃ j_ : Int, (Int.tmod (wrap64 (x36_3 + 1)) (l0.length : Int)) = j_ := ⟨_, rfl⟩
             replace H : (if 0 ≤ (ji22) then (if (ji22) < (l0.length : Int) then (if 0 ≤ (Int.tmod (wrap64 (x36_3 + 2)) (l0.length : Int)) then (if (Int.tmod (wrap64 (x36_3 + 2)) (l0.length : Int)) < (l0.length : Int) then ((impl_turnAt.f ((rd_T49 l0 x36_3).f0) ((rd_T49 l0 x36_3).f1) ((rd_T49 l0 (ji22)).f0) ((rd_T49 l0 (ji22)).f1) ((rd_T49 l0 (Int.tmod (wrap64 (x36_3 + 2)) (l0.length : Int))).f0) ((rd_T49 l0 (Int.tmod (wrap64 (x36_3 + 2)) (l0.length : Int))).f1)).bind fun t264 => (if t264 = 0 then (some false) else (impl_ValidSail.l1 k3 l0 (l0.length : Int) (l0.length : Int) (wrap64 (x36_3 + 1))))) else (none)) else (none)) else (none)) else (none)) = some r := by first | (rw [hji22] at H; exact H) | (simp only [hji22] at H ⊢; exact H)
             by_cases c23 : 0 ≤ (ji22)
             ·rw [if_pos c23] at H
              have c23b0 := decide_eq_true c23; clear c23
              by_cases c24 : (ji22) < (l0.length : Int)
              ·rw [if_pos c24] at H
               have c24b0 := decide_eq_true c24; clear c24; obtain ⟨ji25, hji25⟩ : ∃ j_ : Int, (Int.tmod (wrap64 (x36_3 + 2)) (l0.length : Int)) = j_ := ⟨_, rfl⟩
               replace H : (if 0 ≤ (ji25) then (if (ji25) < (l0.length : Int) then ((impl_turnAt.f ((rd_T49 l0 x36_3).f0) ((rd_T49 l0 x36_3).f1) ((rd_T49 l0 (ji22)).f0) ((rd_T49 l0 (ji22)).f1) ((rd_T49 l0 (ji25)).f0) ((rd_T49 l0 (ji25)).f1)).bind fun t264 => (if t264 = 0 then (some false) else (impl_ValidSail.l1 k3 l0 (l0.length : Int) (l0.length : Int) (wrap64 (x36_3 + 1))))) else (none)) else (none)) = some r := by first | (rw [hji25] at H; exact H) | (simp only [hji25] at H ⊢; exact H)
               by_cases c26 : 0 ≤ (ji25)
               ·rw [if_pos c26] at H
                have c26b0 := decide_eq_true c26; clear c26
                by_cases c27 : (ji25) < (l0.length : Int)
                ·rw [if_pos c27] at H
                 have c27b0 := decide_eq_true c27; clear c27; replace H := zob H; obtain ⟨t264, A28, H⟩ := H
                 by_cases c29 : t264 = 0
                 ·rw [if_pos c29] at H
                  have c29b0 : (t264 == 0) = true := beq_iff_eq.mpr c29; have c29b1 : (t264 != 0) = false := bne_eq_false_iff_eq.mpr c29; clear c29; obtain rfl := Option.some.inj H
                  try go_wp2
                  have n0_ := zQ (below_drew1 HB.out); clear HB; have HB := n0_; clear n0_; have p261 : 0 ≤ (x36_3 : Int) := zD; have q261 : x36_3 < (l0.length : Int) := zD; obtain ⟨ad261, e261, hx261_0, hx261_1⟩ := at_T49 HR0.out x36_3 p261 q261; have hw261_1 := hx261_1; have hw261_0 := hx261_0
                  cases e261
                  replace hx261_0 := zw HB.out hx261_0; replace hx261_1 := zw HB.out hx261_1; replace p261 := eq_true p261; replace q261 := eq_true q261; have p262 : 0 ≤ ((ji22) : Int) := zD; have q262 : (ji22) < (l0.length : Int) := zD; obtain ⟨ad262, e262, hx262_0, hx262_1⟩ := at_T49 HR0.out (ji22) p262 q262; have hw262_1 := hx262_1; have hw262_0 := hx262_0; obtain rfl : ad261 = ad262 := (by injection e262); replace hx262_0 := zw HB.out hx262_0; replace hx262_1 := zw HB.out hx262_1; replace p262 := eq_true p262; replace q262 := eq_true q262; have p263 : 0 ≤ ((ji25) : Int) := zD; have q263 : (ji25) < (l0.length : Int) := zD; obtain ⟨ad263, e263, hx263_0, hx263_1⟩ := at_T49 HR0.out (ji25) p263 q263; have hw263_1 := hx263_1; have hw263_0 := hx263_0; obtain rfl : ad261 = ad263 := (by injection e263); replace hx263_0 := zw HB.out hx263_0; replace hx263_1 := zw HB.out hx263_1; replace p263 := eq_true p263; replace q263 := eq_true q263
                  refine zs (fun w' => w'.cell? (ad261.add ((x36_3).toNat * 2)) = some (.int .i64 ((rd_T49 l0 x36_3).f0)) ∧ w'.cell? ⟨(ad261.add ((x36_3).toNat * 2)).block, (ad261.add ((x36_3).toNat * 2)).off + 1, none⟩ = some (.int .i64 ((rd_T49 l0 x36_3).f1)) ∧ w'.cell? (ad261.add (((ji22)).toNat * 2)) = some (.int .i64 ((rd_T49 l0 (ji22)).f0)) ∧ w'.cell? ⟨(ad261.add (((ji22)).toNat * 2)).block, (ad261.add (((ji22)).toNat * 2)).off + 1, none⟩ = some (.int .i64 ((rd_T49 l0 (ji22)).f1)) ∧ w'.cell? (ad261.add (((ji25)).toNat * 2)) = some (.int .i64 ((rd_T49 l0 (ji25)).f0)) ∧ w'.cell? ⟨(ad261.add (((ji25)).toNat * 2)).block, (ad261.add (((ji25)).toNat * 2)).off + 1, none⟩ = some (.int .i64 ((rd_T49 l0 (ji25)).f1))) [] 20 ⟨((HB.out.cell (World.block_lt_of_cell? w _ hw261_0)).trans hw261_0), ((HB.out.cell (World.block_lt_of_cell? w _ hw261_1)).trans hw261_1), ((HB.out.cell (World.block_lt_of_cell? w _ hw262_0)).trans hw262_0), ((HB.out.cell (World.block_lt_of_cell? w _ hw262_1)).trans hw262_1), ((HB.out.cell (World.block_lt_of_cell? w _ hw263_0)).trans hw263_0), ((HB.out.cell (World.block_lt_of_cell? w _ hw263_1)).trans hw263_1)⟩ (fun hHeld => ?_); refine with_tabW impl_ValidSail.tab13 impl_ValidSail.bits13 (fun HT_ HW_ => ?_)
                  generalize wr.drew = w30 at HB hx261_0 hx261_1 hx262_0 hx262_1 hx263_0 hx263_1 hHeld ⊢
                  refine zp 0 39 ?_
                  refine zp 1 40 ?_
                  refine zp 2 41 ?_
                  refine zp 4 43 ?_
                  refine zp 5 44 ?_
                  refine zp 6 45 ?_
                  refine zp 7 46 ?_
                  refine zp 8 47 ?_
                  refine zp 9 48 ?_
                  refine zp 11 50 ?_
                  refine zp 12 51 ?_
                  refine zp 13 52 ?_
                  refine zp 14 53 ?_
                  refine zp 15 54 ?_
                  refine zp 16 55 ?_
                  refine zt 3 42 hHeld ?_
                  refine zt 10 49 hHeld ?_
                  refine zt 17 56 hHeld ?_
                  refine zo 18 (some 57) (fun K hK => ?_)
                  refine goes_ Try.func56 (by kernel_rfl) rfl #[.agg #[.int .i64 ((rd_T49 l0 x36_3).f0), .int .i64 ((rd_T49 l0 x36_3).f1)], .agg #[.int .i64 ((rd_T49 l0 (ji22)).f0), .int .i64 ((rd_T49 l0 (ji22)).f1)], .agg #[.int .i64 ((rd_T49 l0 (ji25)).f0), .int .i64 ((rd_T49 l0 (ji25)).f1)]] (by rfl) rfl rfl (by (try simp only [List.map_toArray, List.map_cons, List.map_nil]); first | done | (simp only [hji22, hji25]; rfl) | rfl | (simp only [List.length_drop, List.length_take]; rfl)) ?_
                  with_reducible refine (impl_turnAt.calls ((rd_T49 l0 x36_3).f0) ((rd_T49 l0 x36_3).f1) ((rd_T49 l0 (ji22)).f0) ((rd_T49 l0 (ji22)).f1) ((rd_T49 l0 (ji25)).f0) ((rd_T49 l0 (ji25)).f1) t264 _ A28.out).mono ?_
                  rintro e w31 ⟨rfl, hb⟩
                  refine ⟨_, rfl, ?_⟩
                  have n0_ := zbs HB.out hb; clear HB; have HB := n0_; clear n0_
                  (try clear hb)
                  (try clear hb2)
                  (try clear hk)
                  (try clear hi)
                  refine hK.out _ _ ⟨((HB.out.cell (World.block_lt_of_cell? w _ hw261_0)).trans hw261_0), ((HB.out.cell (World.block_lt_of_cell? w _ hw261_1)).trans hw261_1), ((HB.out.cell (World.block_lt_of_cell? w _ hw262_0)).trans hw262_0), ((HB.out.cell (World.block_lt_of_cell? w _ hw262_1)).trans hw262_1), ((HB.out.cell (World.block_lt_of_cell? w _ hw263_0)).trans hw263_0), ((HB.out.cell (World.block_lt_of_cell? w _ hw263_1)).trans hw263_1)⟩ (fun hHeld => ?_)
                  clear hK K
                  refine zn 57 ?_
                  refine zp 19 58 ?_
                  refine done_ (done_of HT_.out (by kernel_rfl)) ?_
                  try go_wp2
                  go_ret
                  exact ⟨by first | rfl | (simp [errW_none, errW_some] <;> rfl) | (simp only [← hji22, ← hji25]; first | rfl | (simp [errW_none, errW_some] <;> rfl)) | (simp [*, errW_none, errW_some] <;> rfl), zB HB.out⟩
                 ·rw [if_neg c29] at H
                  have c29b0 : (t264 == 0) = false := beq_eq_false_iff_ne.mpr c29; have c29b1 : (t264 != 0) = true := bne_iff_ne.mpr c29; have H' := zQ H; clear H
                  try go_wp2
                  have n0_ := zQ (below_drew1 HB.out); clear HB; have HB := n0_; clear n0_; have p261 : 0 ≤ (x36_3 : Int) := zD; have q261 : x36_3 < (l0.length : Int) := zD; obtain ⟨ad261, e261, hx261_0, hx261_1⟩ := at_T49 HR0.out x36_3 p261 q261; have hw261_1 := hx261_1; have hw261_0 := hx261_0
                  cases e261
                  replace hx261_0 := zw HB.out hx261_0; replace hx261_1 := zw HB.out hx261_1; replace p261 := eq_true p261; replace q261 := eq_true q261; have p262 : 0 ≤ ((ji22) : Int) := zD; have q262 : (ji22) < (l0.length : Int) := zD; obtain ⟨ad262, e262, hx262_0, hx262_1⟩ := at_T49 HR0.out (ji22) p262 q262; have hw262_1 := hx262_1; have hw262_0 := hx262_0; obtain rfl : ad261 = ad262 := (by injection e262); replace hx262_0 := zw HB.out hx262_0; replace hx262_1 := zw HB.out hx262_1; replace p262 := eq_true p262; replace q262 := eq_true q262; have p263 : 0 ≤ ((ji25) : Int) := zD; have q263 : (ji25) < (l0.length : Int) := zD; obtain ⟨ad263, e263, hx263_0, hx263_1⟩ := at_T49 HR0.out (ji25) p263 q263; have hw263_1 := hx263_1; have hw263_0 := hx263_0; obtain rfl : ad261 = ad263 := (by injection e263); replace hx263_0 := zw HB.out hx263_0; replace hx263_1 := zw HB.out hx263_1; replace p263 := eq_true p263; replace q263 := eq_true q263
                  refine zs (fun w' => w'.cell? (ad261.add ((x36_3).toNat * 2)) = some (.int .i64 ((rd_T49 l0 x36_3).f0)) ∧ w'.cell? ⟨(ad261.add ((x36_3).toNat * 2)).block, (ad261.add ((x36_3).toNat * 2)).off + 1, none⟩ = some (.int .i64 ((rd_T49 l0 x36_3).f1)) ∧ w'.cell? (ad261.add (((ji22)).toNat * 2)) = some (.int .i64 ((rd_T49 l0 (ji22)).f0)) ∧ w'.cell? ⟨(ad261.add (((ji22)).toNat * 2)).block, (ad261.add (((ji22)).toNat * 2)).off + 1, none⟩ = some (.int .i64 ((rd_T49 l0 (ji22)).f1)) ∧ w'.cell? (ad261.add (((ji25)).toNat * 2)) = some (.int .i64 ((rd_T49 l0 (ji25)).f0)) ∧ w'.cell? ⟨(ad261.add (((ji25)).toNat * 2)).block, (ad261.add (((ji25)).toNat * 2)).off + 1, none⟩ = some (.int .i64 ((rd_T49 l0 (ji25)).f1))) [] 20 ⟨((HB.out.cell (World.block_lt_of_cell? w _ hw261_0)).trans hw261_0), ((HB.out.cell (World.block_lt_of_cell? w _ hw261_1)).trans hw261_1), ((HB.out.cell (World.block_lt_of_cell? w _ hw262_0)).trans hw262_0), ((HB.out.cell (World.block_lt_of_cell? w _ hw262_1)).trans hw262_1), ((HB.out.cell (World.block_lt_of_cell? w _ hw263_0)).trans hw263_0), ((HB.out.cell (World.block_lt_of_cell? w _ hw263_1)).trans hw263_1)⟩ (fun hHeld => ?_); refine with_tabW impl_ValidSail.tab13 impl_ValidSail.bits13 (fun HT_ HW_ => ?_)
                  generalize wr.drew = w32 at HB hx261_0 hx261_1 hx262_0 hx262_1 hx263_0 hx263_1 hHeld ⊢
                  refine zp 0 39 ?_
                  refine zp 1 40 ?_
                  refine zp 2 41 ?_
                  refine zp 4 43 ?_
                  refine zp 5 44 ?_
                  refine zp 6 45 ?_
                  refine zp 7 46 ?_
                  refine zp 8 47 ?_
                  refine zp 9 48 ?_
                  refine zp 11 50 ?_
                  refine zp 12 51 ?_
                  refine zp 13 52 ?_
                  refine zp 14 53 ?_
                  refine zp 15 54 ?_
                  refine zp 16 55 ?_
                  refine zt 3 42 hHeld ?_
                  refine zt 10 49 hHeld ?_
                  refine zt 17 56 hHeld ?_
                  refine zo 18 (some 57) (fun K hK => ?_)
                  refine goes_ Try.func56 (by kernel_rfl) rfl #[.agg #[.int .i64 ((rd_T49 l0 x36_3).f0), .int .i64 ((rd_T49 l0 x36_3).f1)], .agg #[.int .i64 ((rd_T49 l0 (ji22)).f0), .int .i64 ((rd_T49 l0 (ji22)).f1)], .agg #[.int .i64 ((rd_T49 l0 (ji25)).f0), .int .i64 ((rd_T49 l0 (ji25)).f1)]] (by rfl) rfl rfl (by (try simp only [List.map_toArray, List.map_cons, List.map_nil]); first | done | (simp only [hji22, hji25]; rfl) | rfl | (simp only [List.length_drop, List.length_take]; rfl)) ?_
                  with_reducible refine (impl_turnAt.calls ((rd_T49 l0 x36_3).f0) ((rd_T49 l0 x36_3).f1) ((rd_T49 l0 (ji22)).f0) ((rd_T49 l0 (ji22)).f1) ((rd_T49 l0 (ji25)).f0) ((rd_T49 l0 (ji25)).f1) t264 _ A28.out).mono ?_
                  rintro e w33 ⟨rfl, hb⟩
                  refine ⟨_, rfl, ?_⟩
                  have n0_ := zbs HB.out hb; clear HB; have HB := n0_; clear n0_
                  (try clear hb)
                  (try clear hb2)
                  (try clear hk)
                  (try clear hi)
                  refine hK.out _ _ ⟨((HB.out.cell (World.block_lt_of_cell? w _ hw261_0)).trans hw261_0), ((HB.out.cell (World.block_lt_of_cell? w _ hw261_1)).trans hw261_1), ((HB.out.cell (World.block_lt_of_cell? w _ hw262_0)).trans hw262_0), ((HB.out.cell (World.block_lt_of_cell? w _ hw262_1)).trans hw262_1), ((HB.out.cell (World.block_lt_of_cell? w _ hw263_0)).trans hw263_0), ((HB.out.cell (World.block_lt_of_cell? w _ hw263_1)).trans hw263_1)⟩ (fun hHeld => ?_)
                  clear hK K
                  refine zn 57 ?_
                  refine zp 19 58 ?_
                  refine done_ (done_of HT_.out (by kernel_rfl)) ?_
                  try go_wp2
                  go_roundg k3
                  case measure => have := HJ1.out; have := HK2.out; have := HK3.out; omega
                  case rel => exact ⟨(wrap64 (x36_3 + 1)), (zF), H', ⟨by have := HJ1.out; have := HK2.out; have := HK3.out; omega⟩, ⟨zB HB.out⟩⟩
                ·rw [if_neg c27] at H
                 exact absurd H (by simp)
               ·rw [if_neg c26] at H
                exact absurd H (by simp)
              ·rw [if_neg c24] at H
               exact absurd H (by simp)
             ·rw [if_neg c23] at H
              exact absurd H (by simp)
           ·rw [if_neg c20] at H
            exact absurd H (by simp)
          ·rw [if_neg c19] at H
           exact absurd H (by simp)
         ·rw [if_neg c18] at H
          have c18b0 := decide_eq_false c18; clear c18; have H' := zQ H; clear H
          go_wp2
          go_loopg [62] k3 (fun kq v62 w' => ∃ (x62_4 : Int), v62 = .int .i64 x62_4 ∧ Aside0 (impl_ValidSail.l2 kq l0 (l0.length : Int) (l0.length : Int) x62_4 = some r) ∧ Aside0 (kq ≤ k3) ∧ Aside0 (Below w.heap.size w w'))
          case atStart => exact ⟨(0), (zF), H', ⟨Nat.le_refl _⟩, ⟨zB HB.out⟩⟩
          case round =>
           clear H'; (try clear c1); (try clear c2); (try clear p2); (try clear q2); (try clear hx2); (try clear c3); (try clear c3b0); (try clear c3b1); (try clear c4); (try clear c5); (try clear c5b0); (try clear c6); (try clear c6b0); (try clear p6); (try clear c7); (try clear c7b0); (try clear c9); (try clear c11); (try clear c18); (try clear c18b0); (try clear c19); (try clear c19b0); (try clear c20); (try clear c20b0); (try clear c21); (try clear c21b0); (try clear c21b1); (try clear c21b2); (try clear c23); (try clear c23b0); (try clear c24); (try clear c24b0); (try clear p25); (try clear q25); (try clear hx25); (try clear c26); (try clear c26b0); (try clear p26); (try clear q26); (try clear hx26); (try clear c27); (try clear c27b0); (try clear c29); (try clear c29b0); (try clear c29b1); (try clear c33); (try clear hcz13_0 hcz13_1 hfz13_0 hfz13_1); (try clear hcz15_0 hcz15_1 hfz15_0 hfz15_1); (try clear hcz17_0 hcz17_1 hfz17_0 hfz17_1); (try clear hx257_0); (try clear hx257_1); (try clear hx261_0); (try clear hx261_1); (try clear hx262_0); (try clear hx262_1); (try clear hx263_0); (try clear hx263_1); (try clear p2); (try clear p257); (try clear p261); (try clear p262); (try clear p263); (try clear p6); (try clear q2); (try clear q257); (try clear q261); (try clear q262); (try clear q263); obtain ⟨x62_4, rfl, HA, HK4, HB⟩ := hrel
           cases gk with
           | zero => exact absurd HA.out (by simp [impl_ValidSail.l2])
           | succ k4 =>
            have H := HA.out; clear HA
            simp only [impl_ValidSail.l2] at H
            by_cases c34 : x62_4 < (l0.length : Int)
            ·rw [if_pos c34] at H
             have c34b0 := decide_eq_true c34; clear c34; have H' := zQ H; clear H
             go_wp2
             go_loopg [8] k4 (fun kq v8 w' => ∃ (x8_5 : Int), v8 = .int .i64 x8_5 ∧ Aside0 (impl_ValidSail.l3 kq l0 (l0.length : Int) x62_4 x8_5 (l0.length : Int) x62_4 = some r) ∧ Aside0 (kq ≤ k4) ∧ Aside0 (Below w.heap.size w w'))
             case atStart => exact ⟨(wrap64 (x62_4 + 2)), (zF), H', ⟨Nat.le_refl _⟩, ⟨zB HB.out⟩⟩
             case round =>
              clear H'; (try clear c1); (try clear c2); (try clear p2); (try clear q2); (try clear hx2); (try clear c3); (try clear c3b0); (try clear c3b1); (try clear c4); (try clear c5); (try clear c5b0); (try clear c6); (try clear c6b0); (try clear p6); (try clear c7); (try clear c7b0); (try clear c9); (try clear c11); (try clear c18); (try clear c18b0); (try clear c19); (try clear c19b0); (try clear c20); (try clear c20b0); (try clear c21); (try clear c21b0); (try clear c21b1); (try clear c21b2); (try clear c23); (try clear c23b0); (try clear c24); (try clear c24b0); (try clear p25); (try clear q25); (try clear hx25); (try clear c26); (try clear c26b0); (try clear p26); (try clear q26); (try clear hx26); (try clear c27); (try clear c27b0); (try clear c29); (try clear c29b0); (try clear c29b1); (try clear c33); (try clear c34); (try clear c34b0); (try clear hcz13_0 hcz13_1 hfz13_0 hfz13_1); (try clear hcz15_0 hcz15_1 hfz15_0 hfz15_1); (try clear hcz17_0 hcz17_1 hfz17_0 hfz17_1); (try clear hx257_0); (try clear hx257_1); (try clear hx261_0); (try clear hx261_1); (try clear hx262_0); (try clear hx262_1); (try clear hx263_0); (try clear hx263_1); (try clear p2); (try clear p25); (try clear p257); (try clear p26); (try clear p261); (try clear p262); (try clear p263); (try clear p6); (try clear q2); (try clear q25); (try clear q257); (try clear q26)
              (try clear q261); (try clear q262); (try clear q263); obtain ⟨x8_5, rfl, HA, HK5, HB⟩ := hrel
              cases gk with
              | zero => exact absurd HA.out (by simp [impl_ValidSail.l3])
              | succ k5 =>
               have H := HA.out; clear HA
               simp only [impl_ValidSail.l3] at H
               by_cases c35 : x8_5 < (l0.length : Int)
               ·rw [if_pos c35] at H
                have c35b0 := decide_eq_true c35; clear c35
                by_cases c36 : (l0.length : Int) = 0
                ·rw [if_pos c36] at H
                 exact absurd H (by simp)
                ·rw [if_neg c36] at H
                 have c36b0 : ((l0.length : Int) == 0) = false := beq_eq_false_iff_ne.mpr c36; have c36b1 : ((l0.length : Int) != 0) = true := bne_iff_ne.mpr c36
                 have c36b2 : ¬ (l0 = []) := fun h_ => c36 (by rw [h_]; rfl)
                 by_cases c37 : (Int.tmod (wrap64 (x8_5 + 1)) (l0.length : Int)) = x62_4
                 ·rw [if_pos c37] at H
                  have c37b0 : ((Int.tmod (wrap64 (x8_5 + 1)) (l0.length : Int)) == x62_4) = true := beq_iff_eq.mpr c37; have c37b1 : ((Int.tmod (wrap64 (x8_5 + 1)) (l0.length : Int)) != x62_4) = false := bne_eq_false_iff_eq.mpr c37; clear c37; have H' := zQ H; clear H
                  try go_wp2
                  have n0_ := zQ (below_drew1 HB.out); clear HB; have HB := n0_; clear n0_
                  refine zs (fun w' => True) [] 29 trivial (fun hHeld => ?_); refine with_tabW impl_ValidSail.tab22 impl_ValidSail.bits22 (fun HT_ HW_ => ?_)
                  generalize wr.drew = w38 at HB hHeld ⊢
                  refine zp 0 72 ?_
                  refine zp 1 73 ?_
                  refine zp 2 74 ?_
                  refine zp 3 75 ?_
                  refine zp 4 76 ?_
                  refine zp 5 77 ?_
                  refine zp 6 78 ?_
                  refine zg 7 79 ?_
                  refine zg 8 80 ?_
                  refine zg 9 81 ?_
                  refine zg 10 82 ?_
                  refine zg 11 83 ?_
                  refine zg 12 84 ?_
                  refine zg 13 85 ?_
                  refine zg 14 86 ?_
                  refine zg 15 87 ?_
                  refine zg 16 88 ?_
                  refine zg 17 89 ?_
                  refine zg 18 90 ?_
                  refine zg 19 91 ?_
                  refine zg 20 92 ?_
                  refine zg 21 93 ?_
                  refine zg 22 94 ?_
                  refine zg 23 95 ?_
                  refine zg 24 96 ?_
                  refine zg 25 97 ?_
                  refine zg 26 98 ?_
                  refine zg 27 99 ?_
                  refine zp 28 100 ?_
                  refine done_ (done_of HT_.out (by kernel_rfl)) ?_
                  try go_wp2
                  go_roundg k5
                  case measure => have := HJ1.out; have := HK2.out; have := HK3.out; have := HK4.out; have := HK5.out; omega
                  case rel => exact ⟨(wrap64 (x8_5 + 1)), (zF), H', ⟨by have := HJ1.out; have := HK2.out; have := HK3.out; have := HK4.out; have := HK5.out; omega⟩, ⟨zB HB.out⟩⟩
                 ·rw [if_neg c37] at H
                  have c37b0 : ((Int.tmod (wrap64 (x8_5 + 1)) (l0.length : Int)) == x62_4) = false := beq_eq_false_iff_ne.mpr c37; have c37b1 : ((Int.tmod (wrap64 (x8_5 + 1)) (l0.length : Int)) != x62_4) = true := bne_iff_ne.mpr c37
                  by_cases c39 : 0 ≤ x62_4
                  ·rw [if_pos c39] at H
                   have c39b0 := decide_eq_true c39; clear c39
                   by_cases c40 : x62_4 < (l0.length : Int)
                   ·rw [if_pos c40] at H
                    have c40b0 := decide_eq_true c40; clear c40; obtain ⟨ji41, hji41⟩ : ∃ j_ : Int, (wrap64 (x62_4 + 1)) = j_ := ⟨_, rfl⟩
                    replace H : (if 0 ≤ (ji41) then (if (ji41) < (l0.length : Int) then (if 0 ≤ x8_5 then (if x8_5 < (l0.length : Int) then (if 0 ≤ (Int.tmod (wrap64 (x8_5 + 1)) (l0.length : Int)) then (if (Int.tmod (wrap64 (x8_5 + 1)) (l0.length : Int)) < (l0.length : Int) then ((impl_edgesMeet.f k5 ((rd_T49 l0 x62_4).f0) ((rd_T49 l0 x62_4).f1) ((rd_T49 l0 (ji41)).f0) ((rd_T49 l0 (ji41)).f1) ((rd_T49 l0 x8_5).f0) ((rd_T49 l0 x8_5).f1) ((rd_T49 l0 (Int.tmod (wrap64 (x8_5 + 1)) (l0.length : Int))).f0) ((rd_T49 l0 (Int.tmod (wrap64 (x8_5 + 1)) (l0.length : Int))).f1)).bind fun t270 => (if t270 = true then (some false) else (impl_ValidSail.l3 k5 l0 (l0.length : Int) x62_4 (wrap64 (x8_5 + 1)) (l0.length : Int) x62_4))) else (none)) else (none)) else (none)) else (none)) else (none)) else (none)) = some r := by first | (rw [hji41] at H; exact H) | (simp only [hji41] at H ⊢; exact H)
                    have hji41w : (IntKind.i64.wrap (x62_4 + 1)) = ji41 := (i64_w _).trans hji41
                    by_cases c42 : 0 ≤ (ji41)
                    ·rw [if_pos c42] at H
                     have c42b0 := decide_eq_true c42; clear c42
                     by_cases c43 : (ji41) < (l0.length : Int)
                     ·rw [if_pos c43] at H
                      have c43b0 := decide_eq_true c43; clear c43
                      by_cases c44 : 0 ≤ x8_5
                      ·rw [if_pos c44] at H
                       have c44b0 := decide_eq_true c44; clear c44
                       by_cases c45 : x8_5 < (l0.length : Int)
                       ·rw [if_pos c45] at H
                        have c45b0 := decide_eq_true c45; clear c45; obtain ⟨ji46, hji46⟩ : ∃ j_ : Int, (Int.tmod (wrap64 (x8_5 + 1)) (l0.length : Int)) = j_ := ⟨_, rfl⟩
                        replace H : (if 0 ≤ (ji46) then (if (ji46) < (l0.length : Int) then ((impl_edgesMeet.f k5 ((rd_T49 l0 x62_4).f0) ((rd_T49 l0 x62_4).f1) ((rd_T49 l0 (ji41)).f0) ((rd_T49 l0 (ji41)).f1) ((rd_T49 l0 x8_5).f0) ((rd_T49 l0 x8_5).f1) ((rd_T49 l0 (ji46)).f0) ((rd_T49 l0 (ji46)).f1)).bind fun t270 => (if t270 = true then (some false) else (impl_ValidSail.l3 k5 l0 (l0.length : Int) x62_4 (wrap64 (x8_5 + 1)) (l0.length : Int) x62_4))) else (none)) else (none)) = some r := by first | (rw [hji46] at H; exact H) | (simp only [hji46] at H ⊢; exact H)
                        (try rw [hji46] at c37b0)
                        (try rw [hji46] at c37b1)
                        by_cases c47 : 0 ≤ (ji46)
                        ·rw [if_pos c47] at H
                         have c47b0 := decide_eq_true c47; clear c47
                         by_cases c48 : (ji46) < (l0.length : Int)
                         ·rw [if_pos c48] at H
                          have c48b0 := decide_eq_true c48; clear c48; replace H := zob H; obtain ⟨t270, A49, H⟩ := H
                          by_cases c50 : t270 = true
                          ·subst c50
                           rw [if_pos rfl] at H; obtain rfl := Option.some.inj H
                           try go_wp2
                           have n0_ := zQ (below_drew1 HB.out); clear HB; have HB := n0_; clear n0_; have p266 : 0 ≤ (x62_4 : Int) := zD; have q266 : x62_4 < (l0.length : Int) := zD; obtain ⟨ad266, e266, hx266_0, hx266_1⟩ := at_T49 HR0.out x62_4 p266 q266; have hw266_1 := hx266_1; have hw266_0 := hx266_0
                           cases e266
                           replace hx266_0 := zw HB.out hx266_0; replace hx266_1 := zw HB.out hx266_1; replace p266 := eq_true p266; replace q266 := eq_true q266; have p267 : 0 ≤ ((ji41) : Int) := zD; have q267 : (ji41) < (l0.length : Int) := zD; obtain ⟨ad267, e267, hx267_0, hx267_1⟩ := at_T49 HR0.out (ji41) p267 q267; have hw267_1 := hx267_1; have hw267_0 := hx267_0; obtain rfl : ad266 = ad267 := (by injection e267); replace hx267_0 := zw HB.out hx267_0; replace hx267_1 := zw HB.out hx267_1; replace p267 := eq_true p267; replace q267 := eq_true q267; have p268 : 0 ≤ (x8_5 : Int) := zD; have q268 : x8_5 < (l0.length : Int) := zD; obtain ⟨ad268, e268, hx268_0, hx268_1⟩ := at_T49 HR0.out x8_5 p268 q268; have hw268_1 := hx268_1; have hw268_0 := hx268_0; obtain rfl : ad266 = ad268 := (by injection e268); replace hx268_0 := zw HB.out hx268_0; replace hx268_1 := zw HB.out hx268_1; replace p268 := eq_true p268; replace q268 := eq_true q268; have p269 : 0 ≤ ((ji46) : Int) := zD; have q269 : (ji46) < (l0.length : Int) := zD; obtain ⟨ad269, e269, hx269_0, hx269_1⟩ := at_T49 HR0.out (ji46) p269 q269; have hw269_1 := hx269_1; have hw269_0 := hx269_0; obtain rfl : ad266 = ad269 := (by injection e269); replace hx269_0 := zw HB.out hx269_0; replace hx269_1 := zw HB.out hx269_1; replace p269 := eq_true p269; replace q269 := eq_true q269
                           refine zs (fun w' => w'.cell? (ad266.add ((x62_4).toNat * 2)) = some (.int .i64 ((rd_T49 l0 x62_4).f0)) ∧ w'.cell? ⟨(ad266.add ((x62_4).toNat * 2)).block, (ad266.add ((x62_4).toNat * 2)).off + 1, none⟩ = some (.int .i64 ((rd_T49 l0 x62_4).f1)) ∧ w'.cell? (ad266.add (((ji41)).toNat * 2)) = some (.int .i64 ((rd_T49 l0 (ji41)).f0)) ∧ w'.cell? ⟨(ad266.add (((ji41)).toNat * 2)).block, (ad266.add (((ji41)).toNat * 2)).off + 1, none⟩ = some (.int .i64 ((rd_T49 l0 (ji41)).f1)) ∧ w'.cell? (ad266.add ((x8_5).toNat * 2)) = some (.int .i64 ((rd_T49 l0 x8_5).f0)) ∧ w'.cell? ⟨(ad266.add ((x8_5).toNat * 2)).block, (ad266.add ((x8_5).toNat * 2)).off + 1, none⟩ = some (.int .i64 ((rd_T49 l0 x8_5).f1)) ∧ w'.cell? (ad266.add (((ji46)).toNat * 2)) = some (.int .i64 ((rd_T49 l0 (ji46)).f0)) ∧ w'.cell? ⟨(ad266.add (((ji46)).toNat * 2)).block, (ad266.add (((ji46)).toNat * 2)).off + 1, none⟩ = some (.int .i64 ((rd_T49 l0 (ji46)).f1))) [] 29 ⟨((HB.out.cell (World.block_lt_of_cell? w _ hw266_0)).trans hw266_0), ((HB.out.cell (World.block_lt_of_cell? w _ hw266_1)).trans hw266_1), ((HB.out.cell (World.block_lt_of_cell? w _ hw267_0)).trans hw267_0), ((HB.out.cell (World.block_lt_of_cell? w _ hw267_1)).trans hw267_1), ((HB.out.cell (World.block_lt_of_cell? w _ hw268_0)).trans hw268_0), ((HB.out.cell (World.block_lt_of_cell? w _ hw268_1)).trans hw268_1), ((HB.out.cell (World.block_lt_of_cell? w _ hw269_0)).trans hw269_0), ((HB.out.cell (World.block_lt_of_cell? w _ hw269_1)).trans hw269_1)⟩ (fun hHeld => ?_); refine with_tabW impl_ValidSail.tab22 impl_ValidSail.bits22 (fun HT_ HW_ => ?_)
                           generalize wr.drew = w51 at HB hx266_0 hx266_1 hx267_0 hx267_1 hx268_0 hx268_1 hx269_0 hx269_1 hHeld ⊢
                           refine zp 0 72 ?_
                           refine zp 1 73 ?_
                           refine zp 2 74 ?_
                           refine zp 3 75 ?_
                           refine zp 4 76 ?_
                           refine zp 5 77 ?_
                           refine zp 6 78 ?_
                           refine zp 7 79 ?_
                           refine zp 8 80 ?_
                           refine zp 9 81 ?_
                           refine zp 11 83 ?_
                           refine zp 12 84 ?_
                           refine zp 13 85 ?_
                           refine zp 14 86 ?_
                           refine zp 16 88 ?_
                           refine zp 17 89 ?_
                           refine zp 18 90 ?_
                           refine zp 20 92 ?_
                           refine zp 21 93 ?_
                           refine zp 22 94 ?_
                           refine zp 23 95 ?_
                           refine zp 24 96 ?_
                           refine zp 25 97 ?_
                           refine zt 10 82 hHeld ?_
                           refine zt 15 87 hHeld ?_
                           refine zt 19 91 hHeld ?_
                           refine zt 26 98 hHeld ?_
                           refine zo 27 (some 99) (fun K hK => ?_)
                           refine goes_ Try.func57 (by kernel_rfl) rfl #[.agg #[.int .i64 ((rd_T49 l0 x62_4).f0), .int .i64 ((rd_T49 l0 x62_4).f1)], .agg #[.int .i64 ((rd_T49 l0 (ji41)).f0), .int .i64 ((rd_T49 l0 (ji41)).f1)], .agg #[.int .i64 ((rd_T49 l0 x8_5).f0), .int .i64 ((rd_T49 l0 x8_5).f1)], .agg #[.int .i64 ((rd_T49 l0 (ji46)).f0), .int .i64 ((rd_T49 l0 (ji46)).f1)]] (by rfl) rfl rfl (by (try simp only [List.map_toArray, List.map_cons, List.map_nil]); first | done | (simp only [hji41, hji46]; rfl) | rfl | (simp only [List.length_drop, List.length_take]; rfl)) ?_
                           with_reducible refine (impl_edgesMeet.calls k5 ((rd_T49 l0 x62_4).f0) ((rd_T49 l0 x62_4).f1) ((rd_T49 l0 (ji41)).f0) ((rd_T49 l0 (ji41)).f1) ((rd_T49 l0 x8_5).f0) ((rd_T49 l0 x8_5).f1) ((rd_T49 l0 (ji46)).f0) ((rd_T49 l0 (ji46)).f1) true _ A49.out).mono ?_
                           rintro e w52 ⟨rfl, hb⟩
                           refine ⟨_, rfl, ?_⟩
                           have n0_ := zbs HB.out hb; clear HB; have HB := n0_; clear n0_
                           (try clear hb)
                           (try clear hb2)
                           (try clear hk)
                           (try clear hi)
                           refine hK.out _ _ ⟨((HB.out.cell (World.block_lt_of_cell? w _ hw266_0)).trans hw266_0), ((HB.out.cell (World.block_lt_of_cell? w _ hw266_1)).trans hw266_1), ((HB.out.cell (World.block_lt_of_cell? w _ hw267_0)).trans hw267_0), ((HB.out.cell (World.block_lt_of_cell? w _ hw267_1)).trans hw267_1), ((HB.out.cell (World.block_lt_of_cell? w _ hw268_0)).trans hw268_0), ((HB.out.cell (World.block_lt_of_cell? w _ hw268_1)).trans hw268_1), ((HB.out.cell (World.block_lt_of_cell? w _ hw269_0)).trans hw269_0), ((HB.out.cell (World.block_lt_of_cell? w _ hw269_1)).trans hw269_1)⟩ (fun hHeld => ?_)
                           clear hK K
                           refine zn 99 ?_
                           refine zp 28 100 ?_
                           refine done_ (done_of HT_.out (by kernel_rfl)) ?_
                           try go_wp2
                           go_ret
                           exact ⟨by first | rfl | (simp [errW_none, errW_some] <;> rfl) | (simp only [← hji41, ← hji46]; first | rfl | (simp [errW_none, errW_some] <;> rfl)) | (simp [*, errW_none, errW_some] <;> rfl), zB HB.out⟩
                          ·replace c50 := Bool.eq_false_iff.mpr c50
                           subst c50
                           rw [if_neg Bool.false_ne_true] at H; have H' := zQ H; clear H
                           try go_wp2
                           have n0_ := zQ (below_drew1 HB.out); clear HB; have HB := n0_; clear n0_; have p266 : 0 ≤ (x62_4 : Int) := zD; have q266 : x62_4 < (l0.length : Int) := zD; obtain ⟨ad266, e266, hx266_0, hx266_1⟩ := at_T49 HR0.out x62_4 p266 q266; have hw266_1 := hx266_1; have hw266_0 := hx266_0
                           cases e266
                           replace hx266_0 := zw HB.out hx266_0; replace hx266_1 := zw HB.out hx266_1; replace p266 := eq_true p266; replace q266 := eq_true q266; have p267 : 0 ≤ ((ji41) : Int) := zD; have q267 : (ji41) < (l0.length : Int) := zD; obtain ⟨ad267, e267, hx267_0, hx267_1⟩ := at_T49 HR0.out (ji41) p267 q267; have hw267_1 := hx267_1; have hw267_0 := hx267_0; obtain rfl : ad266 = ad267 := (by injection e267); replace hx267_0 := zw HB.out hx267_0; replace hx267_1 := zw HB.out hx267_1; replace p267 := eq_true p267; replace q267 := eq_true q267; have p268 : 0 ≤ (x8_5 : Int) := zD; have q268 : x8_5 < (l0.length : Int) := zD; obtain ⟨ad268, e268, hx268_0, hx268_1⟩ := at_T49 HR0.out x8_5 p268 q268; have hw268_1 := hx268_1; have hw268_0 := hx268_0; obtain rfl : ad266 = ad268 := (by injection e268); replace hx268_0 := zw HB.out hx268_0; replace hx268_1 := zw HB.out hx268_1; replace p268 := eq_true p268; replace q268 := eq_true q268; have p269 : 0 ≤ ((ji46) : Int) := zD; have q269 : (ji46) < (l0.length : Int) := zD; obtain ⟨ad269, e269, hx269_0, hx269_1⟩ := at_T49 HR0.out (ji46) p269 q269; have hw269_1 := hx269_1; have hw269_0 := hx269_0; obtain rfl : ad266 = ad269 := (by injection e269); replace hx269_0 := zw HB.out hx269_0; replace hx269_1 := zw HB.out hx269_1; replace p269 := eq_true p269; replace q269 := eq_true q269
                           refine zs (fun w' => w'.cell? (ad266.add ((x62_4).toNat * 2)) = some (.int .i64 ((rd_T49 l0 x62_4).f0)) ∧ w'.cell? ⟨(ad266.add ((x62_4).toNat * 2)).block, (ad266.add ((x62_4).toNat * 2)).off + 1, none⟩ = some (.int .i64 ((rd_T49 l0 x62_4).f1)) ∧ w'.cell? (ad266.add (((ji41)).toNat * 2)) = some (.int .i64 ((rd_T49 l0 (ji41)).f0)) ∧ w'.cell? ⟨(ad266.add (((ji41)).toNat * 2)).block, (ad266.add (((ji41)).toNat * 2)).off + 1, none⟩ = some (.int .i64 ((rd_T49 l0 (ji41)).f1)) ∧ w'.cell? (ad266.add ((x8_5).toNat * 2)) = some (.int .i64 ((rd_T49 l0 x8_5).f0)) ∧ w'.cell? ⟨(ad266.add ((x8_5).toNat * 2)).block, (ad266.add ((x8_5).toNat * 2)).off + 1, none⟩ = some (.int .i64 ((rd_T49 l0 x8_5).f1)) ∧ w'.cell? (ad266.add (((ji46)).toNat * 2)) = some (.int .i64 ((rd_T49 l0 (ji46)).f0)) ∧ w'.cell? ⟨(ad266.add (((ji46)).toNat * 2)).block, (ad266.add (((ji46)).toNat * 2)).off + 1, none⟩ = some (.int .i64 ((rd_T49 l0 (ji46)).f1))) [] 29 ⟨((HB.out.cell (World.block_lt_of_cell? w _ hw266_0)).trans hw266_0), ((HB.out.cell (World.block_lt_of_cell? w _ hw266_1)).trans hw266_1), ((HB.out.cell (World.block_lt_of_cell? w _ hw267_0)).trans hw267_0), ((HB.out.cell (World.block_lt_of_cell? w _ hw267_1)).trans hw267_1), ((HB.out.cell (World.block_lt_of_cell? w _ hw268_0)).trans hw268_0), ((HB.out.cell (World.block_lt_of_cell? w _ hw268_1)).trans hw268_1), ((HB.out.cell (World.block_lt_of_cell? w _ hw269_0)).trans hw269_0), ((HB.out.cell (World.block_lt_of_cell? w _ hw269_1)).trans hw269_1)⟩ (fun hHeld => ?_); refine with_tabW impl_ValidSail.tab22 impl_ValidSail.bits22 (fun HT_ HW_ => ?_)
                           generalize wr.drew = w53 at HB hx266_0 hx266_1 hx267_0 hx267_1 hx268_0 hx268_1 hx269_0 hx269_1 hHeld ⊢
                           refine zp 0 72 ?_
                           refine zp 1 73 ?_
                           refine zp 2 74 ?_
                           refine zp 3 75 ?_
                           refine zp 4 76 ?_
                           refine zp 5 77 ?_
                           refine zp 6 78 ?_
                           refine zp 7 79 ?_
                           refine zp 8 80 ?_
                           refine zp 9 81 ?_
                           refine zp 11 83 ?_
                           refine zp 12 84 ?_
                           refine zp 13 85 ?_
                           refine zp 14 86 ?_
                           refine zp 16 88 ?_
                           refine zp 17 89 ?_
                           refine zp 18 90 ?_
                           refine zp 20 92 ?_
                           refine zp 21 93 ?_
                           refine zp 22 94 ?_
                           refine zp 23 95 ?_
                           refine zp 24 96 ?_
                           refine zp 25 97 ?_
                           refine zt 10 82 hHeld ?_
                           refine zt 15 87 hHeld ?_
                           refine zt 19 91 hHeld ?_
                           refine zt 26 98 hHeld ?_
                           refine zo 27 (some 99) (fun K hK => ?_)
                           refine goes_ Try.func57 (by kernel_rfl) rfl #[.agg #[.int .i64 ((rd_T49 l0 x62_4).f0), .int .i64 ((rd_T49 l0 x62_4).f1)], .agg #[.int .i64 ((rd_T49 l0 (ji41)).f0), .int .i64 ((rd_T49 l0 (ji41)).f1)], .agg #[.int .i64 ((rd_T49 l0 x8_5).f0), .int .i64 ((rd_T49 l0 x8_5).f1)], .agg #[.int .i64 ((rd_T49 l0 (ji46)).f0), .int .i64 ((rd_T49 l0 (ji46)).f1)]] (by rfl) rfl rfl (by (try simp only [List.map_toArray, List.map_cons, List.map_nil]); first | done | (simp only [hji41, hji46]; rfl) | rfl | (simp only [List.length_drop, List.length_take]; rfl)) ?_
                           with_reducible refine (impl_edgesMeet.calls k5 ((rd_T49 l0 x62_4).f0) ((rd_T49 l0 x62_4).f1) ((rd_T49 l0 (ji41)).f0) ((rd_T49 l0 (ji41)).f1) ((rd_T49 l0 x8_5).f0) ((rd_T49 l0 x8_5).f1) ((rd_T49 l0 (ji46)).f0) ((rd_T49 l0 (ji46)).f1) false _ A49.out).mono ?_
                           rintro e w54 ⟨rfl, hb⟩
                           refine ⟨_, rfl, ?_⟩
                           have n0_ := zbs HB.out hb; clear HB; have HB := n0_; clear n0_
                           (try clear hb)
                           (try clear hb2)
                           (try clear hk)
                           (try clear hi)
                           refine hK.out _ _ ⟨((HB.out.cell (World.block_lt_of_cell? w _ hw266_0)).trans hw266_0), ((HB.out.cell (World.block_lt_of_cell? w _ hw266_1)).trans hw266_1), ((HB.out.cell (World.block_lt_of_cell? w _ hw267_0)).trans hw267_0), ((HB.out.cell (World.block_lt_of_cell? w _ hw267_1)).trans hw267_1), ((HB.out.cell (World.block_lt_of_cell? w _ hw268_0)).trans hw268_0), ((HB.out.cell (World.block_lt_of_cell? w _ hw268_1)).trans hw268_1), ((HB.out.cell (World.block_lt_of_cell? w _ hw269_0)).trans hw269_0), ((HB.out.cell (World.block_lt_of_cell? w _ hw269_1)).trans hw269_1)⟩ (fun hHeld => ?_)
                           clear hK K
                           refine zn 99 ?_
                           refine zp 28 100 ?_
                           refine done_ (done_of HT_.out (by kernel_rfl)) ?_
                           try go_wp2
                           go_roundg k5
                           case measure => have := HJ1.out; have := HK2.out; have := HK3.out; have := HK4.out; have := HK5.out; omega
                           case rel => exact ⟨(wrap64 (x8_5 + 1)), (zF), H', ⟨by have := HJ1.out; have := HK2.out; have := HK3.out; have := HK4.out; have := HK5.out; omega⟩, ⟨zB HB.out⟩⟩
                         ·rw [if_neg c48] at H
                          exact absurd H (by simp)
                        ·rw [if_neg c47] at H
                         exact absurd H (by simp)
                       ·rw [if_neg c45] at H
                        exact absurd H (by simp)
                      ·rw [if_neg c44] at H
                       exact absurd H (by simp)
                     ·rw [if_neg c43] at H
                      exact absurd H (by simp)
                    ·rw [if_neg c42] at H
                     exact absurd H (by simp)
                   ·rw [if_neg c40] at H
                    exact absurd H (by simp)
                  ·rw [if_neg c39] at H
                   exact absurd H (by simp)
               ·rw [if_neg c35] at H
                have c35b0 := decide_eq_false c35; clear c35; have H' := zQ H; clear H
                go_wp2
                go_roundg k5
                case measure => have := HJ1.out; have := HK2.out; have := HK3.out; have := HK4.out; have := HK5.out; omega
                case rel => exact ⟨(wrap64 (x62_4 + 1)), (zF), H', ⟨by have := HJ1.out; have := HK2.out; have := HK3.out; have := HK4.out; have := HK5.out; omega⟩, ⟨zB HB.out⟩⟩
            ·rw [if_neg c34] at H
             have c34b0 := decide_eq_false c34; clear c34; replace H := zob H; obtain ⟨t265, A55, H⟩ := H; obtain rfl := Option.some.inj H
             go_wp2_with (first | ((with_reducible refine zgc 58 ?_); refine zgo (some 103) Try.func58 #[.slice A0 l0.length c0] ?_; (with_reducible refine (impl_twiceSail.calls k4 _ _ l0 t265 _ (zC HR0.out HB.out) HC0.out A55.out).mono ?_); rintro e w56 ⟨rfl, hb⟩; refine ⟨_, rfl, ?_⟩; replace HB := zbs HB.out hb; (try clear hb)))
             go_ret
             exact ⟨zE, zB HB.out⟩

end
end Go.Proofs.Ytcomncokgkeniaa.PSailw

