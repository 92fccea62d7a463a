import Derived.Test.YtcomncokgkeniaaHSailw0
import Derived.Test.YtcomncokgkeniaaHSailwa
namespace Go.Proofs.Ytcomncokgkeniaa.PSailw
noncomputable section
open Go.RowKit Go.Proofs.YtcomncokgkeniaaW.PrintWords Go.Proofs.YtcomncokgkeniaaW.PrintLast Go.Proofs.YtcomncokgkeniaaW.PrintMore
attribute [local go_sem] max2_int min2_int max_two min_two max_three min_three max_four min_four   -- for this text's walks alone
set_option linter.unusedVariables false
set_option linter.unusedSimpArgs false
set_option maxHeartbeats 8000000
set_option maxRecDepth 100000

def spec_l13Limits.l0 : Nat → List (S49) → Int → Int → Int → Option (Int × Int)
 | 0, _, _, _, _ => none
 | k + 1, x0, x4, x5, x6 => if x6 < (x0.length : Int) then (if 0 ≤ x6 then ((spec_l00Min.f x4 ((rd_T49 x0 x6).f1)).bind fun t154 => ((spec_l00Max.f x5 ((rd_T49 x0 x6).f1)).bind fun t156 => (spec_l13Limits.l0 k x0 t154 t156 (wrap64 (x6 + 1))))) else (none)) else (some (x4, x5))
def spec_l13Limits.f (k : Nat) (l0 : List (S49)) : Option (Int × Int) := if 0 < (l0.length : Int) then (spec_l13Limits.l0 k l0 ((rd_T49 l0 0).f1) ((rd_T49 l0 0).f1) 1) else (none)
theorem spec_l13Limits.calls (k : Nat) (A0 : Option Addr) (c0 : Nat) (l0 : List (S49)) (r1 : Int) (r2 : Int) (w : World) (hr0 : Kd.C k49 w A0 l0.length l0) (hc0 : l0.length ≤ c0) (h : spec_l13Limits.f k l0 = some (r1, r2)) :
  Calls Try.prog 26 #[.slice A0 l0.length c0] w fun e w' => e = .returned (.tuple #[.int .i64 r1, .int .i64 r2]) ∧ Drawn0 w w' := by
 have HR0 := zQ hr0
 have HC0 := zQ hc0
 clear hr0 hc0
 have H := h; unfold spec_l13Limits.f at H
 clear h
 by_cases c2 : 0 < (l0.length : Int)
 ·rw [if_pos c2] at H
  have c2b0 := decide_eq_true c2; have c2b1 : decide (0 < l0.length) = true := decide_eq_true (by omega); clear c2; have H' := zQ H; clear H; have p152 : 0 ≤ (0 : Int) := (by omega); have q152 : 0 < (l0.length : Int) := zD; obtain ⟨ad152, e152, hx152_0, hx152_1⟩ := at_T49 HR0.out 0 p152 q152
  cases e152
  have qi152 : (0 < l0.length) = True := eq_true (by omega)
  (try rw [show ((0 : Int)).toNat = 0 from rfl] at hx152_0)
  (try rw [show 0 * 2 = 0 from rfl] at hx152_0)
  (try rw [Addr.add_zero'] at hx152_0)
  (try rw [show ((0 : Int)).toNat = 0 from rfl] at hx152_1)
  (try rw [show 0 * 2 = 0 from rfl] at hx152_1)
  (try rw [Addr.add_zero'] at hx152_1)
  replace p152 := eq_true p152; replace q152 := eq_true q152
  go_enter Try.func26, Try.ntmps26
  go_wp2
  go_loopg [4, 5, 6] k (fun kq v4 v5 v6 w' => ∃ (x4_1 : Int) (x5_1 : Int) (x6_1 : Int), v4 = .int .i64 x4_1 ∧ v5 = .int .i64 x5_1 ∧ v6 = .int .i64 x6_1 ∧ Aside0 (spec_l13Limits.l0 kq l0 x4_1 x5_1 x6_1 = some (r1, r2)) ∧ Aside0 (kq ≤ k) ∧ Drawn0 w w')
  case atStart => exact ⟨((rd_T49 l0 0).f1), ((rd_T49 l0 0).f1), (1), (zF), (zF), (zF), H', ⟨Nat.le_refl _⟩, by repeat (first | exact Drawn0.refl _ | apply Drawn0.step)⟩
  case round =>
   clear H'; (try clear p1); (try clear q1); (try clear hx1); (try clear qi1); (try clear c2); (try clear c2b0); (try clear c2b1); (try clear p2); (try clear hx152_0); (try clear hx152_1); (try clear p152); (try clear q152); obtain ⟨x4_1, x5_1, x6_1, rfl, rfl, rfl, HA, HK1, ⟨m1, rfl⟩⟩ := hrel
   cases gk with
   | zero => exact absurd HA.out (by simp [spec_l13Limits.l0])
   | succ k1 =>
    have H := HA.out; clear HA
    simp only [spec_l13Limits.l0] at H
    by_cases c3 : x6_1 < (l0.length : Int)
    ·rw [if_pos c3] at H
     have c3b0 := decide_eq_true c3; clear c3
     by_cases c4 : 0 ≤ x6_1
     ·rw [if_pos c4] at H
      have c4b0 := decide_eq_true c4; clear c4; replace H := zob H; obtain ⟨t154, A5, H⟩ := H; replace H := zob H; obtain ⟨t156, A6, H⟩ := H; have H' := zQ H; clear H; have p153 : 0 ≤ (x6_1 : Int) := zD; have q153 : x6_1 < (l0.length : Int) := zD; obtain ⟨ad153, e153, hx153_0, hx153_1⟩ := at_T49 HR0.out x6_1 p153 q153; obtain rfl : ad152 = ad153 := (by injection e153); replace p153 := eq_true p153; replace q153 := eq_true q153
      go_wp2_with (first | ((with_reducible refine zgc 43 ?_); refine zgo (some 24) Try.func43 #[.int .i64 x4_1, .int .i64 ((rd_T49 l0 x6_1).f1)] ?_; (with_reducible refine (spec_l00Min.calls x4_1 ((rd_T49 l0 x6_1).f1) t154 _ A5.out).mono ?_); rintro e w' ⟨rfl, ⟨nd, rfl⟩⟩; refine ⟨_, rfl, ?_⟩; have p155 : 0 ≤ (x6_1 : Int) := zD; have q155 : x6_1 < (l0.length : Int) := zD; obtain ⟨ad155, e155, hx155_0, hx155_1⟩ := at_T49 HR0.out x6_1 p155 q155; obtain rfl : ad152 = ad155 := (by injection e155); replace p155 := eq_true p155; replace q155 := eq_true q155) | ((with_reducible refine zgc 41 ?_); refine zgo (some 31) Try.func41 #[.int .i64 x5_1, .int .i64 ((rd_T49 l0 x6_1).f1)] ?_; (with_reducible refine (spec_l00Max.calls x5_1 ((rd_T49 l0 x6_1).f1) t156 _ A6.out).mono ?_); rintro e w' ⟨rfl, ⟨nd, rfl⟩⟩; refine ⟨_, rfl, ?_⟩))
      go_roundg k1
      case measure => have := HK1.out; omega
      case rel => exact ⟨(t154), (t156), (wrap64 (x6_1 + 1)), (zF), (zF), (zF), H', ⟨by have := HK1.out; omega⟩, by repeat (first | exact Drawn0.refl _ | apply Drawn0.step)⟩
     ·rw [if_neg c4] at H
      exact absurd H (by simp)
    ·rw [if_neg c3] at H
     have c3b0 := decide_eq_false c3; clear c3
     simp only [Option.some.injEq, Prod.mk.injEq] at H
     obtain ⟨rfl, rfl⟩ := H
     go_wp2
     go_ret2
     exact ⟨zF, by repeat (first | exact Drawn0.refl _ | apply Drawn0.step)⟩
 ·rw [if_neg c2] at H
  exact absurd H (by simp)

def spec_l13Bulged.l0 : Nat → List (S49) → Int → Int → Option (Bool)
 | 0, _, _, _ => none
 | k + 1, x0, x3, x4 => if x4 < x3 then (if 0 ≤ x4 then (if x4 < (x0.length : Int) then (if x3 = 0 then (none) else (if 0 ≤ (Int.tmod (wrap64 (x4 + 1)) x3) then (if (Int.tmod (wrap64 (x4 + 1)) x3) < (x0.length : Int) then (if 0 ≤ (Int.tmod (wrap64 (x4 + 2)) x3) then (if (Int.tmod (wrap64 (x4 + 2)) x3) < (x0.length : Int) then ((spec_l13Cross.f ((rd_T49 x0 x4).f0) ((rd_T49 x0 x4).f1) ((rd_T49 x0 (Int.tmod (wrap64 (x4 + 1)) x3)).f0) ((rd_T49 x0 (Int.tmod (wrap64 (x4 + 1)) x3)).f1) ((rd_T49 x0 (Int.tmod (wrap64 (x4 + 2)) x3)).f0) ((rd_T49 x0 (Int.tmod (wrap64 (x4 + 2)) x3)).f1)).bind fun t160 => (if t160 < 0 then (some false) else (spec_l13Bulged.l0 k x0 x3 (wrap64 (x4 + 1))))) else (none)) else (none)) else (none)) else (none))) else (none)) else (none)) else (some true)
def spec_l13Bulged.f (k : Nat) (l0 : List (S49)) : Option (Bool) := spec_l13Bulged.l0 k l0 (l0.length : Int) 0
def spec_l13Bulged.T5 : Bool × List (List Nat × List Nat) := (true, [([], []), ([], []), ([0, 1], [0, 1]), ([2], [2]), ([], []), ([], []), ([5], [5]), ([], []), ([6, 7], [6, 7]), ([4, 8], [4, 8]), ([9], [9]), ([], []), ([], []), ([12], [12]), ([], []), ([13, 14], [13, 14]), ([11, 15], [11, 15]), ([16], [16]), ([3, 10, 17], [3, 10, 17]), ([18], [18])])
def spec_l13Bulged.B5 : List Nat := [0, 0, 3, 7, 0, 0, 32, 0, 224, 496, 1008, 0, 0, 4096, 0, 28672, 63488, 129024, 262143, 524287]
theorem spec_l13Bulged.tab5 : rtab .any (opsOf Try.f28 5) = spec_l13Bulged.T5 := by kernel_rfl
theorem spec_l13Bulged.bits5 : waitsOk spec_l13Bulged.T5.2 spec_l13Bulged.B5 = true := by kernel_rfl
theorem spec_l13Bulged.calls (k : Nat) (A0 : Option Addr) (c0 : Nat) (l0 : List (S49)) (r : Bool) (w : World) (hr0 : Kd.C k49 w A0 l0.length l0) (hc0 : l0.length ≤ c0) (h : spec_l13Bulged.f k l0 = some r) :
  Calls Try.prog 28 #[.slice A0 l0.length c0] w fun e w' => e = .returned (.bool r) ∧ Below w.heap.size w w' := by
 have hu49 := Try.underlying49
 have HR0 := zQ hr0
 have HC0 := zQ hc0
 clear hr0 hc0
 have HB := zQ (Below.refl w.heap.size w)
 have H : (spec_l13Bulged.l0 k l0 (l0.length : Int) 0) = some r := h
 clear h
 have H' := zQ H
 clear H
 go_enter Try.func28, Try.ntmps28
 go_wp2
 go_loopg [4] k (fun kq v4 w' => ∃ (x4_1 : Int), v4 = .int .i64 x4_1 ∧ Aside0 (spec_l13Bulged.l0 kq l0 (l0.length : Int) x4_1 = some r) ∧ Aside0 (kq ≤ k) ∧ Aside0 (Below w.heap.size w w'))
 case atStart => exact ⟨(0), (zF), H', ⟨Nat.le_refl _⟩, ⟨zB HB.out⟩⟩
 case round =>
  clear H'; obtain ⟨x4_1, rfl, HA, HK1, HB⟩ := hrel
  cases gk with
  | zero => exact absurd HA.out (by simp [spec_l13Bulged.l0])
  | succ k1 =>
   have H := HA.out; clear HA
   simp only [spec_l13Bulged.l0] at H
   by_cases c2 : x4_1 < (l0.length : Int)
   ·rw [if_pos c2] at H
    have c2b0 := decide_eq_true c2; clear c2
    by_cases c3 : 0 ≤ x4_1
    ·rw [if_pos c3] at H
     have c3b0 := decide_eq_true c3; clear c3
     by_cases c4 : x4_1 < (l0.length : Int)
     ·rw [if_pos c4] at H
      have c4b0 := decide_eq_true c4; clear c4
      by_cases c5 : (l0.length : Int) = 0
      ·rw [if_pos c5] at H
       exact absurd H (by simp)
      ·rw [if_neg c5] at H
       have c5b0 : ((l0.length : Int) == 0) = false := beq_eq_false_iff_ne.mpr c5; have c5b1 : ((l0.length : Int) != 0) = true := bne_iff_ne.mpr c5
       have c5b2 : ¬ (l0 = []) := fun h_ => c5 (by rw [h_]; rfl)
       obtain ⟨ji6, hji6⟩ : ∃ j_ : Int, (Int.tmod (wrap64 (x4_1 + 1)) (l0.length : Int)) = j_ := ⟨_, rfl⟩
       replace H : (if 0 ≤ (ji6) then (if (ji6) < (l0.length : Int) then (if 0 ≤ (Int.tmod (wrap64 (x4_1 + 2)) (l0.length : Int)) then (if (Int.tmod (wrap64 (x4_1 + 2)) (l0.length : Int)) < (l0.length : Int) then ((spec_l13Cross.f ((rd_T49 l0 x4_1).f0) ((rd_T49 l0 x4_1).f1) ((rd_T49 l0 (ji6)).f0) ((rd_T49 l0 (ji6)).f1) ((rd_T49 l0 (Int.tmod (wrap64 (x4_1 + 2)) (l0.length : Int))).f0) ((rd_T49 l0 (Int.tmod (wrap64 (x4_1 + 2)) (l0.length : Int))).f1)).bind fun t160 => (if t160 < 0 then (some false) else (spec_l13Bulged.l0 k1 l0 (l0.length : Int) (wrap64 (x4_1 + 1))))) else (none)) else (none)) else (none)) else (none)) = some r := by first | (rw [hji6] at H; exact H) | (simp only [hji6] at H ⊢; exact H)
       by_cases c7 : 0 ≤ (ji6)
       ·rw [if_pos c7] at H
        have c7b0 := decide_eq_true c7; clear c7
        by_cases c8 : (ji6) < (l0.length : Int)
        ·rw [if_pos c8] at H
         have c8b0 := decide_eq_true c8; clear c8; obtain ⟨ji9, hji9⟩ : ∃ j_ : Int, (Int.tmod (wrap64 (x4_1 + 2)) (l0.length : Int)) = j_ := ⟨_, rfl⟩
         replace H : (if 0 ≤ (ji9) then (if (ji9) < (l0.length : Int) then ((spec_l13Cross.f ((rd_T49 l0 x4_1).f0) ((rd_T49 l0 x4_1).f1) ((rd_T49 l0 (ji6)).f0) ((rd_T49 l0 (ji6)).f1) ((rd_T49 l0 (ji9)).f0) ((rd_T49 l0 (ji9)).f1)).bind fun t160 => (if t160 < 0 then (some false) else (spec_l13Bulged.l0 k1 l0 (l0.length : Int) (wrap64 (x4_1 + 1))))) else (none)) else (none)) = some r := by first | (rw [hji9] at H; exact H) | (simp only [hji9] at H ⊢; exact H)
         by_cases c10 : 0 ≤ (ji9)
         ·rw [if_pos c10] at H
          have c10b0 := decide_eq_true c10; clear c10
          by_cases c11 : (ji9) < (l0.length : Int)
          ·rw [if_pos c11] at H
           have c11b0 := decide_eq_true c11; clear c11; replace H := zob H; obtain ⟨t160, A12, H⟩ := H
           by_cases c13 : t160 < 0
           ·rw [if_pos c13] at H
            have c13b0 := decide_eq_true c13; clear c13; obtain rfl := Option.some.inj H
            try go_wp2
            have n0_ := zQ (below_drew1 HB.out); clear HB; have HB := n0_; clear n0_; have p157 : 0 ≤ (x4_1 : Int) := zD; have q157 : x4_1 < (l0.length : Int) := zD; obtain ⟨ad157, e157, hx157_0, hx157_1⟩ := at_T49 HR0.out x4_1 p157 q157; have hw157_1 := hx157_1; have hw157_0 := hx157_0
            cases e157
            replace hx157_0 := zw HB.out hx157_0; replace hx157_1 := zw HB.out hx157_1; replace p157 := eq_true p157; replace q157 := eq_true q157; have p158 : 0 ≤ ((ji6) : Int) := zD; have q158 : (ji6) < (l0.length : Int) := zD; obtain ⟨ad158, e158, hx158_0, hx158_1⟩ := at_T49 HR0.out (ji6) p158 q158; have hw158_1 := hx158_1; have hw158_0 := hx158_0; obtain rfl : ad157 = ad158 := (by injection e158); replace hx158_0 := zw HB.out hx158_0; replace hx158_1 := zw HB.out hx158_1; replace p158 := eq_true p158; replace q158 := eq_true q158; have p159 : 0 ≤ ((ji9) : Int) := zD; have q159 : (ji9) < (l0.length : Int) := zD; obtain ⟨ad159, e159, hx159_0, hx159_1⟩ := at_T49 HR0.out (ji9) p159 q159; have hw159_1 := hx159_1; have hw159_0 := hx159_0; obtain rfl : ad157 = ad159 := (by injection e159); replace hx159_0 := zw HB.out hx159_0; replace hx159_1 := zw HB.out hx159_1; replace p159 := eq_true p159; replace q159 := eq_true q159
            refine zs (fun w' => w'.cell? (ad157.add ((x4_1).toNat * 2)) = some (.int .i64 ((rd_T49 l0 x4_1).f0)) ∧ w'.cell? ⟨(ad157.add ((x4_1).toNat * 2)).block, (ad157.add ((x4_1).toNat * 2)).off + 1, none⟩ = some (.int .i64 ((rd_T49 l0 x4_1).f1)) ∧ w'.cell? (ad157.add (((ji6)).toNat * 2)) = some (.int .i64 ((rd_T49 l0 (ji6)).f0)) ∧ w'.cell? ⟨(ad157.add (((ji6)).toNat * 2)).block, (ad157.add (((ji6)).toNat * 2)).off + 1, none⟩ = some (.int .i64 ((rd_T49 l0 (ji6)).f1)) ∧ w'.cell? (ad157.add (((ji9)).toNat * 2)) = some (.int .i64 ((rd_T49 l0 (ji9)).f0)) ∧ w'.cell? ⟨(ad157.add (((ji9)).toNat * 2)).block, (ad157.add (((ji9)).toNat * 2)).off + 1, none⟩ = some (.int .i64 ((rd_T49 l0 (ji9)).f1))) [] 20 ⟨((HB.out.cell (World.block_lt_of_cell? w _ hw157_0)).trans hw157_0), ((HB.out.cell (World.block_lt_of_cell? w _ hw157_1)).trans hw157_1), ((HB.out.cell (World.block_lt_of_cell? w _ hw158_0)).trans hw158_0), ((HB.out.cell (World.block_lt_of_cell? w _ hw158_1)).trans hw158_1), ((HB.out.cell (World.block_lt_of_cell? w _ hw159_0)).trans hw159_0), ((HB.out.cell (World.block_lt_of_cell? w _ hw159_1)).trans hw159_1)⟩ (fun hHeld => ?_); refine with_tabW spec_l13Bulged.tab5 spec_l13Bulged.bits5 (fun HT_ HW_ => ?_)
            generalize wr.drew = w14 at HB hx157_0 hx157_1 hx158_0 hx158_1 hx159_0 hx159_1 hHeld ⊢
            refine zp 0 12 ?_
            refine zp 1 13 ?_
            refine zp 2 14 ?_
            refine zp 4 16 ?_
            refine zp 5 17 ?_
            refine zp 6 18 ?_
            refine zp 7 19 ?_
            refine zp 8 20 ?_
            refine zp 9 21 ?_
            refine zp 11 23 ?_
            refine zp 12 24 ?_
            refine zp 13 25 ?_
            refine zp 14 26 ?_
            refine zp 15 27 ?_
            refine zp 16 28 ?_
            refine zt 3 15 hHeld ?_
            refine zt 10 22 hHeld ?_
            refine zt 17 29 hHeld ?_
            refine zo 18 (some 30) (fun K hK => ?_)
            refine goes_ Try.func50 (by kernel_rfl) rfl #[.agg #[.int .i64 ((rd_T49 l0 x4_1).f0), .int .i64 ((rd_T49 l0 x4_1).f1)], .agg #[.int .i64 ((rd_T49 l0 (ji6)).f0), .int .i64 ((rd_T49 l0 (ji6)).f1)], .agg #[.int .i64 ((rd_T49 l0 (ji9)).f0), .int .i64 ((rd_T49 l0 (ji9)).f1)]] (by rfl) rfl rfl (by (try simp only [List.map_toArray, List.map_cons, List.map_nil]); first | done | (simp only [hji6, hji9]; rfl) | rfl | (simp only [List.length_drop, List.length_take]; rfl)) ?_
            with_reducible refine (spec_l13Cross.calls ((rd_T49 l0 x4_1).f0) ((rd_T49 l0 x4_1).f1) ((rd_T49 l0 (ji6)).f0) ((rd_T49 l0 (ji6)).f1) ((rd_T49 l0 (ji9)).f0) ((rd_T49 l0 (ji9)).f1) t160 _ A12.out).mono ?_
            rintro e w15 ⟨rfl, hb⟩
            refine ⟨_, rfl, ?_⟩
            have n0_ := zbs HB.out hb; clear HB; have HB := n0_; clear n0_
            (try clear hb)
            (try clear hb2)
            (try clear hk)
            (try clear hi)
            refine hK.out _ _ ⟨((HB.out.cell (World.block_lt_of_cell? w _ hw157_0)).trans hw157_0), ((HB.out.cell (World.block_lt_of_cell? w _ hw157_1)).trans hw157_1), ((HB.out.cell (World.block_lt_of_cell? w _ hw158_0)).trans hw158_0), ((HB.out.cell (World.block_lt_of_cell? w _ hw158_1)).trans hw158_1), ((HB.out.cell (World.block_lt_of_cell? w _ hw159_0)).trans hw159_0), ((HB.out.cell (World.block_lt_of_cell? w _ hw159_1)).trans hw159_1)⟩ (fun hHeld => ?_)
            clear hK K
            refine zn 30 ?_
            refine zp 19 31 ?_
            refine done_ (done_of HT_.out (by kernel_rfl)) ?_
            try go_wp2
            go_ret
            exact ⟨by first | rfl | (simp [errW_none, errW_some] <;> rfl) | (simp only [← hji6, ← hji9]; first | rfl | (simp [errW_none, errW_some] <;> rfl)) | (simp [*, errW_none, errW_some] <;> rfl), zB HB.out⟩
           ·rw [if_neg c13] at H
            have c13b0 := decide_eq_false c13; clear c13; have H' := zQ H; clear H
            try go_wp2
            have n0_ := zQ (below_drew1 HB.out); clear HB; have HB := n0_; clear n0_; have p157 : 0 ≤ (x4_1 : Int) := zD; have q157 : x4_1 < (l0.length : Int) := zD; obtain ⟨ad157, e157, hx157_0, hx157_1⟩ := at_T49 HR0.out x4_1 p157 q157; have hw157_1 := hx157_1; have hw157_0 := hx157_0
            cases e157
            replace hx157_0 := zw HB.out hx157_0; replace hx157_1 := zw HB.out hx157_1; replace p157 := eq_true p157; replace q157 := eq_true q157; have p158 : 0 ≤ ((ji6) : Int) := zD; have q158 : (ji6) < (l0.length : Int) := zD; obtain ⟨ad158, e158, hx158_0, hx158_1⟩ := at_T49 HR0.out (ji6) p158 q158; have hw158_1 := hx158_1; have hw158_0 := hx158_0; obtain rfl : ad157 = ad158 := (by injection e158); replace hx158_0 := zw HB.out hx158_0; replace hx158_1 := zw HB.out hx158_1; replace p158 := eq_true p158; replace q158 := eq_true q158; have p159 : 0 ≤ ((ji9) : Int) := zD; have q159 : (ji9) < (l0.length : Int) := zD; obtain ⟨ad159, e159, hx159_0, hx159_1⟩ := at_T49 HR0.out (ji9) p159 q159; have hw159_1 := hx159_1; have hw159_0 := hx159_0; obtain rfl : ad157 = ad159 := (by injection e159); replace hx159_0 := zw HB.out hx159_0; replace hx159_1 := zw HB.out hx159_1; replace p159 := eq_true p159; replace q159 := eq_true q159
            refine zs (fun w' => w'.cell? (ad157.add ((x4_1).toNat * 2)) = some (.int .i64 ((rd_T49 l0 x4_1).f0)) ∧ w'.cell? ⟨(ad157.add ((x4_1).toNat * 2)).block, (ad157.add ((x4_1).toNat * 2)).off + 1, none⟩ = some (.int .i64 ((rd_T49 l0 x4_1).f1)) ∧ w'.cell? (ad157.add (((ji6)).toNat * 2)) = some (.int .i64 ((rd_T49 l0 (ji6)).f0)) ∧ w'.cell? ⟨(ad157.add (((ji6)).toNat * 2)).block, (ad157.add (((ji6)).toNat * 2)).off + 1, none⟩ = some (.int .i64 ((rd_T49 l0 (ji6)).f1)) ∧ w'.cell? (ad157.add (((ji9)).toNat * 2)) = some (.int .i64 ((rd_T49 l0 (ji9)).f0)) ∧ w'.cell? ⟨(ad157.add (((ji9)).toNat * 2)).block, (ad157.add (((ji9)).toNat * 2)).off + 1, none⟩ = some (.int .i64 ((rd_T49 l0 (ji9)).f1))) [] 20 ⟨((HB.out.cell (World.block_lt_of_cell? w _ hw157_0)).trans hw157_0), ((HB.out.cell (World.block_lt_of_cell? w _ hw157_1)).trans hw157_1), ((HB.out.cell (World.block_lt_of_cell? w _ hw158_0)).trans hw158_0), ((HB.out.cell (World.block_lt_of_cell? w _ hw158_1)).trans hw158_1), ((HB.out.cell (World.block_lt_of_cell? w _ hw159_0)).trans hw159_0), ((HB.out.cell (World.block_lt_of_cell? w _ hw159_1)).trans hw159_1)⟩ (fun hHeld => ?_); refine with_tabW spec_l13Bulged.tab5 spec_l13Bulged.bits5 (fun HT_ HW_ => ?_)
            generalize wr.drew = w16 at HB hx157_0 hx157_1 hx158_0 hx158_1 hx159_0 hx159_1 hHeld ⊢
            refine zp 0 12 ?_
            refine zp 1 13 ?_
            refine zp 2 14 ?_
            refine zp 4 16 ?_
            refine zp 5 17 ?_
            refine zp 6 18 ?_
            refine zp 7 19 ?_
            refine zp 8 20 ?_
            refine zp 9 21 ?_
            refine zp 11 23 ?_
            refine zp 12 24 ?_
            refine zp 13 25 ?_
            refine zp 14 26 ?_
            refine zp 15 27 ?_
            refine zp 16 28 ?_
            refine zt 3 15 hHeld ?_
            refine zt 10 22 hHeld ?_
            refine zt 17 29 hHeld ?_
            refine zo 18 (some 30) (fun K hK => ?_)
            refine goes_ Try.func50 (by kernel_rfl) rfl #[.agg #[.int .i64 ((rd_T49 l0 x4_1).f0), .int .i64 ((rd_T49 l0 x4_1).f1)], .agg #[.int .i64 ((rd_T49 l0 (ji6)).f0), .int .i64 ((rd_T49 l0 (ji6)).f1)], .agg #[.int .i64 ((rd_T49 l0 (ji9)).f0), .int .i64 ((rd_T49 l0 (ji9)).f1)]] (by rfl) rfl rfl (by (try simp only [List.map_toArray, List.map_cons, List.map_nil]); first | done | (simp only [hji6, hji9]; rfl) | rfl | (simp only [List.length_drop, List.length_take]; rfl)) ?_
            with_reducible refine (spec_l13Cross.calls ((rd_T49 l0 x4_1).f0) ((rd_T49 l0 x4_1).f1) ((rd_T49 l0 (ji6)).f0) ((rd_T49 l0 (ji6)).f1) ((rd_T49 l0 (ji9)).f0) ((rd_T49 l0 (ji9)).f1) t160 _ A12.out).mono ?_
            rintro e w17 ⟨rfl, hb⟩
            refine ⟨_, rfl, ?_⟩
            have n0_ := zbs HB.out hb; clear HB; have HB := n0_; clear n0_
            (try clear hb)
            (try clear hb2)
            (try clear hk)
            (try clear hi)
            refine hK.out _ _ ⟨((HB.out.cell (World.block_lt_of_cell? w _ hw157_0)).trans hw157_0), ((HB.out.cell (World.block_lt_of_cell? w _ hw157_1)).trans hw157_1), ((HB.out.cell (World.block_lt_of_cell? w _ hw158_0)).trans hw158_0), ((HB.out.cell (World.block_lt_of_cell? w _ hw158_1)).trans hw158_1), ((HB.out.cell (World.block_lt_of_cell? w _ hw159_0)).trans hw159_0), ((HB.out.cell (World.block_lt_of_cell? w _ hw159_1)).trans hw159_1)⟩ (fun hHeld => ?_)
            clear hK K
            refine zn 30 ?_
            refine zp 19 31 ?_
            refine done_ (done_of HT_.out (by kernel_rfl)) ?_
            try go_wp2
            go_roundg k1
            case measure => have := HK1.out; omega
            case rel => exact ⟨(wrap64 (x4_1 + 1)), (zF), H', ⟨by have := HK1.out; omega⟩, ⟨zB HB.out⟩⟩
          ·rw [if_neg c11] at H
           exact absurd H (by simp)
         ·rw [if_neg c10] at H
          exact absurd H (by simp)
        ·rw [if_neg c8] at H
         exact absurd H (by simp)
       ·rw [if_neg c7] at H
        exact absurd H (by simp)
     ·rw [if_neg c4] at H
      exact absurd H (by simp)
    ·rw [if_neg c3] at H
     exact absurd H (by simp)
   ·rw [if_neg c2] at H
    have c2b0 := decide_eq_false c2; clear c2; obtain rfl := Option.some.inj H
    go_wp2
    go_ret
    exact ⟨zE, zB HB.out⟩

def spec_l00Gcd.l0 : Nat → Int → Int → Option (Int)
 | 0, _, _ => none
 | k + 1, x0, x1 => if x1 = 0 then (some x0) else (spec_l00Gcd.l0 k x1 (Int.tmod x0 x1))
def spec_l00Gcd.f (k : Nat) (a0 : Int) (a1 : Int) : Option (Int) := spec_l00Gcd.l0 k a0 a1
theorem spec_l00Gcd.calls (k : Nat) (a0 : Int) (a1 : Int) (r : Int) (w : World) (h : spec_l00Gcd.f k a0 a1 = some r) :
  Calls Try.prog 69 #[.int .i64 a0, .int .i64 a1] w fun e w' => e = .returned (.int .i64 r) ∧ Drawn0 w w' := by
 have H : (spec_l00Gcd.l0 k a0 a1) = some r := h
 clear h
 have H' := zQ H
 clear H
 go_enter Try.func69, Try.ntmps69
 go_wp2
 go_loopg [0, 1] k (fun kq v0 v1 w' => ∃ (x0_1 : Int) (x1_1 : Int), v0 = .int .i64 x0_1 ∧ v1 = .int .i64 x1_1 ∧ Aside0 (spec_l00Gcd.l0 kq x0_1 x1_1 = some r) ∧ Aside0 (kq ≤ k) ∧ Drawn0 w w')
 case atStart => exact ⟨(a0), (a1), (zF), (zF), H', ⟨Nat.le_refl _⟩, by repeat (first | exact Drawn0.refl _ | apply Drawn0.step)⟩
 case round =>
  clear H'; (try clear p2); obtain ⟨x0_1, x1_1, rfl, rfl, HA, HK1, ⟨m1, rfl⟩⟩ := hrel
  cases gk with
  | zero => exact absurd HA.out (by simp [spec_l00Gcd.l0])
  | succ k1 =>
   have H := HA.out; clear HA
   simp only [spec_l00Gcd.l0] at H
   by_cases c3 : x1_1 = 0
   ·rw [if_pos c3] at H
    have c3b0 : (x1_1 == 0) = true := beq_iff_eq.mpr c3; have c3b1 : (x1_1 != 0) = false := bne_eq_false_iff_eq.mpr c3; clear c3; obtain rfl := Option.some.inj H
    go_wp2
    go_ret
    exact ⟨zF, by repeat (first | exact Drawn0.refl _ | apply Drawn0.step)⟩
   ·rw [if_neg c3] at H
    have c3b0 : (x1_1 == 0) = false := beq_eq_false_iff_ne.mpr c3; have c3b1 : (x1_1 != 0) = true := bne_iff_ne.mpr c3; have H' := zQ H; clear H
    go_wp2
    go_roundg k1
    case measure => have := HK1.out; omega
    case rel => exact ⟨(x1_1), (Int.tmod x0_1 x1_1), (zF), (zF), H', ⟨by have := HK1.out; omega⟩, by repeat (first | exact Drawn0.refl _ | apply Drawn0.step)⟩

def spec_l00Size.f (a0 : Int) : Option (Int) := if a0 < 0 then (some (wrap64 (-a0))) else (some a0)
theorem spec_l00Size.calls (a0 : Int) (r : Int) (w : World) (h : spec_l00Size.f a0 = some r) :
  Calls Try.prog 77 #[.int .i64 a0] w fun e w' => e = .returned (.int .i64 r) ∧ Drawn0 w w' := by
 have H := h; unfold spec_l00Size.f at H
 clear h
 by_cases c2 : a0 < 0
 ·rw [if_pos c2] at H
  have c2b0 := decide_eq_true c2; clear c2; obtain rfl := Option.some.inj H
  go_enter Try.func77, Try.ntmps77
  go_wp2
  go_ret
  exact ⟨zF, by repeat (first | exact Drawn0.refl _ | apply Drawn0.step)⟩
 ·rw [if_neg c2] at H
  have c2b0 := decide_eq_false c2; clear c2; obtain rfl := Option.some.inj H
  go_enter Try.func77, Try.ntmps77
  go_wp2
  go_ret
  exact ⟨zF, by repeat (first | exact Drawn0.refl _ | apply Drawn0.step)⟩

end
end Go.Proofs.Ytcomncokgkeniaa.PSailw

