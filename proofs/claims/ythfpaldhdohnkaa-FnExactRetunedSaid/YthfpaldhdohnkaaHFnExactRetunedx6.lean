/- The walks of the functions that the law reaches: each computes what its Lean function says. No condition beyond each contract's own. -/
import Derived.Test.YthfpaldhdohnkaaHFnExactRetunedx0
import Derived.Test.YthfpaldhdohnkaaHFnExactRetunedx5
namespace Go.Proofs.Ythfpaldhdohnkaa.PFnExactRetuned
open Go.RowKit Go.Proofs.YthfpaldhdohnkaaW.PrintWords Go.Proofs.YthfpaldhdohnkaaW.PrintLast Go.Proofs.YthfpaldhdohnkaaW.PrintMore
attribute [local go_sem] max2_int min2_int max_two min_two max_three min_three max_four min_four   -- for this text's walks alone
set_option linter.unusedVariables false
set_option linter.unusedSimpArgs false

/-! ### spec_l12After: function 68 -/
mutual
def spec_l12After.l0 : Nat → List Int → List Int → Int → List Int → List (List Int) → Option (List Int)
 | 0, _, _, _, _, _ => none
 | k + 1, x1, x5, x6, x1000, x1001 => if x6 < (x5.length : Int) then (spec_l12After.l1 k x1 x5 x6 0 x1000 x1001) else (some x5)
def spec_l12After.l1 : Nat → List Int → List Int → Int → Int → List Int → List (List Int) → Option (List Int)
 | 0, _, _, _, _, _, _ => none
 | k + 1, x1, x5, x6, x7, x1000, x1001 => if x7 < (x1.length : Int) then (if 0 ≤ x6 then (if x6 < (x5.length : Int) then (if x6 < (x1001.length : Int) then (if 0 ≤ x7 then (if x7 < ((rd_L1 x1001 x6).length : Int) then (spec_l12After.l1 k x1 (x5.set (x6 : Int).toNat (wrap64 ((rd x5 x6) + (wrap64 ((rd (rd_L1 x1001 x6) x7) * (rd x1 x7)))))) x6 (wrap64 (x7 + 1)) x1000 x1001) else (none)) else (none)) else (none)) else (none)) else (none)) else (spec_l12After.l0 k x1 x5 (wrap64 (x6 + 1)) x1000 x1001)
end
def spec_l12After.f (k : Nat) (l0_0 : List Int) (l0_1 : List (List Int)) (l1 : List Int) : Option (List Int) := (spec_l00Own.f l0_0).bind fun t198 => (spec_l12After.l0 k l1 t198 0 l0_0 l0_1)
theorem spec_l12After.mono_l : ∀ k, (∀ y0 y1 y2 y3 y4, LeO (spec_l12After.l0 k y0 y1 y2 y3 y4) (spec_l12After.l0 (k + 1) y0 y1 y2 y3 y4)) ∧ (∀ y0 y1 y2 y3 y4 y5, LeO (spec_l12After.l1 k y0 y1 y2 y3 y4 y5) (spec_l12After.l1 (k + 1) y0 y1 y2 y3 y4 y5))
 | 0 => ⟨fun _ _ _ _ _ r h => by simp [spec_l12After.l0] at h, fun _ _ _ _ _ _ r h => by simp [spec_l12After.l1] at h⟩
 | k + 1 => by
  obtain ⟨ih0, ih1⟩ := spec_l12After.mono_l k
  refine ⟨?_, ?_⟩
  ·intro y0 y1 y2 y3 y4
   unfold spec_l12After.l0
   (with_reducible repeat' first | apply ih0 | apply ih1 | apply LeO.refl | apply LeO.none | refine LeO.ite ?_ ?_ | refine LeO.bind ?_ (fun _ => ?_))
   repeat' first | apply ih0 | apply ih1 | apply LeO.none | refine LeO.ite ?_ ?_ | refine LeO.bind ?_ (fun _ => ?_)
  ·intro y0 y1 y2 y3 y4 y5
   unfold spec_l12After.l1
   (with_reducible repeat' first | apply ih0 | apply ih1 | apply LeO.refl | apply LeO.none | refine LeO.ite ?_ ?_ | refine LeO.bind ?_ (fun _ => ?_))
   repeat' first | apply ih0 | apply ih1 | apply LeO.none | refine LeO.ite ?_ ?_ | refine LeO.bind ?_ (fun _ => ?_)
theorem spec_l12After.mono : ∀ a0 a1 a2 k, LeO (spec_l12After.f k a0 a1 a2) (spec_l12After.f (k + 1) a0 a1 a2) := by
 intro a0 a1 a2 k
 obtain ⟨ih0, ih1⟩ := spec_l12After.mono_l k
 unfold spec_l12After.f
 (with_reducible repeat' first | apply ih0 | apply ih1 | apply LeO.refl | apply LeO.none | refine LeO.ite ?_ ?_ | refine LeO.bind ?_ (fun _ => ?_))
 repeat' first | apply ih0 | apply ih1 | apply LeO.none | refine LeO.ite ?_ ?_ | refine LeO.bind ?_ (fun _ => ?_)
def spec_l12After.T8 : Bool × List (List Nat × List Nat) := (true, [([], []), ([], []), ([0, 1], [0, 1]), ([2], [2]), ([], []), ([4], [4]), ([5], [5]), ([6], [6]), ([], []), ([7, 8], [7, 8]), ([9], [9]), ([], []), ([10, 11], [10, 11]), ([12], [12]), ([], []), ([], []), ([14, 15], [14, 15]), ([16], [16]), ([13, 17], [13, 17]), ([3, 18], [3, 18]), ([0, 1, 0, 1, 2, 3, 4, 5, 6, 7, 8, 9, 10, 11, 12, 13, 14, 15, 16, 17, 18, 19], [0, 1]), ([20, 19, 0, 1, 2, 3, 4, 5, 6, 7, 8, 9, 10, 11, 12, 13, 14, 15, 16, 17, 18, 19], [19, 20])])
def spec_l12After.B8 : List Nat := [0, 0, 3, 7, 0, 16, 48, 112, 0, 496, 1008, 0, 4080, 8176, 0, 0, 49152, 114688, 262128, 524287, 1048575, 2097151]
theorem spec_l12After.tab8 : rtab .any (opsOf Try.f68 8) = spec_l12After.T8 := by kernel_rfl
theorem spec_l12After.bits8 : waitsOk spec_l12After.T8.2 spec_l12After.B8 = true := by kernel_rfl
set_option maxHeartbeats 8000000 in
set_option maxRecDepth 100000 in
theorem spec_l12After.calls (k : Nat) (g0 : Nat) (A0_0 : Option Addr) (c0_0 : Nat) (l0_0 : List Int) (A0_1 : Option Addr) (c0_1 : Nat) (l0_1 : List (List Int)) (A1 : Option Addr) (c1 : Nat) (l1 : List Int) (r : List Int) (w : World) (hbk0 : w.heap[g0]? = some (.cells #[.slice A0_0 l0_0.length c0_0, .slice A0_1 l0_1.length c0_1] 27 (0, 0))) (hr0_0 : Kd.C (Kd.int .i64) w A0_0 l0_0.length l0_0) (hc0_0 : l0_0.length ≤ c0_0) (hr0_1 : Kd.C (Kd.slice 2 (Kd.int .i64)) w A0_1 l0_1.length l0_1) (hc0_1 : l0_1.length ≤ c0_1) (hr1 : Kd.C (Kd.int .i64) w A1 l1.length l1) (hc1 : l1.length ≤ c1) (h : spec_l12After.f k l0_0 l0_1 l1 = some r) :
  Calls Try.prog 68 #[.pointer (some ⟨g0, 0, none⟩), .slice A1 l1.length c1] w fun e w' => ∃ v0_ : Value, e = .returned (v0_) ∧ Kd.R (Kd.int .i64) 2 w' w.heap.size (fun _ => True) v0_ r ∧ Below w.heap.size w w' := by
 have HR0_0 := zQ hr0_0
 have HC0_0 := zQ hc0_0
 clear hr0_0 hc0_0
 have HR0_1 := zQ hr0_1
 have HC0_1 := zQ hc0_1
 clear hr0_1 hc0_1
 have HR1 := zQ hr1
 have HC1 := zQ hc1
 clear hr1 hc1
 have BK0 := zQ hbk0
 clear hbk0
 have HB := zQ (Below.refl w.heap.size w)
 have H : ((spec_l00Own.f l0_0).bind fun t198 => (spec_l12After.l0 k l1 t198 0 l0_0 l0_1)) = some r := h
 clear h
 replace H := Option.bind_eq_some_iff.mp H
 obtain ⟨t198, A30, H⟩ := H
 replace H : (spec_l12After.l0 k l1 t198 0 l0_0 l0_1) = some r := H
 have A3 := zQ A30
 clear A30
 have H' := zQ H
 clear H
 have hcz4_0 := zc0 BK0.out
 have hcz4_1 := zc1 BK0.out
 have hfz4_0 := zfz BK0.out 0
 have hfz4_1 := zfz BK0.out 1
 go_enter Try.func68, Try.ntmps68
 go_wp2_with (first | ((with_reducible refine zgc 77 ?_); refine zgo (some 12) Try.func77 #[.slice A0_0 l0_0.length c0_0] ?_; (with_reducible refine (spec_l00Own.calls _ _ l0_0 t198 _ ?side1 HC0_0.out A3.out).mono ?_); (case side1 => repeat (first | exact HR0_0.out | (with_reducible refine Kd.C_alloc ?_ _) | (with_reducible refine Kd.C_drewN ?_ _) | (with_reducible refine Kd.C_drew ?_))); rintro e w5 ⟨v199, rfl, ho0, hb⟩; refine ⟨_, rfl, ?_⟩; have HO200 := zQ (Kd.R_lower ho0 (below_size (zB HB.out))); replace BK0 := zbl BK0.out hb; replace HB := zbs HB.out hb; (try clear hb); (try clear ho0)))
 go_loopg [6] k (fun kq v6 w' => ∃ (x5_1 : List Int) (x6_1 : Int), v6 = .int .i64 x6_1 ∧ Aside0 (spec_l12After.l0 kq l1 x5_1 x6_1 l0_0 l0_1 = some r) ∧ Aside0 (kq ≤ k) ∧ Aside0 (Kd.R (Kd.int .i64) 2 w' w.heap.size (fun _ => True) v199 x5_1) ∧ Aside0 (w'.heap[g0]? = some (.cells #[(.slice A0_0 l0_0.length c0_0), (.slice A0_1 l0_1.length c0_1)] 27 (0, 0))) ∧ Aside0 (Below w.heap.size w w'))
 case atStart => exact ⟨(t198), (0), (zF), H', ⟨Nat.le_refl _⟩, ⟨zR HO200.out⟩, ⟨zb BK0.out⟩, ⟨zB HB.out⟩⟩
 case round =>
  clear H'; (try clear c1); (try clear p2); (try clear hcz4_0); (try clear hcz4_1); (try clear hfz4_0); (try clear hfz4_1); obtain ⟨x5_1, x6_1, rfl, HA, HK1, HO_5, BK0, HB⟩ := hrel
  cases gk with
  | zero => exact absurd HA.out (by simp [spec_l12After.l0])
  | succ k1 =>
   have H := HA.out; clear HA
   simp only [spec_l12After.l0] at H
   by_cases c6 : x6_1 < (x5_1.length : Int)
   ·rw [if_pos c6] at H
    have c6b0 : decide (x6_1 < (x5_1.length : Int)) = true := decide_eq_true c6; clear c6; have H' := zQ H; clear H; obtain ⟨Ao7, co7, eo7⟩ := Kd.R_slice HO_5.out; subst eo7
    go_wp2
    go_loopg [7] k1 (fun kq v7 w' => ∃ (x5_2 : List Int) (x7_2 : Int), v7 = .int .i64 x7_2 ∧ Aside0 (spec_l12After.l1 kq l1 x5_2 x6_1 x7_2 l0_0 l0_1 = some r) ∧ Aside0 (kq ≤ k1) ∧ Aside0 (Kd.R (Kd.int .i64) 2 w' w.heap.size (fun _ => True) (.slice Ao7 x5_1.length co7) x5_2) ∧ Aside0 (w'.heap[g0]? = some (.cells #[(.slice A0_0 l0_0.length c0_0), (.slice A0_1 l0_1.length c0_1)] 27 (0, 0))) ∧ Aside0 (Below w.heap.size w w'))
    case atStart => exact ⟨(x5_1), (0), (zF), H', ⟨Nat.le_refl _⟩, ⟨zR HO_5.out⟩, ⟨zb BK0.out⟩, ⟨zB HB.out⟩⟩
    case round =>
     clear H'; (try clear c1); (try clear p2); (try clear c6); (try clear c6b0); (try clear c7); (try clear hcz4_0); (try clear hcz4_1); (try clear hfz4_0); (try clear hfz4_1); (try clear p2); obtain ⟨x5_2, x7_2, rfl, HA, HK2, HO_5, BK0, HB⟩ := hrel; have hl5_2 := (Kd.R_reads' HO_5.out).1; rw [hl5_2] at HO_5
     (try simp only [hl5_2])
     (try simp only [hl5_2] at BK0)
     cases gk with
     | zero => exact absurd HA.out (by simp [spec_l12After.l1])
     | succ k2 =>
      have H := HA.out; clear HA
      simp only [spec_l12After.l1] at H
      by_cases c8 : x7_2 < (l1.length : Int)
      ·rw [if_pos c8] at H
       have c8b0 : decide (x7_2 < (l1.length : Int)) = true := decide_eq_true c8; clear c8
       by_cases c9 : 0 ≤ x6_1
       ·rw [if_pos c9] at H
        have c9b0 : decide (0 ≤ x6_1) = true := decide_eq_true c9; clear c9
        by_cases c10 : x6_1 < (x5_2.length : Int)
        ·rw [if_pos c10] at H
         have c10b0 : decide (x6_1 < (x5_2.length : Int)) = true := decide_eq_true c10; clear c10
         by_cases c11 : x6_1 < (l0_1.length : Int)
         ·rw [if_pos c11] at H
          have c11b0 : decide (x6_1 < (l0_1.length : Int)) = true := decide_eq_true c11; clear c11
          by_cases c12 : 0 ≤ x7_2
          ·rw [if_pos c12] at H
           have c12b0 : decide (0 ≤ x7_2) = true := decide_eq_true c12; clear c12
           by_cases c13 : x7_2 < ((rd_L1 l0_1 x6_1).length : Int)
           ·rw [if_pos c13] at H
            have c13b0 : decide (x7_2 < ((rd_L1 l0_1 x6_1).length : Int)) = true := decide_eq_true c13; clear c13; obtain ⟨y205, hy205⟩ : ∃ y_ : List Int, y_ = (x5_2.set (x6_1 : Int).toNat (wrap64 ((rd x5_2 x6_1) + (wrap64 ((rd (rd_L1 l0_1 x6_1) x7_2) * (rd l1 x7_2)))))) := ⟨_, rfl⟩; replace H : (spec_l12After.l1 k2 l1 y205 x6_1 (wrap64 (x7_2 + 1)) l0_0 l0_1) = some r := zh H; have Ny205 := zQ hy205; clear hy205; have H' := zQ H; clear H
            try go_wp2
            have n0_ := zQ (Kd.R_drew HO_5.out); have n1_ := zQ (blk_drew BK0.out); have n2_ := zQ (below_drew1 HB.out); clear HO_5; clear BK0; clear HB; have HO_5 := n0_; have BK0 := n1_; have HB := n2_; clear n0_ n1_ n2_; have p201 : 0 ≤ (x6_1 : Int) := of_decide_eq_true zA; have q201 : x6_1 < (x5_2.length : Int) := of_decide_eq_true zA; obtain ⟨ad201, e201, hx201_0⟩ := Kd.at_int (Kd.R_reads' HO_5.out).2.2 x6_1 p201 q201
            cases e201
            replace p201 := eq_true p201; replace q201 := eq_true q201; have p202 : 0 ≤ (x6_1 : Int) := of_decide_eq_true zA; have q202 : x6_1 < (l0_1.length : Int) := of_decide_eq_true zA; obtain ⟨ad202, A202_0, c202_0, e202, hx202_0, hl202_0, hi202_0⟩ := at_L1 HR0_1.out x6_1 p202 q202; have hw202_0 := hx202_0
            cases e202
            replace hx202_0 := zw HB.out hx202_0; have HR202_0 := zQ hi202_0; have HC202_0 := zQ hl202_0; clear hi202_0 hl202_0; replace p202 := eq_true p202; replace q202 := eq_true q202; have p203 : 0 ≤ (x7_2 : Int) := of_decide_eq_true zA; have q203 : x7_2 < ((rd_L1 l0_1 x6_1).length : Int) := of_decide_eq_true zA; obtain ⟨ad203, e203, hx203_0⟩ := Kd.at_int HR202_0.out x7_2 p203 q203; have hw203_0 := hx203_0
            cases e203
            replace hx203_0 := zw HB.out hx203_0; replace p203 := eq_true p203; replace q203 := eq_true q203; have p204 : 0 ≤ (x7_2 : Int) := of_decide_eq_true zA; have q204 : x7_2 < (l1.length : Int) := of_decide_eq_true zA; obtain ⟨ad204, e204, hx204_0⟩ := Kd.at_int HR1.out x7_2 p204 q204; have hw204_0 := hx204_0
            cases e204
            replace hx204_0 := zw HB.out hx204_0; replace p204 := eq_true p204; replace q204 := eq_true q204; have p14 : 0 ≤ (x6_1 : Int) := of_decide_eq_true zA; have q14 : (x6_1 : Int) < ((x5_2.length : Int) : Int) := of_decide_eq_true zA; obtain ⟨go14, co14, eo14, gb14, gl14, cl14, HG14⟩ := Kd.R_form HO_5.out (by omega)
            (first | cases eo14 | (injection eo14 with ea_ en_ ec_; (first | subst ea_ | (injection ea_ with ea_; subst ea_)); subst ec_; clear en_))
            have GB14 := zQ gb14; have GG14 := zQ HG14; clear gb14 gl14 HG14
            (first | simp only [add_plain] at hx201_0 | skip)
            obtain ⟨hx14_0, hf14_0⟩ := Kd.R_celln 0 HO_5.out (x6_1 : Int) p14 q14; replace p14 := eq_true p14; replace q14 := eq_true q14; have HP16 := Kd.R_putn HO_5.out (x6_1 : Int) (wrap64 ((rd x5_2 x6_1) + (wrap64 ((rd (rd_L1 l0_1 x6_1) x7_2) * (rd l1 x7_2))))); rw [← Ny205.out] at HP16; have HQ16 := zQ HP16; clear HP16
            refine zs (fun w' => w'.cell? ⟨g0, 0, none⟩ = some (.slice A0_0 l0_0.length c0_0) ∧ w'.cell? ⟨g0, 1, none⟩ = some (.slice (some ad202) l0_1.length c0_1) ∧ w'.cell? ⟨go14, (x6_1).toNat, none⟩ = some (.int .i64 (rd x5_2 x6_1)) ∧ w'.cell? (ad202.add (x6_1).toNat) = some (.slice (some ad203) (rd_L1 l0_1 x6_1).length c202_0) ∧ w'.cell? (ad203.add (x7_2).toNat) = some (.int .i64 (rd (rd_L1 l0_1 x6_1) x7_2)) ∧ w'.cell? (ad204.add (x7_2).toNat) = some (.int .i64 (rd l1 x7_2))) [21] 22 ⟨(blk_cell BK0.out 0).trans rfl, (blk_cell BK0.out 1).trans rfl, hx201_0, ((HB.out.cell (World.block_lt_of_cell? w _ hw202_0)).trans hw202_0), ((HB.out.cell (World.block_lt_of_cell? w _ hw203_0)).trans hw203_0), ((HB.out.cell (World.block_lt_of_cell? w _ hw204_0)).trans hw204_0)⟩ (fun hHeld => ?_); refine with_tabW spec_l12After.tab8 spec_l12After.bits8 (fun HT_ HW_ => ?_)
            generalize wr.drew = w15 at HO_5 BK0 HB GG14 HQ16 HR202_0 hf14_0 hx14_0 hx201_0 hx202_0 hx203_0 hx204_0 hHeld ⊢
            refine zp 0 25 ?_
            refine zp 1 26 ?_
            refine zp 2 27 ?_
            refine zp 4 29 ?_
            refine zp 5 30 ?_
            refine zp 6 31 ?_
            refine zp 8 33 ?_
            refine zp 11 36 ?_
            refine zp 14 39 ?_
            refine zp 15 40 ?_
            refine zp 16 41 ?_
            refine zt 3 28 hHeld ?_
            refine zt 7 32 hHeld ?_
            refine zp 9 34 ?_
            refine zt 10 35 hHeld ?_
            refine zp 12 37 ?_
            refine zt 13 38 hHeld ?_
            refine zt 17 42 hHeld ?_
            refine zp 18 43 ?_
            refine zp 19 44 ?_
            refine zp 20 45 ?_
            refine last_ (i := 21) (N := none) (zm 22 4194303) rfl rfl (one_of HT_.out (by kernel_rfl)) (by decide) (fun K hK => ?_)
            refine skip_ (w1 := ?_) (by rfl) rfl ?_ ?_
            rotate_left
            ·go_simp
             rfl
            refine hK.out _ _ ?_
            clear hK K
            refine done_ (done_of HT_.out (by kernel_rfl)) ?_
            try go_wp2
            (try simp only [← hl5_2])
            go_roundg k2
            case measure => have := HK1.out; have := HK2.out; omega
            case rel => exact ⟨(y205), (wrap64 (x7_2 + 1)), (zF), H', ⟨by have := HK1.out; have := HK2.out; omega⟩, ⟨by (try simp only [hl5_2]); (with_reducible repeat (first | apply Kd.R_alloc | apply Kd.R_drewN | apply Kd.R_drew)); exact HQ16.out⟩, ⟨by (try simp only [hl5_2]); refine zb ?_; refine blk_far ?_ (by have h_ := Kd.R_ne HO_5.out BK0.out (by decide); intro e_; exact h_ (by rw [e_]; rfl)) _; refine zb ?_; exact BK0.out⟩, ⟨zB2 HB.out GB14.out⟩⟩
           ·rw [if_neg c13] at H
            exact absurd H (by simp)
          ·rw [if_neg c12] at H
           exact absurd H (by simp)
         ·rw [if_neg c11] at H
          exact absurd H (by simp)
        ·rw [if_neg c10] at H
         exact absurd H (by simp)
       ·rw [if_neg c9] at H
        exact absurd H (by simp)
      ·rw [if_neg c8] at H
       have c8b0 : decide (x7_2 < (l1.length : Int)) = false := decide_eq_false c8; clear c8; have H' := zQ H; clear H
       go_wp2
       (try simp only [← hl5_2])
       go_roundg k2
       case measure => have := HK1.out; have := HK2.out; omega
       case rel => exact ⟨(x5_2), (wrap64 (x6_1 + 1)), (zF), H', ⟨by have := HK1.out; have := HK2.out; omega⟩, ⟨by (try simp only [hl5_2]); (with_reducible repeat (first | apply Kd.R_alloc | apply Kd.R_drewN | apply Kd.R_drew)); exact HO_5.out⟩, ⟨by (try simp only [hl5_2]); refine zb ?_; exact BK0.out⟩, ⟨zB HB.out⟩⟩
   ·rw [if_neg c6] at H
    have c6b0 : decide (x6_1 < (x5_1.length : Int)) = false := decide_eq_false c6; clear c6; obtain rfl := Option.some.inj H; obtain ⟨Ao17, co17, eo17⟩ := Kd.R_slice HO_5.out; subst eo17
    go_wp2
    go_ret
    exact ⟨_, zE, zR HO_5.out, zB HB.out⟩

/-! ### spec_l12Own: function 71 -/
def spec_l12Own.l0 : Nat → List (List Int) → List (List Int) → Int → Option ((List (List Int)))
 | 0, _, _, _ => none
 | k + 1, x0, x3, x4 => if x4 < (x0.length : Int) then (if 0 ≤ x4 then ((spec_l00Own.f (rd_L1 x0 x4)).bind fun t210 => (if x3.length < 5864062014805 then (spec_l12Own.l0 k x0 (x3 ++ [t210]) (wrap64 (x4 + 1))) else (none))) else (none)) else (some x3)
def spec_l12Own.f (k : Nat) (l0 : List (List Int)) : Option ((List (List Int))) := spec_l12Own.l0 k l0 (([] : List (List Int))) 0
theorem spec_l12Own.mono_l : ∀ k, (∀ y0 y1 y2, LeO (spec_l12Own.l0 k y0 y1 y2) (spec_l12Own.l0 (k + 1) y0 y1 y2))
 | 0 => fun _ _ _ r h => by simp [spec_l12Own.l0] at h
 | k + 1 => by
  have ih0 := spec_l12Own.mono_l k
  ·intro y0 y1 y2
   unfold spec_l12Own.l0
   (with_reducible repeat' first | apply ih0 | apply LeO.refl | apply LeO.none | refine LeO.ite ?_ ?_ | refine LeO.bind ?_ (fun _ => ?_))
   repeat' first | apply ih0 | apply LeO.none | refine LeO.ite ?_ ?_ | refine LeO.bind ?_ (fun _ => ?_)
theorem spec_l12Own.mono : ∀ a0 k, LeO (spec_l12Own.f k a0) (spec_l12Own.f (k + 1) a0) := by
 intro a0 k
 have ih0 := spec_l12Own.mono_l k
 unfold spec_l12Own.f
 (with_reducible repeat' first | apply ih0 | apply LeO.refl | apply LeO.none | refine LeO.ite ?_ ?_ | refine LeO.bind ?_ (fun _ => ?_))
 repeat' first | apply ih0 | apply LeO.none | refine LeO.ite ?_ ?_ | refine LeO.bind ?_ (fun _ => ?_)
set_option maxHeartbeats 8000000 in
set_option maxRecDepth 100000 in
theorem spec_l12Own.calls (k : Nat) (A0 : Option Addr) (c0 : Nat) (l0 : List (List Int)) (r : List (List Int)) (w : World) (hr0 : Kd.C (Kd.slice 2 (Kd.int .i64)) w A0 l0.length l0) (hc0 : l0.length ≤ c0) (h : spec_l12Own.f k l0 = some r) :
  Calls Try.prog 71 #[.slice A0 l0.length c0] w fun e w' => ∃ v0_ : Value, e = .returned (v0_) ∧ Kd.S (Kd.slice 2 (Kd.int .i64)) 24 w' w.heap.size (fun _ => True) v0_ r ∧ Below w.heap.size w w' := by
 have HR0 := zQ hr0
 have HC0 := zQ hc0
 clear hr0 hc0
 have HB := zQ (Below.refl w.heap.size w)
 have H : (spec_l12Own.l0 k l0 (([] : List (List Int))) 0) = some r := h
 clear h
 obtain ⟨y206, hy206⟩ : ∃ y_ : List (List Int), y_ = (([] : List (List Int))) := ⟨_, rfl⟩
 replace H : (spec_l12Own.l0 k l0 y206 0) = some r := zh H
 have Ny206 := zQ hy206
 clear hy206
 have H' := zQ H
 clear H
 go_enter Try.func71, Try.ntmps71
 go_wp2_with (first | ((with_reducible refine zd 5 ?_); refine Kd.S_lit (Kd.slice 2 (Kd.int .i64)) _ 24 ?hg (N := 5) ?hd (xs := ([] : List (List Int))) (inner := []) (ok := fun _ => True) (okp := fun _ => True) ?hr ?hp (fun _ hk => hk) trivial (Below.refl _ _) (Nat.le_refl _) (by simp) ?_; (case hd => rfl); (case hg => rfl); (case hr => first | (go_simp; done) | (go_simp; rfl)); (case hp => exact (Reps.none _ _)); intro v207 w2 ho3 hb hg_ hnew_; clear hg_ hnew_; (first | rw [← Ny206.out] at ho3 | (simp only [Int.reduceToNat] at ho3; rw [← Ny206.out] at ho3)); have HO208 := zQ (Kd.S_lower ho3 (below_size (zB HB.out))); replace HB := zbs HB.out hb; clear hb ho3))
 go_loopg [3, 4] k (fun kq v3 v4 w' => ∃ (x3_1 : List (List Int)) (x4_1 : Int), v4 = .int .i64 x4_1 ∧ Aside0 (spec_l12Own.l0 kq l0 x3_1 x4_1 = some r) ∧ Aside0 (kq ≤ k) ∧ Aside0 (Kd.S (Kd.slice 2 (Kd.int .i64)) 24 w' w.heap.size (fun _ => True) v3 x3_1) ∧ Aside0 (Below w.heap.size w w'))
 case atStart => exact ⟨(y206), (0), (zF), H', ⟨Nat.le_refl _⟩, ⟨zS HO208.out⟩, ⟨zB HB.out⟩⟩
 case round =>
  clear H'; (try clear p2); obtain ⟨x3_1, x4_1, rfl, HA, HK1, HO_3, HB⟩ := hrel
  cases gk with
  | zero => exact absurd HA.out (by simp [spec_l12Own.l0])
  | succ k1 =>
   have H := HA.out; clear HA
   simp only [spec_l12Own.l0] at H
   by_cases c4 : x4_1 < (l0.length : Int)
   ·rw [if_pos c4] at H
    have c4b0 : decide (x4_1 < (l0.length : Int)) = true := decide_eq_true c4; clear c4
    by_cases c5 : 0 ≤ x4_1
    ·rw [if_pos c5] at H
     have c5b0 : decide (0 ≤ x4_1) = true := decide_eq_true c5; clear c5; replace H := Option.bind_eq_some_iff.mp H; obtain ⟨t210, A60, H⟩ := H; replace H : (if x3_1.length < 5864062014805 then (spec_l12Own.l0 k1 l0 (x3_1 ++ [t210]) (wrap64 (x4_1 + 1))) else (none)) = some r := H; have A6 := zQ A60; clear A60
     by_cases c7 : x3_1.length < 5864062014805
     ·rw [if_pos c7] at H
      have LMc7 := zQ c7; clear c7; obtain ⟨y213, hy213⟩ : ∃ y_ : List (List Int), y_ = (x3_1 ++ [t210]) := ⟨_, rfl⟩; replace H : (spec_l12Own.l0 k1 l0 y213 (wrap64 (x4_1 + 1))) = some r := zh H; have Ny213 := zQ hy213; clear hy213; have H' := zQ H; clear H; have p209 : 0 ≤ (x4_1 : Int) := of_decide_eq_true zA; have q209 : x4_1 < (l0.length : Int) := of_decide_eq_true zA; obtain ⟨ad209, A209_0, c209_0, e209, hx209_0, hl209_0, hi209_0⟩ := at_L1 HR0.out x4_1 p209 q209
      cases e209
      replace hx209_0 := zw HB.out hx209_0; have HR209_0 := zQ hi209_0; have HC209_0 := zQ hl209_0; clear hi209_0 hl209_0; replace p209 := eq_true p209; replace q209 := eq_true q209
      go_wp2_with (first | ((with_reducible refine zgc 77 ?_); refine zgo (some 17) Try.func77 #[.slice A209_0 (rd_L1 l0 x4_1).length c209_0] ?_; (with_reducible refine (spec_l00Own.calls _ _ (rd_L1 l0 x4_1) t210 _ (zC HR209_0.out HB.out) HC209_0.out A6.out).mono ?_); rintro e w8 ⟨v211, rfl, ho0, hb⟩; refine ⟨_, rfl, ?_⟩; have HO212 := zQ (Kd.R_lower ho0 (below_size (zB HB.out))); replace HO_3 := zQ (Kd.S_elder' (zS HO_3.out) (Kd.R_base ho0) hb); replace HB := zbs HB.out hb; (try clear hb); (try clear ho0); obtain ⟨Ao10, co10, eo10⟩ := Kd.R_slice HO212.out; subst eo10) | ((with_reducible refine gate_builtin (b := .append) (xs := #[.tmp 12, .tmp 18]) rfl ?_); at_builtin; refine Kd.S_append (Kd.slice 2 (Kd.int .i64)) (w0 := w) w.heap.size rfl (.tmp 12) (.tmp 18) 25 24 (.slice none 0 0) 24 rfl Try.underlying25 info24 rfl (by decide) (by omega) u3 x3_1 t210 [.slice Ao10 t210.length co10] (fun _ => True) (fun k_ => some k_ = (.slice Ao10 t210.length co10 : Value).ownBlock) rfl rfl ?aP (fun k_ hk_ => ((Kd.R_mono (ok' := fun k_ => ((fun _ => True)) k_ ∧ some k_ ≠ (u3 : Value).ownBlock) (Kd.R_apart' (HO212.out) (Kd.S_typed HO_3.out) (by decide)) (fun k_ hk => ⟨trivial, hk.2⟩))).1 k_ hk_.symm) ?aF ?aO ?aB ?aS ?aL ?_; (case aP => exact Kd.M_row (Kd.R_mono (Kd.R_tight rfl (Kd.R_mono (ok' := fun k_ => ((fun _ => True)) k_ ∧ some k_ ≠ (u3 : Value).ownBlock) (Kd.R_apart' (HO212.out) (Kd.S_typed HO_3.out) (by decide)) (fun k_ hk => ⟨trivial, hk.2⟩))) (fun _ h_ => h_))); (case aB => exact (zB HB.out)); (case aF => exact (fun _ _ => trivial)); (case aO => exact (by (with_reducible repeat (first | apply Kd.S_alloc | apply Kd.S_drewN | apply Kd.S_drew)); exact Kd.S_mono HO_3.out (fun k_ hk => ⟨trivial, fun e_ => hk.2 e_⟩))); (case aS => exact (below_size (zB HB.out))); (case aL => have := LMc7.out; omega); intro v214 w9 ho hb hg hat; rw [← Ny213.out] at ho; have HO215 := zQ (ho); replace HB := zQ (hb); clear HO_3 HO212 ho hb hg hat))
      go_roundg k1
      case measure => have := HK1.out; omega
      case rel => exact ⟨(y213), (wrap64 (x4_1 + 1)), (zF), H', ⟨by have := HK1.out; omega⟩, ⟨zS HO215.out⟩, ⟨zB HB.out⟩⟩
     ·rw [if_neg c7] at H
      exact absurd H (by simp)
    ·rw [if_neg c5] at H
     exact absurd H (by simp)
   ·rw [if_neg c4] at H
    have c4b0 : decide (x4_1 < (l0.length : Int)) = false := decide_eq_false c4; clear c4; obtain rfl := Option.some.inj H
    go_wp2
    go_ret
    exact ⟨_, zE, zS HO_3.out, zB HB.out⟩

/-! ### spec_Retuned: function 42 -/
mutual
def spec_Retuned.l0 : Nat → List Int → Int → List Int → List (List Int) → Option (List Int × (List (List Int)) × Int)
 | 0, _, _, _, _ => none
 | k + 1, x7, x8, x217000, x217001 => if x8 < (x7.length : Int) then (if 0 ≤ x8 then (if (rd x7 x8) < 0 then (some (([] : List Int), ([] : List (List Int)), 10)) else (spec_Retuned.l0 k x7 (wrap64 (x8 + 1)) x217000 x217001)) else (none)) else (spec_Retuned.l1 k x7 0 x217000 x217001)
def spec_Retuned.l1 : Nat → List Int → Int → List Int → List (List Int) → Option (List Int × (List (List Int)) × Int)
 | 0, _, _, _, _ => none
 | k + 1, x7, x9, x217000, x217001 => if x9 < (x7.length : Int) then (if 0 ≤ x9 then (if (rd x7 x9) > 1000000 then (some (([] : List Int), ([] : List (List Int)), 5)) else (spec_Retuned.l1 k x7 (wrap64 (x9 + 1)) x217000 x217001)) else (none)) else ((spec_l12Own.f k x217001).bind fun t224 => (some (x7, t224, 0)))
end
def spec_Retuned.f (k : Nat) (l0_0 : List Int) (l0_1 : List (List Int)) (l1 : List Int) : Option (List Int × (List (List Int)) × Int) := (spec_l12Code.f k l0_0 l0_1 l1).bind fun t218 => (if t218 = 0 then ((spec_l12After.f k l0_0 l0_1 l1).bind fun t219 => (spec_Retuned.l0 k t219 0 l0_0 l0_1)) else (some (([] : List Int), ([] : List (List Int)), t218)))
theorem spec_Retuned.mono_l : ∀ k, (∀ y0 y1 y2 y3, LeO (spec_Retuned.l0 k y0 y1 y2 y3) (spec_Retuned.l0 (k + 1) y0 y1 y2 y3)) ∧ (∀ y0 y1 y2 y3, LeO (spec_Retuned.l1 k y0 y1 y2 y3) (spec_Retuned.l1 (k + 1) y0 y1 y2 y3))
 | 0 => ⟨fun _ _ _ _ r h => by simp [spec_Retuned.l0] at h, fun _ _ _ _ r h => by simp [spec_Retuned.l1] at h⟩
 | k + 1 => by
  obtain ⟨ih0, ih1⟩ := spec_Retuned.mono_l k
  refine ⟨?_, ?_⟩
  ·intro y0 y1 y2 y3
   unfold spec_Retuned.l0
   (with_reducible repeat' first | apply ih0 | apply ih1 | apply spec_l12After.mono | apply spec_l12Code.mono | apply spec_l12Own.mono | apply LeO.refl | apply LeO.none | refine LeO.ite ?_ ?_ | refine LeO.bind ?_ (fun _ => ?_))
   repeat' first | apply ih0 | apply ih1 | apply spec_l12After.mono | apply spec_l12Code.mono | apply spec_l12Own.mono | apply LeO.none | refine LeO.ite ?_ ?_ | refine LeO.bind ?_ (fun _ => ?_)
  ·intro y0 y1 y2 y3
   unfold spec_Retuned.l1
   (with_reducible repeat' first | apply ih0 | apply ih1 | apply spec_l12After.mono | apply spec_l12Code.mono | apply spec_l12Own.mono | apply LeO.refl | apply LeO.none | refine LeO.ite ?_ ?_ | refine LeO.bind ?_ (fun _ => ?_))
   repeat' first | apply ih0 | apply ih1 | apply spec_l12After.mono | apply spec_l12Code.mono | apply spec_l12Own.mono | apply LeO.none | refine LeO.ite ?_ ?_ | refine LeO.bind ?_ (fun _ => ?_)
theorem spec_Retuned.mono : ∀ a0 a1 a2 k, LeO (spec_Retuned.f k a0 a1 a2) (spec_Retuned.f (k + 1) a0 a1 a2) := by
 intro a0 a1 a2 k
 obtain ⟨ih0, ih1⟩ := spec_Retuned.mono_l k
 unfold spec_Retuned.f
 (with_reducible repeat' first | apply ih0 | apply ih1 | apply spec_l12After.mono | apply spec_l12Code.mono | apply spec_l12Own.mono | apply LeO.refl | apply LeO.none | refine LeO.ite ?_ ?_ | refine LeO.bind ?_ (fun _ => ?_))
 repeat' first | apply ih0 | apply ih1 | apply spec_l12After.mono | apply spec_l12Code.mono | apply spec_l12Own.mono | apply LeO.none | refine LeO.ite ?_ ?_ | refine LeO.bind ?_ (fun _ => ?_)
set_option maxHeartbeats 8000000 in
set_option maxRecDepth 100000 in
theorem spec_Retuned.calls (k : Nat) (A0_0 : Option Addr) (c0_0 : Nat) (l0_0 : List Int) (A0_1 : Option Addr) (c0_1 : Nat) (l0_1 : List (List Int)) (A1 : Option Addr) (c1 : Nat) (l1 : List Int) (r1 : List Int) (r2 : List (List Int)) (r3 : Int) (w : World) (hr0_0 : Kd.C (Kd.int .i64) w A0_0 l0_0.length l0_0) (hc0_0 : l0_0.length ≤ c0_0) (hr0_1 : Kd.C (Kd.slice 2 (Kd.int .i64)) w A0_1 l0_1.length l0_1) (hc0_1 : l0_1.length ≤ c0_1) (hr1 : Kd.C (Kd.int .i64) w A1 l1.length l1) (hc1 : l1.length ≤ c1) (h : spec_Retuned.f k l0_0 l0_1 l1 = some (r1, r2, r3)) :
  Calls Try.prog 42 #[.agg #[.slice A0_0 l0_0.length c0_0, .slice A0_1 l0_1.length c0_1], .slice A1 l1.length c1] w fun e w' => ∃ v0_ v1_ : Value, e = .returned (.tuple #[.agg #[v0_, v1_], .int .i64 r3]) ∧ Kd.R (Kd.int .i64) 2 w' w.heap.size (fun _ => True) v0_ r1 ∧ Kd.S (Kd.slice 2 (Kd.int .i64)) 24 w' w.heap.size (fun k_ => some k_ ≠ (v0_ : Value).ownBlock) v1_ r2 ∧ Below w.heap.size w w' := by
 have hu27 := Try.underlying27
 have HR0_0 := zQ hr0_0
 have HC0_0 := zQ hc0_0
 clear hr0_0 hc0_0
 have HR0_1 := zQ hr0_1
 have HC0_1 := zQ hc0_1
 clear hr0_1 hc0_1
 have HR1 := zQ hr1
 have HC1 := zQ hc1
 clear hr1 hc1
 have HB := zQ (Below.refl w.heap.size w)
 have H : ((spec_l12Code.f k l0_0 l0_1 l1).bind fun t218 => (if t218 = 0 then ((spec_l12After.f k l0_0 l0_1 l1).bind fun t219 => (spec_Retuned.l0 k t219 0 l0_0 l0_1)) else (some (([] : List Int), ([] : List (List Int)), t218)))) = some (r1, r2, r3) := h
 clear h
 replace H := Option.bind_eq_some_iff.mp H
 obtain ⟨t218, A30, H⟩ := H
 replace H : (if t218 = 0 then ((spec_l12After.f k l0_0 l0_1 l1).bind fun t219 => (spec_Retuned.l0 k t219 0 l0_0 l0_1)) else (some (([] : List Int), ([] : List (List Int)), t218))) = some (r1, r2, r3) := H
 have A3 := zQ A30
 clear A30
 by_cases c4 : t218 = 0
 ·rw [if_pos c4] at H
  have c4b0 : (t218 == 0) = true := beq_iff_eq.mpr c4; have c4b1 : (t218 != 0) = false := bne_eq_false_iff_eq.mpr c4; clear c4; replace H := Option.bind_eq_some_iff.mp H; obtain ⟨t219, A50, H⟩ := H; replace H : (spec_Retuned.l0 k t219 0 l0_0 l0_1) = some (r1, r2, r3) := H; have A5 := zQ A50; clear A50; have H' := zQ H; clear H
  go_enter Try.func42, Try.ntmps42
  go_wp2_with (first | ((with_reducible refine zd 2 ?_); refine zbx (N := 2) (cs := #[.slice A0_0 l0_0.length c0_0, .slice A0_1 l0_1.length c0_1]) (t := 27) ?_; intro gb216 hg w6 hbox hb; have BK216 := zQ (hbox); have GW216 := zgz hg HB.out; have GE216 := GW216; replace HB := zbs HB.out hb; clear hb hbox hg) | ((with_reducible refine zd 4 ?_); refine zbx (N := 4) (cs := #[.slice none 0 0, .slice none 0 0]) (t := 27) ?_; intro gb217 hg w7 hbox hb; have BK217 := zQ (hbox); have GW217 := zgz2 hg HB.out GE216.out; have GE217 := GW217; have NB216_217 := zQ ((by rw [hg]; exact Nat.ne_of_lt (blk_lt (g := gb216) (o := .cells #[.slice A0_0 l0_0.length c0_0, .slice A0_1 l0_1.length c0_1] 27 (0, 0)) (zb BK216.out)) : gb216 ≠ gb217)); have NB217_216 := zQ ((by rw [hg]; exact Nat.ne_of_gt (blk_lt (g := gb216) (o := .cells #[.slice A0_0 l0_0.length c0_0, .slice A0_1 l0_1.length c0_1] 27 (0, 0)) (zb BK216.out)) : gb217 ≠ gb216)); replace BK216 := zbl BK216.out hb; replace HB := zbs2 HB.out GE216.out hb; clear hb hbox hg) | ((with_reducible refine zgc 66 ?_); refine zgo (some 11) Try.func66 #[.pointer (some ⟨gb216, 0, none⟩), .slice A1 l1.length c1] ?_; (with_reducible refine (spec_l12Code.calls k gb216 A0_0 c0_0 l0_0 A0_1 c0_1 l0_1 _ _ l1 t218 _ (zb BK216.out) (zC HR0_0.out HB.out) HC0_0.out (zC HR0_1.out HB.out) HC0_1.out (zC HR1.out HB.out) HC1.out A3.out).mono ?_); rintro e w8 ⟨rfl, hb⟩; refine ⟨_, rfl, ?_⟩; replace BK216 := zbl BK216.out hb; replace BK217 := zbl BK217.out hb; replace HB := zQ (below_step (zB3 HB.out GE216.out GE217.out) hb); (try clear hb)) | ((with_reducible refine zgc 68 ?_); refine zgo (some 17) Try.func68 #[.pointer (some ⟨gb216, 0, none⟩), .slice A1 l1.length c1] ?_; (with_reducible refine (spec_l12After.calls k gb216 A0_0 c0_0 l0_0 A0_1 c0_1 l0_1 _ _ l1 t219 _ (zb BK216.out) (zC HR0_0.out HB.out) HC0_0.out (zC HR0_1.out HB.out) HC0_1.out (zC HR1.out HB.out) HC1.out A5.out).mono ?_); rintro e w9 ⟨v220, rfl, ho0, hb⟩; refine ⟨_, rfl, ?_⟩; have HO221 := zQ (Kd.R_lower ho0 (below_size (zB3 HB.out GE216.out GE217.out))); replace BK216 := zbl BK216.out hb; replace BK217 := zbl BK217.out hb; replace HB := zQ (below_step (zB3 HB.out GE216.out GE217.out) hb); (try clear hb); (try clear ho0)))
  go_loopg [8] k (fun kq v8 w' => ∃ (x8_1 : Int), v8 = .int .i64 x8_1 ∧ Aside0 (spec_Retuned.l0 kq t219 x8_1 l0_0 l0_1 = some (r1, r2, r3)) ∧ Aside0 (kq ≤ k) ∧ Aside0 (Kd.R (Kd.int .i64) 2 w' w.heap.size (fun _ => True) v220 t219) ∧ Aside0 (w'.heap[gb216]? = some (.cells #[(.slice A0_0 l0_0.length c0_0), (.slice A0_1 l0_1.length c0_1)] 27 (0, 0))) ∧ Aside0 (w'.heap[gb217]? = some (.cells #[(.slice none 0 0), (.slice none 0 0)] 27 (0, 0))) ∧ Aside0 (Below w.heap.size w w'))
  case atStart => exact ⟨(0), (zF), H', ⟨Nat.le_refl _⟩, ⟨zR HO221.out⟩, ⟨zb BK216.out⟩, ⟨zb BK217.out⟩, ⟨zB3 HB.out GE216.out GE217.out⟩⟩
  case round =>
   clear H'; (try clear c1); (try clear p2); (try clear c4); (try clear c4b0); (try clear c4b1); (try clear c6); obtain ⟨x8_1, rfl, HA, HK1, HO_7, BK216, BK217, HB⟩ := hrel
   cases gk with
   | zero => exact absurd HA.out (by simp [spec_Retuned.l0])
   | succ k1 =>
    have H := HA.out; clear HA
    simp only [spec_Retuned.l0] at H
    by_cases c10 : x8_1 < (t219.length : Int)
    ·rw [if_pos c10] at H
     have c10b0 : decide (x8_1 < (t219.length : Int)) = true := decide_eq_true c10; clear c10
     by_cases c11 : 0 ≤ x8_1
     ·rw [if_pos c11] at H
      have c11b0 : decide (0 ≤ x8_1) = true := decide_eq_true c11; clear c11
      by_cases c12 : (rd t219 x8_1) < 0
      ·rw [if_pos c12] at H
       have c12b0 : decide ((rd t219 x8_1) < 0) = true := decide_eq_true c12; clear c12
       simp only [Option.some.injEq, Prod.mk.injEq] at H
       obtain ⟨rfl, rfl, rfl⟩ := H; obtain ⟨Ao13, co13, eo13⟩ := Kd.R_slice HO_7.out; subst eo13; have p222 : 0 ≤ (x8_1 : Int) := of_decide_eq_true zA; have q222 : x8_1 < (t219.length : Int) := of_decide_eq_true zA; obtain ⟨ad222, e222, hx222_0⟩ := Kd.at_int (Kd.R_reads' HO_7.out).2.2 x8_1 p222 q222
       cases e222
       replace p222 := eq_true p222; replace q222 := eq_true q222; have hnb14 := NB217_216.out; have hnc14 := NB216_217.out; have hcz15_0 := zc0 BK217.out; have hcz15_1 := zc1 BK217.out; have hfz15_0 := zfz BK217.out 0; have hfz15_1 := zfz BK217.out 1
       go_wp2
       refine bodyPost_ret (results_ct rfl _ _ gb217 27 #[.slice none 0 0, .slice none 0 0] (0, 0) _ rfl (by refine zb ?_; refine blk_put (cs := #[.slice none 0 0, .slice none 0 0]) ?_ 1 _ rfl; refine zb ?_; refine blk_put (cs := #[.slice none 0 0, .slice none 0 0]) ?_ 0 _ rfl; refine zb ?_; exact BK217.out) Try.underlying27 rfl (by kernel_rfl)) rfl ?_
       exact ⟨_, _, zE, by first | exact Kd.R_nil _ _ _ _ _ | exact Kd.N_nil _ _ _ _ _ | exact Kd.V_nil _ _ _ _ _ | exact Kd.Q_nil _ _ _ _ _ | exact Kd.S_nil _ _ _ _ _, by first | exact Kd.S_nil _ _ _ _ _ | exact Kd.N_nil _ _ _ _ _ | exact Kd.V_nil _ _ _ _ _ | exact Kd.Q_nil _ _ _ _ _ | exact Kd.R_nil _ _ _ _ _, zB3 HB.out GE216.out GE217.out⟩
      ·rw [if_neg c12] at H
       have c12b0 : decide ((rd t219 x8_1) < 0) = false := decide_eq_false c12; clear c12; have H' := zQ H; clear H; obtain ⟨Ao16, co16, eo16⟩ := Kd.R_slice HO_7.out; subst eo16; have p222 : 0 ≤ (x8_1 : Int) := of_decide_eq_true zA; have q222 : x8_1 < (t219.length : Int) := of_decide_eq_true zA; obtain ⟨ad222, e222, hx222_0⟩ := Kd.at_int (Kd.R_reads' HO_7.out).2.2 x8_1 p222 q222
       cases e222
       replace p222 := eq_true p222; replace q222 := eq_true q222
       go_wp2
       go_roundg k1
       case measure => have := HK1.out; omega
       case rel => exact ⟨(wrap64 (x8_1 + 1)), (zF), H', ⟨by have := HK1.out; omega⟩, ⟨zR HO_7.out⟩, ⟨zb BK216.out⟩, ⟨zb BK217.out⟩, ⟨zB3 HB.out GE216.out GE217.out⟩⟩
     ·rw [if_neg c11] at H
      exact absurd H (by simp)
    ·rw [if_neg c10] at H
     have c10b0 : decide (x8_1 < (t219.length : Int)) = false := decide_eq_false c10; clear c10; have H' := zQ H; clear H; obtain ⟨Ao17, co17, eo17⟩ := Kd.R_slice HO_7.out; subst eo17
     go_wp2
     go_loopg [9] k1 (fun kq v9 w' => ∃ (x9_2 : Int), v9 = .int .i64 x9_2 ∧ Aside0 (spec_Retuned.l1 kq t219 x9_2 l0_0 l0_1 = some (r1, r2, r3)) ∧ Aside0 (kq ≤ k1) ∧ Aside0 (Kd.R (Kd.int .i64) 2 w' w.heap.size (fun _ => True) (.slice Ao17 t219.length co17) t219) ∧ Aside0 (w'.heap[gb216]? = some (.cells #[(.slice A0_0 l0_0.length c0_0), (.slice A0_1 l0_1.length c0_1)] 27 (0, 0))) ∧ Aside0 (w'.heap[gb217]? = some (.cells #[(.slice none 0 0), (.slice none 0 0)] 27 (0, 0))) ∧ Aside0 (Below w.heap.size w w'))
     case atStart => exact ⟨(0), (zF), H', ⟨Nat.le_refl _⟩, ⟨zR HO_7.out⟩, ⟨zb BK216.out⟩, ⟨zb BK217.out⟩, ⟨zB3 HB.out GE216.out GE217.out⟩⟩
     case round =>
      clear H'; (try clear c1); (try clear p2); (try clear q2); (try clear hx2); (try clear c4); (try clear c4b0); (try clear c4b1); (try clear c6); (try clear p6); (try clear c10); (try clear c10b0); (try clear c11); (try clear c11b0); (try clear c12); (try clear c12b0); (try clear c14); (try clear hcz15_0); (try clear hcz15_1); (try clear hfz15_0); (try clear hfz15_1); (try clear hx222_0); (try clear p2); (try clear p222); (try clear q222); obtain ⟨x9_2, rfl, HA, HK2, HO_7, BK216, BK217, HB⟩ := hrel
      cases gk with
      | zero => exact absurd HA.out (by simp [spec_Retuned.l1])
      | succ k2 =>
       have H := HA.out; clear HA
       simp only [spec_Retuned.l1] at H
       by_cases c18 : x9_2 < (t219.length : Int)
       ·rw [if_pos c18] at H
        have c18b0 : decide (x9_2 < (t219.length : Int)) = true := decide_eq_true c18; clear c18
        by_cases c19 : 0 ≤ x9_2
        ·rw [if_pos c19] at H
         have c19b0 : decide (0 ≤ x9_2) = true := decide_eq_true c19; clear c19
         by_cases c20 : (rd t219 x9_2) > 1000000
         ·rw [if_pos c20] at H
          have c20b0 : decide (1000000 < (rd t219 x9_2)) = true := decide_eq_true c20; clear c20
          simp only [Option.some.injEq, Prod.mk.injEq] at H
          obtain ⟨rfl, rfl, rfl⟩ := H; have p223 : 0 ≤ (x9_2 : Int) := of_decide_eq_true zA; have q223 : x9_2 < (t219.length : Int) := of_decide_eq_true zA; obtain ⟨ad223, e223, hx223_0⟩ := Kd.at_int (Kd.R_reads' HO_7.out).2.2 x9_2 p223 q223
          cases e223
          replace p223 := eq_true p223; replace q223 := eq_true q223; have hnb21 := NB217_216.out; have hnc21 := NB216_217.out; have hcz22_0 := zc0 BK217.out; have hcz22_1 := zc1 BK217.out; have hfz22_0 := zfz BK217.out 0; have hfz22_1 := zfz BK217.out 1
          go_wp2
          refine bodyPost_ret (results_ct rfl _ _ gb217 27 #[.slice none 0 0, .slice none 0 0] (0, 0) _ rfl (by refine zb ?_; refine blk_put (cs := #[.slice none 0 0, .slice none 0 0]) ?_ 1 _ rfl; refine zb ?_; refine blk_put (cs := #[.slice none 0 0, .slice none 0 0]) ?_ 0 _ rfl; refine zb ?_; exact BK217.out) Try.underlying27 rfl (by kernel_rfl)) rfl ?_
          exact ⟨_, _, zE, by first | exact Kd.R_nil _ _ _ _ _ | exact Kd.N_nil _ _ _ _ _ | exact Kd.V_nil _ _ _ _ _ | exact Kd.Q_nil _ _ _ _ _ | exact Kd.S_nil _ _ _ _ _, by first | exact Kd.S_nil _ _ _ _ _ | exact Kd.N_nil _ _ _ _ _ | exact Kd.V_nil _ _ _ _ _ | exact Kd.Q_nil _ _ _ _ _ | exact Kd.R_nil _ _ _ _ _, zB3 HB.out GE216.out GE217.out⟩
         ·rw [if_neg c20] at H
          have c20b0 : decide (1000000 < (rd t219 x9_2)) = false := decide_eq_false c20; clear c20; have H' := zQ H; clear H; have p223 : 0 ≤ (x9_2 : Int) := of_decide_eq_true zA; have q223 : x9_2 < (t219.length : Int) := of_decide_eq_true zA; obtain ⟨ad223, e223, hx223_0⟩ := Kd.at_int (Kd.R_reads' HO_7.out).2.2 x9_2 p223 q223
          cases e223
          replace p223 := eq_true p223; replace q223 := eq_true q223
          go_wp2
          go_roundg k2
          case measure => have := HK1.out; have := HK2.out; omega
          case rel => exact ⟨(wrap64 (x9_2 + 1)), (zF), H', ⟨by have := HK1.out; have := HK2.out; omega⟩, ⟨zR HO_7.out⟩, ⟨zb BK216.out⟩, ⟨zb BK217.out⟩, ⟨zB3 HB.out GE216.out GE217.out⟩⟩
        ·rw [if_neg c19] at H
         exact absurd H (by simp)
       ·rw [if_neg c18] at H
        have c18b0 : decide (x9_2 < (t219.length : Int)) = false := decide_eq_false c18; clear c18; replace H := Option.bind_eq_some_iff.mp H; obtain ⟨t224, A230, H⟩ := H; replace H : (some (t219, t224, 0)) = some (r1, r2, r3) := H; have A23 := zQ A230; clear A230
        simp only [Option.some.injEq, Prod.mk.injEq] at H
        obtain ⟨rfl, rfl, rfl⟩ := H; have hnb24 := NB216_217.out; have hnc24 := NB217_216.out; have hcz25_0 := zc0 BK216.out; have hcz25_1 := zc1 BK216.out; have hfz25_0 := zfz BK216.out 0; have hfz25_1 := zfz BK216.out 1
        go_wp2_with (first | ((with_reducible refine zgc 71 ?_); refine zgo (some 45) Try.func71 #[.slice A0_1 l0_1.length c0_1] ?_; (with_reducible refine (spec_l12Own.calls k2 _ _ l0_1 t224 _ (zC HR0_1.out HB.out) HC0_1.out A23.out).mono ?_); rintro e w26 ⟨v225, rfl, ho0, hb⟩; refine ⟨_, rfl, ?_⟩; have HO226 := zQ (Kd.S_lower (Kd.S_new' ho0 (Kd.R_lt (zR HO_7.out))) (below_size (zB3 HB.out GE216.out GE217.out))); replace HO_7 := zQ (Kd.R_below (zR HO_7.out) hb); replace BK216 := zbl BK216.out hb; replace BK217 := zbl BK217.out hb; replace HB := zQ (below_step (zB3 HB.out GE216.out GE217.out) hb); (try clear hb); (try clear ho0); obtain ⟨Ao27, co27, eo27⟩ := Kd.S_slice HO226.out; subst eo27; have hcz28_0 := zc0 BK217.out; have hcz28_1 := zc1 BK217.out; have hfz28_0 := zfz BK217.out 0; have hfz28_1 := zfz BK217.out 1))
        refine bodyPost_ret (results_ct rfl _ _ gb217 27 #[.slice Ao17 t219.length co17, .slice Ao27 t224.length co27] (0, 0) _ rfl (by refine zb ?_; refine blk_put (cs := #[.slice Ao17 t219.length co17, .slice none 0 0]) ?_ 1 _ rfl; refine zb ?_; refine blk_put (cs := #[.slice none 0 0, .slice none 0 0]) ?_ 0 _ rfl; refine zb ?_; exact BK217.out) Try.underlying27 rfl (by kernel_rfl)) rfl ?_
        exact ⟨_, _, zE, by (with_reducible repeat (first | apply Kd.R_alloc | apply Kd.R_drewN | apply Kd.R_drew)); exact Kd.R_mono (Kd.R_far (p := ⟨gb217, 1, none⟩) (Kd.R_far (p := ⟨gb217, 0, none⟩) (Kd.R_types HO_7.out BK217.out (by decide)) (fun _ hk => hk.2) (.slice Ao17 t219.length co17)) (fun _ hk => hk.2) (.slice Ao27 t224.length co27)) (fun _ hk => trivial), by (with_reducible repeat (first | apply Kd.S_alloc | apply Kd.S_drewN | apply Kd.S_drew)); exact Kd.S_mono (Kd.S_far (p := ⟨gb217, 1, none⟩) (Kd.S_far (p := ⟨gb217, 0, none⟩) (Kd.S_types HO226.out BK217.out (by decide)) (fun _ hk => hk.2) (.slice Ao17 t219.length co17)) (fun _ hk => hk.2) (.slice Ao27 t224.length co27)) (fun _ hk => hk.1.2), zB3 HB.out GE216.out GE217.out⟩
 ·rw [if_neg c4] at H
  have c4b0 : (t218 == 0) = false := beq_eq_false_iff_ne.mpr c4; have c4b1 : (t218 != 0) = true := bne_iff_ne.mpr c4
  simp only [Option.some.injEq, Prod.mk.injEq] at H
  obtain ⟨rfl, rfl, rfl⟩ := H
  go_enter Try.func42, Try.ntmps42
  go_wp2_with (first | ((with_reducible refine zd 2 ?_); refine zbx (N := 2) (cs := #[.slice A0_0 l0_0.length c0_0, .slice A0_1 l0_1.length c0_1]) (t := 27) ?_; intro gb216 hg w29 hbox hb; have BK216 := zQ (hbox); have GW216 := zgz hg HB.out; have GE216 := GW216; replace HB := zbs HB.out hb; clear hb hbox hg) | ((with_reducible refine zd 4 ?_); refine zbx (N := 4) (cs := #[.slice none 0 0, .slice none 0 0]) (t := 27) ?_; intro gb217 hg w30 hbox hb; have BK217 := zQ (hbox); have GW217 := zgz2 hg HB.out GE216.out; have GE217 := GW217; have NB216_217 := zQ ((by rw [hg]; exact Nat.ne_of_lt (blk_lt (g := gb216) (o := .cells #[.slice A0_0 l0_0.length c0_0, .slice A0_1 l0_1.length c0_1] 27 (0, 0)) (zb BK216.out)) : gb216 ≠ gb217)); have NB217_216 := zQ ((by rw [hg]; exact Nat.ne_of_gt (blk_lt (g := gb216) (o := .cells #[.slice A0_0 l0_0.length c0_0, .slice A0_1 l0_1.length c0_1] 27 (0, 0)) (zb BK216.out)) : gb217 ≠ gb216)); replace BK216 := zbl BK216.out hb; replace HB := zbs2 HB.out GE216.out hb; clear hb hbox hg) | ((with_reducible refine zgc 66 ?_); refine zgo (some 11) Try.func66 #[.pointer (some ⟨gb216, 0, none⟩), .slice A1 l1.length c1] ?_; (with_reducible refine (spec_l12Code.calls k gb216 A0_0 c0_0 l0_0 A0_1 c0_1 l0_1 _ _ l1 t218 _ (zb BK216.out) (zC HR0_0.out HB.out) HC0_0.out (zC HR0_1.out HB.out) HC0_1.out (zC HR1.out HB.out) HC1.out A3.out).mono ?_); rintro e w31 ⟨rfl, hb⟩; refine ⟨_, rfl, ?_⟩; replace BK216 := zbl BK216.out hb; replace BK217 := zbl BK217.out hb; replace HB := zQ (below_step (zB3 HB.out GE216.out GE217.out) hb); (try clear hb); have hnb32 := NB217_216.out; have hnc32 := NB216_217.out; have hcz33_0 := zc0 BK217.out; have hcz33_1 := zc1 BK217.out; have hfz33_0 := zfz BK217.out 0; have hfz33_1 := zfz BK217.out 1))
  refine bodyPost_ret (results_ct rfl _ _ gb217 27 #[.slice none 0 0, .slice none 0 0] (0, 0) _ rfl (by refine zb ?_; refine blk_put (cs := #[.slice none 0 0, .slice none 0 0]) ?_ 1 _ rfl; refine zb ?_; refine blk_put (cs := #[.slice none 0 0, .slice none 0 0]) ?_ 0 _ rfl; refine zb ?_; exact BK217.out) Try.underlying27 rfl (by kernel_rfl)) rfl ?_
  exact ⟨_, _, zE, by first | exact Kd.R_nil _ _ _ _ _ | exact Kd.N_nil _ _ _ _ _ | exact Kd.V_nil _ _ _ _ _ | exact Kd.Q_nil _ _ _ _ _ | exact Kd.S_nil _ _ _ _ _, by first | exact Kd.S_nil _ _ _ _ _ | exact Kd.N_nil _ _ _ _ _ | exact Kd.V_nil _ _ _ _ _ | exact Kd.Q_nil _ _ _ _ _ | exact Kd.R_nil _ _ _ _ _, zB3 HB.out GE216.out GE217.out⟩

end Go.Proofs.Ythfpaldhdohnkaa.PFnExactRetuned
