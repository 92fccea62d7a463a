import Derived.Test.YtcomncokgkeniaaHSailw0
import Derived.Test.YtcomncokgkeniaaHSailwm
import Derived.Test.YtcomncokgkeniaaHSailwn
namespace Go.Proofs.Ytcomncokgkeniaa.PSailw
noncomputable section
open Go.RowKit Go.Proofs.YtcomncokgkeniaaW.PrintWords Go.Proofs.YtcomncokgkeniaaW.PrintLast Go.Proofs.YtcomncokgkeniaaW.PrintMore
attribute [local go_sem] max2_int min2_int max_two min_two max_three min_three max_four min_four   -- for this text's walks alone
set_option linter.unusedVariables false
set_option linter.unusedSimpArgs false
set_option maxHeartbeats 8000000
set_option maxRecDepth 100000

mutual
def impl_widthAt.l0 : Nat → List (S49) → Int → List (S25) → List (S49) → Int → Int → Option (Int × Int)
 | 0, _, _, _, _, _, _ => none
 | k + 1, x0, x1, x5, x12, x13, x14 => if x14 < x13 then (if 0 ≤ x14 then (if x14 < (x12.length : Int) then (if (x0.length : Int) = 0 then (none) else (if 0 ≤ (Int.tmod (wrap64 (x14 + 1)) (x0.length : Int)) then (if (Int.tmod (wrap64 (x14 + 1)) (x0.length : Int)) < (x0.length : Int) then (if ((rd_T49 x12 x14).f1) = x1 then ((impl_fraction.f k ((rd_T49 x12 x14).f0) 1).bind fun bt336 => (if x5.length < 8796093022208 then (impl_widthAt.j1 k x0 x1 (x5 ++ [(⟨bt336.1, bt336.2⟩ : S25)]) x12 x13 x14 ((rd_T49 x12 x14).f0) ((rd_T49 x12 x14).f1) ((rd_T49 x0 (Int.tmod (wrap64 (x14 + 1)) (x0.length : Int))).f0) ((rd_T49 x0 (Int.tmod (wrap64 (x14 + 1)) (x0.length : Int))).f1)) else (none))) else (impl_widthAt.j1 k x0 x1 x5 x12 x13 x14 ((rd_T49 x12 x14).f0) ((rd_T49 x12 x14).f1) ((rd_T49 x0 (Int.tmod (wrap64 (x14 + 1)) (x0.length : Int))).f0) ((rd_T49 x0 (Int.tmod (wrap64 (x14 + 1)) (x0.length : Int))).f1))) else (none)) else (none))) else (none)) else (none)) else ((impl_Fraction_61.f k x5).bind fun bt350 => ((impl_Fraction_63.f k x5).bind fun bt353 => ((impl_addFractions.f k bt353.1 bt353.2 (wrap64 (-bt350.1)) bt350.2).bind fun bt356 => (some (bt356.1, bt356.2)))))
def impl_widthAt.j1 : Nat → List (S49) → Int → List (S25) → List (S49) → Int → Int → Int → Int → Int → Int → Option (Int × Int)
 | 0, _, _, _, _, _, _, _, _, _, _ => none
 | k + 1, x0, x1, x5, x12, x13, x14, x334000, x334001, x336000, x336001 => if ((decide (x334001 < x1)) != (decide (x336001 < x1))) = true then (if x334001 = x1 then (impl_widthAt.j2 k x0 x1 x5 x12 x13 x14 false x334000 x334001 x336000 x336001) else (impl_widthAt.j2 k x0 x1 x5 x12 x13 x14 (x336001 != x1) x334000 x334001 x336000 x336001)) else (impl_widthAt.j2 k x0 x1 x5 x12 x13 x14 false x334000 x334001 x336000 x336001)
def impl_widthAt.j2 : Nat → List (S49) → Int → List (S25) → List (S49) → Int → Int → Bool → Int → Int → Int → Int → Option (Int × Int)
 | 0, _, _, _, _, _, _, _, _, _, _, _ => none
 | k + 1, x0, x1, x5, x12, x13, x14, x57, x334000, x334001, x336000, x336001 => if x57 = true then ((impl_fraction.f k x334000 1).bind fun bt341 => ((impl_fraction.f k (wrap64 ((wrap64 (x336000 - x334000)) * (wrap64 (x1 - x334001)))) (wrap64 (x336001 - x334001))).bind fun bt343 => ((impl_addFractions.f k bt341.1 bt341.2 bt343.1 bt343.2).bind fun bt345 => (if x5.length < 8796093022208 then (impl_widthAt.l0 k x0 x1 (x5 ++ [(⟨bt345.1, bt345.2⟩ : S25)]) x12 x13 (wrap64 (x14 + 1))) else (none))))) else (impl_widthAt.l0 k x0 x1 x5 x12 x13 (wrap64 (x14 + 1)))
end
def impl_widthAt.f (k : Nat) (l0 : List (S49)) (a1 : Int) : Option (Int × Int) := impl_widthAt.l0 k l0 a1 (([] : List (S25))) l0 (l0.length : Int) 0
def impl_widthAt.T9 : Bool × List (List Nat × List Nat) := (true, [([], []), ([], []), ([1], [1]), ([2], [2]), ([], []), ([4], [4]), ([], []), ([6], [6]), ([5, 7], [5, 7]), ([], []), ([], []), ([10], [10]), ([9, 11], [9, 11]), ([8, 12], [8, 12]), ([], []), ([14], [14]), ([], []), ([16], [16]), ([15, 17], [15, 17]), ([13, 18, 3], [13, 18]), ([3, 19, 19], [3, 19]), ([20], [20]), ([0, 21, 20], [0, 21]), ([22, 22, 0, 1, 2, 3, 4, 5, 6, 7, 8, 9, 10, 11, 12, 13, 14, 15, 16, 17, 18, 19, 20, 21, 22], [0, 22])])
def impl_widthAt.B9 : List Nat := [0, 0, 2, 6, 0, 16, 0, 64, 240, 0, 0, 1024, 3584, 8176, 0, 16384, 0, 65536, 245760, 524286, 1048574, 2097150, 4194303, 8388607]
theorem impl_widthAt.tab9 : rtab .any (opsOf Try.f35 9) = impl_widthAt.T9 := by kernel_rfl
theorem impl_widthAt.bits9 : waitsOk impl_widthAt.T9.2 impl_widthAt.B9 = true := by kernel_rfl
theorem impl_widthAt.calls (k : Nat) (A0 : Option Addr) (c0 : Nat) (l0 : List (S49)) (a1 : Int) (r1 : Int) (r2 : Int) (w : World) (hr0 : Kd.C k49 w A0 l0.length l0) (hc0 : l0.length ≤ c0) (h : impl_widthAt.f k l0 a1 = some (r1, r2)) :
  Calls Try.prog 35 #[.slice A0 l0.length c0, .int .i64 a1] w fun e w' => e = .returned (.agg #[.int .i64 r1, .int .i64 r2]) ∧ Below w.heap.size w w' := by
 have hu25 := Try.underlying25
 have hu49 := Try.underlying49
 have HR0 := zQ hr0
 have HC0 := zQ hc0
 clear hr0 hc0
 have HB := zQ (Below.refl w.heap.size w)
 have H := h; unfold impl_widthAt.f at H
 clear h
 obtain ⟨y329, hy329⟩ : ∃ y_ : List (S25), y_ = (([] : List (S25))) := ⟨_, rfl⟩
 replace H : (impl_widthAt.l0 k l0 a1 y329 l0 (l0.length : Int) 0) = some (r1, r2) := zh H
 have Ny329 := zQ hy329
 clear hy329
 have H' := zQ H
 clear H
 go_enter Try.func35, Try.ntmps35
 go_wp2_with (first | ((with_reducible refine zd 4 ?_); refine zbx (N := 4) (cs := #[.int .i64 0, .int .i64 0]) (t := 25) ?_; intro gb328 hg w3 hbox hb; have BK328 := zQ (hbox); have GW328 := zgz hg HB.out; have GE328 := GW328; replace HB := zbs HB.out hb; clear hb hbox hg) | ((with_reducible refine zd 11 ?_); refine Kd.R_lit k25 _ 25 ?hg (N := 11) ?hd (xs := ([] : List (S25))) (inner := []) (ok := fun _ => True) (okp := fun _ => True) ?hr ?hp (fun _ hk => hk) trivial (Below.refl _ _) (Nat.le_refl _) (by simp) ?_; (case hd => rfl); (case hg => rfl); (case hr => first | (go_simp; done) | (go_simp; rfl)); (case hp => exact (Reps.none _ _)); intro v330 w4 ho5 hb hg_ hnew_; clear hg_ hnew_; (first | rw [← Ny329.out] at ho5 | (simp only [Int.reduceToNat] at ho5; rw [← Ny329.out] at ho5)); have HO331 := zQ (Kd.R_lower (Kd.R_newB ho5 (g := gb328) (o := .cells #[.int .i64 0, .int .i64 0] 25 (0, 0)) (zb BK328.out)) (below_size (zB2 HB.out GE328.out))); replace BK328 := zbl BK328.out hb; replace HB := zbs2 HB.out GE328.out hb; clear hb ho5))
 go_loopg [5, 14] k (fun kq v5 v14 w' => ∃ (x5_1 : List (S25)) (x14_1 : Int), v14 = .int .i64 x14_1 ∧ Aside0 (impl_widthAt.l0 kq l0 a1 x5_1 l0 (l0.length : Int) x14_1 = some (r1, r2)) ∧ Aside0 (kq ≤ k) ∧ Aside0 (Kd.R k25 25 w' w.heap.size (fun k_ => k_ ≠ gb328) v5 x5_1) ∧ Aside0 (w'.heap[gb328]? = some (.cells #[.int .i64 0, .int .i64 0] 25 (0, 0))) ∧ Aside0 (Below w.heap.size w w'))
 case atStart => exact ⟨(y329), (0), (zF), H', ⟨Nat.le_refl _⟩, ⟨by (with_reducible repeat (first | apply Kd.R_alloc | apply Kd.R_drewN | apply Kd.R_drew)); exact Kd.R_mono HO331.out (fun _ hk => hk.2)⟩, ⟨zb BK328.out⟩, ⟨zB2 HB.out GE328.out⟩⟩
 case round =>
  clear H'; (try clear p2); (try clear c3); obtain ⟨x5_1, x14_1, rfl, HA, HK1, HO_5, BK328, HB⟩ := hrel
  cases gk with
  | zero => exact absurd HA.out (by simp [impl_widthAt.l0])
  | succ k1 =>
   have H := HA.out; clear HA
   simp only [impl_widthAt.l0] at H
   by_cases c6 : x14_1 < (l0.length : Int)
   ·rw [if_pos c6] at H
    have c6b0 := decide_eq_true c6; clear c6
    by_cases c7 : 0 ≤ x14_1
    ·rw [if_pos c7] at H
     have c7b0 := decide_eq_true c7; clear c7
     by_cases c8 : x14_1 < (l0.length : Int)
     ·rw [if_pos c8] at H
      have c8b0 := decide_eq_true c8; clear c8
      by_cases c9 : (l0.length : Int) = 0
      ·rw [if_pos c9] at H
       exact absurd H (by simp)
      ·rw [if_neg c9] at H
       have c9b0 : ((l0.length : Int) == 0) = false := beq_eq_false_iff_ne.mpr c9; have c9b1 : ((l0.length : Int) != 0) = true := bne_iff_ne.mpr c9
       have c9b2 : ¬ (l0 = []) := fun h_ => c9 (by rw [h_]; rfl)
       obtain ⟨ji10, hji10⟩ : ∃ j_ : Int, (Int.tmod (wrap64 (x14_1 + 1)) (l0.length : Int)) = j_ := ⟨_, rfl⟩
       replace H : (if 0 ≤ (ji10) then (if (ji10) < (l0.length : Int) then (if ((rd_T49 l0 x14_1).f1) = a1 then ((impl_fraction.f k1 ((rd_T49 l0 x14_1).f0) 1).bind fun bt336 => (if x5_1.length < 8796093022208 then (impl_widthAt.j1 k1 l0 a1 (x5_1 ++ [(⟨bt336.1, bt336.2⟩ : S25)]) l0 (l0.length : Int) x14_1 ((rd_T49 l0 x14_1).f0) ((rd_T49 l0 x14_1).f1) ((rd_T49 l0 (ji10)).f0) ((rd_T49 l0 (ji10)).f1)) else (none))) else (impl_widthAt.j1 k1 l0 a1 x5_1 l0 (l0.length : Int) x14_1 ((rd_T49 l0 x14_1).f0) ((rd_T49 l0 x14_1).f1) ((rd_T49 l0 (ji10)).f0) ((rd_T49 l0 (ji10)).f1))) else (none)) else (none)) = some (r1, r2) := by first | (rw [hji10] at H; exact H) | (simp only [hji10] at H ⊢; exact H)
       by_cases c11 : 0 ≤ (ji10)
       ·rw [if_pos c11] at H
        have c11b0 := decide_eq_true c11; clear c11
        by_cases c12 : (ji10) < (l0.length : Int)
        ·rw [if_pos c12] at H
         have c12b0 := decide_eq_true c12; clear c12; have HC13 := zQ H; clear H; have p332 : 0 ≤ (x14_1 : Int) := zD; have q332 : x14_1 < (l0.length : Int) := zD; obtain ⟨ad332, e332, hx332_0, hx332_1⟩ := at_T49 HR0.out x14_1 p332 q332
         cases e332
         replace hx332_0 := zw HB.out hx332_0; replace hx332_1 := zw HB.out hx332_1; replace p332 := eq_true p332; replace q332 := eq_true q332
         go_upto_if 30 with (first | ((with_reducible refine zd 7 ?_); refine zbx (N := 7) (cs := #[.int .i64 0, .int .i64 0]) (t := 49) ?_; intro gb333 hg w14 hbox hb; have BK333 := zQ (hbox); have GW333 := zgz2 hg HB.out GE328.out; have GE333 := GW333; have NB328_333 := zn1 hg BK328.out; have NB333_328 := zn2 hg BK328.out; replace HO_5 := zRb HO_5.out hb; replace BK328 := zbl BK328.out hb; replace HB := zbs2 HB.out GE328.out hb; clear hb hbox hg; have hnb15 := NB333_328.out; have hnc15 := NB328_333.out; obtain ⟨hcz16_0, hcz16_1, hfz16_0, hfz16_1⟩ := zy2 BK333.out; have p334 : 0 ≤ ((ji10) : Int) := zD; have q334 : (ji10) < (l0.length : Int) := zD; obtain ⟨ad334, e334, hx334_0, hx334_1⟩ := at_T49 HR0.out (ji10) p334 q334; obtain rfl : ad332 = ad334 := (by injection e334); have hn334_0 : ad332.block ≠ gb333 := Nat.ne_of_lt (Nat.lt_of_lt_of_le (by have := World.block_lt_of_cell? _ _ hx334_0; first | rwa [add_block] at this | exact this) GW333.out); have hn334_1 : ad332.block ≠ gb333 := Nat.ne_of_lt (Nat.lt_of_lt_of_le (by have := World.block_lt_of_cell? _ _ hx334_0; first | rwa [add_block] at this | exact this) GW333.out); replace hx334_0 := zw HB.out hx334_0; replace hx334_1 := zw HB.out hx334_1; replace hx334_0 := (cell_far (p := ⟨gb333, 0, none⟩) (by first | (rw [add_block]; exact hn334_0) | (show (Addr.add _ _).block ≠ _; rw [add_block]; exact hn334_0) | exact hn334_0) (.int .i64 ((rd_T49 l0 x14_1).f0))).trans hx334_0; replace hx334_1 := (cell_far (p := ⟨gb333, 0, none⟩) (by first | (rw [add_block]; exact hn334_0) | (show (Addr.add _ _).block ≠ _; rw [add_block]; exact hn334_0) | exact hn334_0) (.int .i64 ((rd_T49 l0 x14_1).f0))).trans hx334_1; replace hx334_0 := (cell_far (p := ⟨gb333, 1, none⟩) (by first | (rw [add_block]; exact hn334_1) | (show (Addr.add _ _).block ≠ _; rw [add_block]; exact hn334_1) | exact hn334_1) (.int .i64 ((rd_T49 l0 x14_1).f1))).trans hx334_0; replace hx334_1 := (cell_far (p := ⟨gb333, 1, none⟩) (by first | (rw [add_block]; exact hn334_1) | (show (Addr.add _ _).block ≠ _; rw [add_block]; exact hn334_1) | exact hn334_1) (.int .i64 ((rd_T49 l0 x14_1).f1))).trans hx334_1; clear hn334_0; clear hn334_1; replace p334 := eq_true p334; replace q334 := eq_true q334) | ((with_reducible refine zd 8 ?_); refine zbx (N := 8) (cs := #[.int .i64 0, .int .i64 0]) (t := 49) ?_; intro gb335 hg w17 hbox hb; have BK335 := zQ (hbox); have GW335 := zQ ((by rw [hg]; exact (below_size (zB3 HB.out GE328.out GE333.out)) : w.heap.size ≤ gb335)); have GE335 := zQ ((by rw [hg]; exact (below_size (zB3 HB.out GE328.out GE333.out)) : w.heap.size ≤ gb335)); have NB328_335 := zQ ((by rw [hg]; exact Nat.ne_of_lt (blk_lt (g := gb328) (o := .cells #[.int .i64 0, .int .i64 0] 25 (0, 0)) (by refine zb ?_; refine blk_far ?_ NB328_333.out _; refine zb ?_; refine blk_far ?_ NB328_333.out _; refine zb ?_; exact BK328.out)) : gb328 ≠ gb335)); have NB335_328 := zQ ((by rw [hg]; exact Nat.ne_of_gt (blk_lt (g := gb328) (o := .cells #[.int .i64 0, .int .i64 0] 25 (0, 0)) (by refine zb ?_; refine blk_far ?_ NB328_333.out _; refine zb ?_; refine blk_far ?_ NB328_333.out _; refine zb ?_; exact BK328.out)) : gb335 ≠ gb328)); have NB333_335 := zQ ((by rw [hg]; exact Nat.ne_of_lt (blk_lt (g := gb333) (o := .cells #[.int .i64 ((rd_T49 l0 x14_1).f0), .int .i64 ((rd_T49 l0 x14_1).f1)] 49 (0, 0)) (by refine zb ?_; refine blk_put (cs := #[.int .i64 ((rd_T49 l0 x14_1).f0), .int .i64 0]) ?_ 1 _ rfl; refine zb ?_; refine blk_put (cs := #[.int .i64 0, .int .i64 0]) ?_ 0 _ rfl; refine zb ?_; exact BK333.out)) : gb333 ≠ gb335)); have NB335_333 := zQ ((by rw [hg]; exact Nat.ne_of_gt (blk_lt (g := gb333) (o := .cells #[.int .i64 ((rd_T49 l0 x14_1).f0), .int .i64 ((rd_T49 l0 x14_1).f1)] 49 (0, 0)) (by refine zb ?_; refine blk_put (cs := #[.int .i64 ((rd_T49 l0 x14_1).f0), .int .i64 0]) ?_ 1 _ rfl; refine zb ?_; refine blk_put (cs := #[.int .i64 0, .int .i64 0]) ?_ 0 _ rfl; refine zb ?_; exact BK333.out)) : gb335 ≠ gb333)); replace HO_5 := zQ (Kd.R_below (by (with_reducible repeat (first | apply Kd.R_alloc | apply Kd.R_drewN | apply Kd.R_drew)); exact (Kd.R_mono (Kd.R_far (p := ⟨gb333, 1, none⟩) (Kd.R_far (p := ⟨gb333, 0, none⟩) (Kd.R_types HO_5.out BK333.out (by decide)) (fun _ hk => hk.2) (.int .i64 ((rd_T49 l0 x14_1).f0))) (fun _ hk => hk.2) (.int .i64 ((rd_T49 l0 x14_1).f1))) (fun _ h_ => h_.1))) hb); replace BK328 := zQ (blk_below (g := gb328) (o := .cells #[.int .i64 0, .int .i64 0] 25 (0, 0)) (by refine zb ?_; refine blk_far ?_ NB328_333.out _; refine zb ?_; refine blk_far ?_ NB328_333.out _; refine zb ?_; exact BK328.out) hb); replace BK333 := zQ (blk_below (g := gb333) (o := .cells #[.int .i64 ((rd_T49 l0 x14_1).f0), .int .i64 ((rd_T49 l0 x14_1).f1)] 49 (0, 0)) (by refine zb ?_; refine blk_put (cs := #[.int .i64 ((rd_T49 l0 x14_1).f0), .int .i64 0]) ?_ 1 _ rfl; refine zb ?_; refine blk_put (cs := #[.int .i64 0, .int .i64 0]) ?_ 0 _ rfl; refine zb ?_; exact BK333.out) hb); replace HB := zQ (below_step (zB3 HB.out GE328.out GE333.out) hb); clear hb hbox hg; have hnb18 := NB335_328.out; have hnc18 := NB328_335.out; have hnb19 := NB335_333.out; have hnc19 := NB333_335.out; obtain ⟨hcz20_0, hcz20_1, hfz20_0, hfz20_1⟩ := zy2 BK335.out; obtain ⟨hcz21_0, hcz21_1, hfz21_0, hfz21_1⟩ := zy2 BK333.out))
         (try simp only [Act.put, List.setIfInBounds_toArray, List.set_cons_zero, List.set_cons_succ])
         go_cut [5] (fun v5 wc => ∃ (kq : Nat) (x5_12 : List (S25)), Aside0 (impl_widthAt.j1 kq l0 a1 x5_12 l0 (l0.length : Int) x14_1 ((rd_T49 l0 x14_1).f0) ((rd_T49 l0 x14_1).f1) ((rd_T49 l0 (ji10)).f0) ((rd_T49 l0 (ji10)).f1) = some (r1, r2)) ∧ Aside0 (kq ≤ k1) ∧ Aside0 (Kd.R k25 25 wc w.heap.size (fun k_ => k_ ≠ gb328) v5 x5_12) ∧ Aside0 (wc.heap[gb328]? = some (.cells #[.int .i64 0, .int .i64 0] 25 (0, 0))) ∧ Aside0 (wc.heap[gb333]? = some (.cells #[.int .i64 ((rd_T49 l0 x14_1).f0), .int .i64 ((rd_T49 l0 x14_1).f1)] 49 (0, 0))) ∧ Aside0 (wc.heap[gb335]? = some (.cells #[.int .i64 ((rd_T49 l0 (ji10)).f0), .int .i64 ((rd_T49 l0 (ji10)).f1)] 49 (0, 0))) ∧ Aside0 (Below w.heap.size w wc))
         case first =>
          have H := HC13.out; clear HC13
          by_cases c22 : ((rd_T49 l0 x14_1).f1) = a1
          ·rw [if_pos c22] at H
           have c22b0 : (((rd_T49 l0 x14_1).f1) == a1) = true := beq_iff_eq.mpr c22; have c22b1 : (((rd_T49 l0 x14_1).f1) != a1) = false := bne_eq_false_iff_eq.mpr c22; clear c22
           (first | rw [c22b0] | (simp only [i64_w, i32_w]; rw [c22b0]) | skip)
           replace H := zob H; obtain ⟨⟨t336, t337⟩, A23, H⟩ := H
           by_cases c24 : x5_1.length < 8796093022208
           ·rw [if_pos c24] at H
            have LMc24 := zQ c24; clear c24; obtain ⟨y338, hy338⟩ : ∃ y_ : List (S25), y_ = (x5_1 ++ [(⟨t336, t337⟩ : S25)]) := ⟨_, rfl⟩; replace H : (impl_widthAt.j1 k1 l0 a1 y338 l0 (l0.length : Int) x14_1 ((rd_T49 l0 x14_1).f0) ((rd_T49 l0 x14_1).f1) ((rd_T49 l0 (ji10)).f0) ((rd_T49 l0 (ji10)).f1)) = some (r1, r2) := zh H; have Ny338 := zQ hy338; clear hy338; have H' := zQ H; clear H; have hnb25 := NB333_328.out; have hnc25 := NB328_333.out; have hnb26 := NB333_335.out; have hnc26 := NB335_333.out; obtain ⟨hcz27_0, hcz27_1, hfz27_0, hfz27_1⟩ := zy2 BK333.out
            go_wp2_with (first | ((with_reducible refine zgc 59 ?_); refine zgo (some 34) Try.func59 #[.int .i64 ((rd_T49 l0 x14_1).f0), .int .i64 1] ?_; (with_reducible refine (impl_fraction.calls k1 ((rd_T49 l0 x14_1).f0) 1 t336 t337 _ A23.out).mono ?_); rintro e w28 ⟨rfl, hb⟩; refine ⟨_, rfl, ?_⟩; replace HO_5 := zQ (Kd.R_below (by (with_reducible repeat (first | apply Kd.R_alloc | apply Kd.R_drewN | apply Kd.R_drew)); exact (Kd.R_mono (Kd.R_far (p := ⟨gb335, 1, none⟩) (Kd.R_far (p := ⟨gb335, 0, none⟩) (Kd.R_types HO_5.out BK335.out (by decide)) (fun _ hk => hk.2) (.int .i64 ((rd_T49 l0 (ji10)).f0))) (fun _ hk => hk.2) (.int .i64 ((rd_T49 l0 (ji10)).f1))) (fun _ h_ => h_.1))) hb); replace BK328 := zQ (blk_below (g := gb328) (o := .cells #[.int .i64 0, .int .i64 0] 25 (0, 0)) (by refine zb ?_; refine blk_far ?_ NB328_335.out _; refine zb ?_; refine blk_far ?_ NB328_335.out _; refine zb ?_; exact BK328.out) hb); replace BK333 := zQ (blk_below (g := gb333) (o := .cells #[.int .i64 ((rd_T49 l0 x14_1).f0), .int .i64 ((rd_T49 l0 x14_1).f1)] 49 (0, 0)) (by refine zb ?_; refine blk_far ?_ NB333_335.out _; refine zb ?_; refine blk_far ?_ NB333_335.out _; refine zb ?_; exact BK333.out) hb); replace BK335 := zQ (blk_below (g := gb335) (o := .cells #[.int .i64 ((rd_T49 l0 (ji10)).f0), .int .i64 ((rd_T49 l0 (ji10)).f1)] 49 (0, 0)) (by refine zb ?_; refine blk_put (cs := #[.int .i64 ((rd_T49 l0 (ji10)).f0), .int .i64 0]) ?_ 1 _ rfl; refine zb ?_; refine blk_put (cs := #[.int .i64 0, .int .i64 0]) ?_ 0 _ rfl; refine zb ?_; exact BK335.out) hb); replace HB := zQ (below_step (by repeat (first | (with_reducible first | exact HB.out | apply below_alloc | apply pw_below_drewN | apply below_drew1 | refine below_set ?_ GE328.out | refine below_set ?_ GE333.out | refine below_set ?_ GE335.out) | exact HB.out)) hb); (try clear hb)) | ((with_reducible refine gate_builtin (b := .append) (xs := #[.tmp 31, .tmp 35]) rfl ?_); at_builtin; refine Kd.R_append k25 (w0 := w) w.heap.size rfl (.tmp 31) (.tmp 35) 67 25 (.agg #[(.int .i64 0), (.int .i64 0)]) 16 rfl Try.underlying67 info25 rfl (by decide) (by omega) u5 x5_1 (⟨t336, t337⟩ : S25) [.int .i64 t336, .int .i64 t337] (fun k_ => k_ ≠ gb328) (fun _ => False) rfl rfl ?aP (fun _ hk => hk.elim) ?aF ?aO ?aB ?aS ?aL ?_; (case aP => exact k25_mkM _ _ _ (⟨t336, t337⟩ : S25)); (case aB => exact (by repeat (first | (with_reducible first | exact HB.out | apply below_alloc | apply pw_below_drewN | apply below_drew1 | refine below_set ?_ GE328.out | refine below_set ?_ GE333.out | refine below_set ?_ GE335.out) | exact HB.out))); (case aF => exact (fun k_ hk => Kd.freshB (g := gb328) (o := .cells #[.int .i64 0, .int .i64 0] 25 (0, 0)) (zb BK328.out) k_ hk)); (case aO => exact (zR HO_5.out)); (case aS => exact (below_size (by repeat (first | (with_reducible first | exact HB.out | apply below_alloc | apply pw_below_drewN | apply below_drew1 | refine below_set ?_ GE328.out | refine below_set ?_ GE333.out | refine below_set ?_ GE335.out) | exact HB.out)))); (case aL => have := LMc24.out; omega); intro v339 w29 ho hb hg hat; rw [← Ny338.out] at ho; have HO340 := zQ (ho); replace BK328 := zQ (blk_grown (g := gb328) (o := .cells #[.int .i64 0, .int .i64 0] 25 (0, 0)) (zb BK328.out) hg (Kd.R_away HO_5.out (fun _ hk => hk))); replace BK333 := zQ (blk_grown (g := gb333) (o := .cells #[.int .i64 ((rd_T49 l0 x14_1).f0), .int .i64 ((rd_T49 l0 x14_1).f1)] 49 (0, 0)) (zb BK333.out) hg (Kd.R_ne HO_5.out BK333.out (by decide))); replace BK335 := zQ (blk_grown (g := gb335) (o := .cells #[.int .i64 ((rd_T49 l0 (ji10)).f0), .int .i64 ((rd_T49 l0 (ji10)).f1)] 49 (0, 0)) (zb BK335.out) hg (Kd.R_ne HO_5.out BK335.out (by decide))); replace HB := zQ (hb); clear HO_5 ho hb hg hat))
            go_meet
            case rel => exact ⟨_, (y338), H', ⟨by have := HK1.out; first | omega | exact Nat.le_refl _⟩, ⟨zR HO340.out⟩, ⟨zb BK328.out⟩, ⟨zb BK333.out⟩, ⟨zb BK335.out⟩, ⟨by repeat (first | (with_reducible first | exact HB.out | apply below_alloc | apply pw_below_drewN | apply below_drew1 | refine below_set ?_ GE328.out | refine below_set ?_ GE333.out | refine below_set ?_ GE335.out) | exact HB.out)⟩⟩
           ·rw [if_neg c24] at H
            exact absurd H (by simp)
          ·rw [if_neg c22] at H
           have c22b0 : (((rd_T49 l0 x14_1).f1) == a1) = false := beq_eq_false_iff_ne.mpr c22; have c22b1 : (((rd_T49 l0 x14_1).f1) != a1) = true := bne_iff_ne.mpr c22
           (first | rw [c22b0] | (simp only [i64_w, i32_w]; rw [c22b0]) | skip)
           have H' := zQ H; clear H
           go_wp2
           go_meet
           case rel => exact ⟨_, (x5_1), H', ⟨by have := HK1.out; first | omega | exact Nat.le_refl _⟩, ⟨by (with_reducible repeat (first | apply Kd.R_alloc | apply Kd.R_drewN | apply Kd.R_drew)); exact Kd.R_mono (Kd.R_far (p := ⟨gb335, 1, none⟩) (Kd.R_far (p := ⟨gb335, 0, none⟩) (Kd.R_types HO_5.out BK335.out (by decide)) (fun _ hk => hk.2) (.int .i64 ((rd_T49 l0 (ji10)).f0))) (fun _ hk => hk.2) (.int .i64 ((rd_T49 l0 (ji10)).f1))) (fun _ hk => hk.1)⟩, ⟨by refine zb ?_; refine blk_far ?_ NB328_335.out _; refine zb ?_; refine blk_far ?_ NB328_335.out _; refine zb ?_; exact BK328.out⟩, ⟨by refine zb ?_; refine blk_far ?_ NB333_335.out _; refine zb ?_; refine blk_far ?_ NB333_335.out _; refine zb ?_; exact BK333.out⟩, ⟨by refine zb ?_; refine blk_put (cs := #[.int .i64 ((rd_T49 l0 (ji10)).f0), .int .i64 0]) ?_ 1 _ rfl; refine zb ?_; refine blk_put (cs := #[.int .i64 0, .int .i64 0]) ?_ 0 _ rfl; refine zb ?_; exact BK335.out⟩, ⟨by repeat (first | (with_reducible first | exact HB.out | apply below_alloc | apply pw_below_drewN | apply below_drew1 | refine below_set ?_ GE328.out | refine below_set ?_ GE333.out | refine below_set ?_ GE335.out) | exact HB.out)⟩⟩
         case rest =>
          clear HC13; (try clear c1); (try clear c2); (try clear p2); (try clear c3); (try clear p3); (try clear q3); (try clear hx3); (try clear c5); (try clear c6); (try clear c6b0); (try clear p6); (try clear c7); (try clear c7b0); (try clear c8); (try clear c8b0); (try clear c9); (try clear c9b0); (try clear c9b1); (try clear c9b2); (try clear c11); (try clear c11b0); (try clear c12); (try clear c12b0); (try clear c15); (try clear c18); (try clear c19); (try clear c22); (try clear c22b0); (try clear c22b1); (try clear c24); (try clear c25); (try clear c26); (try clear hcz16_0 hcz16_1 hfz16_0 hfz16_1); (try clear hcz20_0 hcz20_1 hfz20_0 hfz20_1); (try clear hcz21_0 hcz21_1 hfz21_0 hfz21_1); (try clear hcz27_0 hcz27_1 hfz27_0 hfz27_1); (try clear hx332_0); (try clear hx332_1); (try clear hx334_0); (try clear hx334_1); (try clear p2); (try clear p332); (try clear p334); (try clear q332); (try clear q334); obtain ⟨kq, x5_12, HA, HJ12, HO_5, BK328, BK333, BK335, HB⟩ := hcut
          cases kq with
          | zero => exact absurd HA.out (by simp [impl_widthAt.j1])
          | succ kj12 =>
           have H := HA.out; clear HA
           simp only [impl_widthAt.j1] at H
           have HC30 := zQ H; clear H
           go_upto_region 8 with (fail)
           go_cut [57] (fun v57 wc => ∃ (kq : Nat) (x57_29 : Bool), v57 = .bool x57_29 ∧ Aside0 (impl_widthAt.j2 kq l0 a1 x5_12 l0 (l0.length : Int) x14_1 x57_29 ((rd_T49 l0 x14_1).f0) ((rd_T49 l0 x14_1).f1) ((rd_T49 l0 (ji10)).f0) ((rd_T49 l0 (ji10)).f1) = some (r1, r2)) ∧ Aside0 (kq ≤ kj12) ∧ Aside0 (Kd.R k25 25 wc w.heap.size (fun k_ => k_ ≠ gb328) u5 x5_12) ∧ Aside0 (wc.heap[gb328]? = some (.cells #[.int .i64 0, .int .i64 0] 25 (0, 0))) ∧ Aside0 (wc.heap[gb333]? = some (.cells #[.int .i64 ((rd_T49 l0 x14_1).f0), .int .i64 ((rd_T49 l0 x14_1).f1)] 49 (0, 0))) ∧ Aside0 (wc.heap[gb335]? = some (.cells #[.int .i64 ((rd_T49 l0 (ji10)).f0), .int .i64 ((rd_T49 l0 (ji10)).f1)] 49 (0, 0))) ∧ Aside0 (Below w.heap.size w wc))
           case first =>
            have H := HC30.out; clear HC30
            by_cases c31 : ((decide (((rd_T49 l0 x14_1).f1) < a1)) != (decide (((rd_T49 l0 (ji10)).f1) < a1))) = true
            ·rw [if_pos c31] at H
             have c31b0 : ((decide (((rd_T49 l0 x14_1).f1) < a1)) != (decide (((rd_T49 l0 (ji10)).f1) < a1))) = true := c31
             (try (have c31b1 : decide ((decide (((rd_T49 l0 x14_1).f1) < a1)) = (decide (((rd_T49 l0 (ji10)).f1) < a1))) = false := by simpa using c31))
             (try (have c31b2 : ((decide (((rd_T49 l0 x14_1).f1) < a1)) == (decide (((rd_T49 l0 (ji10)).f1) < a1))) = false := by simpa using c31))
             (try (have c31b3 : ¬ ((decide (((rd_T49 l0 x14_1).f1) < a1)) = (decide (((rd_T49 l0 (ji10)).f1) < a1))) := by simpa using c31))
             clear c31
             (first | rw [c31b0] | (simp only [i64_w, i32_w]; rw [c31b0]) | skip)
             by_cases c32 : ((rd_T49 l0 x14_1).f1) = a1
             ·rw [if_pos c32] at H
              have c32b0 : (((rd_T49 l0 x14_1).f1) == a1) = true := beq_iff_eq.mpr c32; have c32b1 : (((rd_T49 l0 x14_1).f1) != a1) = false := bne_eq_false_iff_eq.mpr c32; clear c32; have H' := zQ H; clear H; have hnb33 := NB333_328.out; have hnc33 := NB328_333.out; have hnb34 := NB333_335.out; have hnc34 := NB335_333.out; obtain ⟨hcz35_0, hcz35_1, hfz35_0, hfz35_1⟩ := zy2 BK333.out; have hnb36 := NB335_328.out; have hnc36 := NB328_335.out; obtain ⟨hcz37_0, hcz37_1, hfz37_0, hfz37_1⟩ := zy2 BK335.out
              go_wp2
              go_meet
              case rel => exact ⟨_, (false), (zF), H', ⟨by have := HK1.out; have := HJ12.out; first | omega | exact Nat.le_refl _⟩, ⟨zR HO_5.out⟩, ⟨zb BK328.out⟩, ⟨zb BK333.out⟩, ⟨zb BK335.out⟩, ⟨by repeat (first | (with_reducible first | exact HB.out | apply below_alloc | apply pw_below_drewN | apply below_drew1 | refine below_set ?_ GE328.out | refine below_set ?_ GE333.out | refine below_set ?_ GE335.out) | exact HB.out)⟩⟩
             ·rw [if_neg c32] at H
              have c32b0 : (((rd_T49 l0 x14_1).f1) == a1) = false := beq_eq_false_iff_ne.mpr c32; have c32b1 : (((rd_T49 l0 x14_1).f1) != a1) = true := bne_iff_ne.mpr c32; have H' := zQ H; clear H; have hnb38 := NB333_328.out; have hnc38 := NB328_333.out; have hnb39 := NB333_335.out; have hnc39 := NB335_333.out; obtain ⟨hcz40_0, hcz40_1, hfz40_0, hfz40_1⟩ := zy2 BK333.out; have hnb41 := NB335_328.out; have hnc41 := NB328_335.out; obtain ⟨hcz42_0, hcz42_1, hfz42_0, hfz42_1⟩ := zy2 BK335.out
              go_wp2
              go_meet
              case rel => exact ⟨_, ((((rd_T49 l0 (ji10)).f1) != a1)), (by first | rfl | (simp; done) | (simp only [← hji10] <;> (first | rfl | simp)) | (simp [*]; done)), H', ⟨by have := HK1.out; have := HJ12.out; first | omega | exact Nat.le_refl _⟩, ⟨zR HO_5.out⟩, ⟨zb BK328.out⟩, ⟨zb BK333.out⟩, ⟨zb BK335.out⟩, ⟨by repeat (first | (with_reducible first | exact HB.out | apply below_alloc | apply pw_below_drewN | apply below_drew1 | refine below_set ?_ GE328.out | refine below_set ?_ GE333.out | refine below_set ?_ GE335.out) | exact HB.out)⟩⟩
            ·rw [if_neg c31] at H
             have c31b0 : ((decide (((rd_T49 l0 x14_1).f1) < a1)) != (decide (((rd_T49 l0 (ji10)).f1) < a1))) = false := by simpa using c31
             (try (have c31b1 : decide ((decide (((rd_T49 l0 x14_1).f1) < a1)) = (decide (((rd_T49 l0 (ji10)).f1) < a1))) = true := by simpa using c31))
             (try (have c31b2 : ((decide (((rd_T49 l0 x14_1).f1) < a1)) == (decide (((rd_T49 l0 (ji10)).f1) < a1))) = true := by simpa using c31))
             clear c31
             (first | rw [c31b0] | (simp only [i64_w, i32_w]; rw [c31b0]) | skip)
             have H' := zQ H; clear H; have hnb43 := NB333_328.out; have hnc43 := NB328_333.out; have hnb44 := NB333_335.out; have hnc44 := NB335_333.out; obtain ⟨hcz45_0, hcz45_1, hfz45_0, hfz45_1⟩ := zy2 BK333.out; have hnb46 := NB335_328.out; have hnc46 := NB328_335.out; obtain ⟨hcz47_0, hcz47_1, hfz47_0, hfz47_1⟩ := zy2 BK335.out
             go_wp2
             go_meet
             case rel => exact ⟨_, (false), (zF), H', ⟨by have := HK1.out; have := HJ12.out; first | omega | exact Nat.le_refl _⟩, ⟨zR HO_5.out⟩, ⟨zb BK328.out⟩, ⟨zb BK333.out⟩, ⟨zb BK335.out⟩, ⟨by repeat (first | (with_reducible first | exact HB.out | apply below_alloc | apply pw_below_drewN | apply below_drew1 | refine below_set ?_ GE328.out | refine below_set ?_ GE333.out | refine below_set ?_ GE335.out) | exact HB.out)⟩⟩
           case rest =>
            clear HC30; (try clear c1); (try clear c2); (try clear p2); (try clear c3); (try clear p3); (try clear q3); (try clear hx3); (try clear c4); (try clear c5); (try clear c6); (try clear c6b0); (try clear p6); (try clear c7); (try clear c7b0); (try clear c8); (try clear c8b0); (try clear c9); (try clear c9b0); (try clear c9b1); (try clear c9b2); (try clear c11); (try clear c11b0); (try clear c12); (try clear c12b0); (try clear c15); (try clear c18); (try clear c19); (try clear c22); (try clear c22b0); (try clear c22b1); (try clear c24); (try clear c25); (try clear c26); (try clear c31); (try clear c31b0); (try clear c31b1); (try clear c31b2); (try clear c32); (try clear c32b0); (try clear c32b1); (try clear c33); (try clear p33); (try clear q33); (try clear hx33); (try clear c34); (try clear c35); (try clear c36); (try clear c38); (try clear c39); (try clear c41); (try clear c43); (try clear c44); (try clear c46); (try clear hcz16_0 hcz16_1 hfz16_0 hfz16_1); (try clear hcz20_0 hcz20_1 hfz20_0 hfz20_1); (try clear hcz21_0 hcz21_1 hfz21_0 hfz21_1); (try clear hcz27_0 hcz27_1); (try clear hcz35_0 hcz35_1); (try clear hcz37_0 hcz37_1); (try clear hcz40_0 hcz40_1); (try clear hcz42_0 hcz42_1); (try clear hcz45_0 hcz45_1); (try clear hcz47_0 hcz47_1)
            (try clear hfz27_0 hfz27_1); (try clear hfz35_0 hfz35_1); (try clear hfz37_0 hfz37_1); (try clear hfz40_0 hfz40_1); (try clear hfz42_0 hfz42_1); (try clear hfz45_0 hfz45_1); (try clear hfz47_0 hfz47_1); (try clear hx332_0); (try clear hx332_1); (try clear hx334_0); (try clear hx334_1); (try clear p2); (try clear p3); (try clear p332); (try clear p334); (try clear p6); (try clear q3); (try clear q332); (try clear q334); obtain ⟨kq, x57_29, rfl, HA, HJ29, HO_5, BK328, BK333, BK335, HB⟩ := hcut
            cases kq with
            | zero => exact absurd HA.out (by simp [impl_widthAt.j2])
            | succ kj29 =>
             have H := HA.out; clear HA
             simp only [impl_widthAt.j2] at H
             by_cases c48 : x57_29 = true
             ·subst c48
              rw [if_pos rfl] at H; replace H := zob H; obtain ⟨⟨t341, t342⟩, A49, H⟩ := H; replace H := zob H; obtain ⟨⟨t343, t344⟩, A50, H⟩ := H; replace H := zob H; obtain ⟨⟨t345, t346⟩, A51, H⟩ := H
              by_cases c52 : x5_12.length < 8796093022208
              ·rw [if_pos c52] at H
               have LMc52 := zQ c52; clear c52; obtain ⟨y347, hy347⟩ : ∃ y_ : List (S25), y_ = (x5_12 ++ [(⟨t345, t346⟩ : S25)]) := ⟨_, rfl⟩; replace H : (impl_widthAt.l0 kj29 l0 a1 y347 l0 (l0.length : Int) (wrap64 (x14_1 + 1))) = some (r1, r2) := zh H; have Ny347 := zQ hy347; clear hy347; have H' := zQ H; clear H
               try go_wp2
               have n0_ := zQ (Kd.R_drew HO_5.out); have n1_ := zQ (blk_drew BK328.out); have n2_ := zQ (blk_drew BK333.out); have n3_ := zQ (blk_drew BK335.out); have n4_ := zQ (below_drew1 HB.out); clear HO_5; clear BK328; clear BK333; clear BK335; clear HB; have HO_5 := n0_; have BK328 := n1_; have BK333 := n2_; have BK335 := n3_; have HB := n4_; clear n0_ n1_ n2_ n3_ n4_
               refine zs (fun w' => w'.cell? ⟨gb333, 0, none⟩ = some (.int .i64 ((rd_T49 l0 x14_1).f0)) ∧ w'.cell? ⟨gb333, 1, none⟩ = some (.int .i64 ((rd_T49 l0 x14_1).f1)) ∧ w'.cell? ⟨gb335, 0, none⟩ = some (.int .i64 ((rd_T49 l0 (ji10)).f0)) ∧ w'.cell? ⟨gb335, 1, none⟩ = some (.int .i64 ((rd_T49 l0 (ji10)).f1))) [] 24 ⟨(blk_cell BK333.out 0).trans rfl, (blk_cell BK333.out 1).trans rfl, (blk_cell BK335.out 0).trans rfl, (blk_cell BK335.out 1).trans rfl⟩ (fun hHeld => ?_); refine with_tabW impl_widthAt.tab9 impl_widthAt.bits9 (fun HT_ HW_ => ?_)
               generalize wc.drew = w53 at HO_5 BK328 BK333 BK335 HB hHeld ⊢
               refine zp 0 58 ?_
               refine zp 1 59 ?_
               refine zp 4 62 ?_
               refine zp 6 64 ?_
               refine zp 9 67 ?_
               refine zp 10 68 ?_
               refine zp 14 72 ?_
               refine zp 16 74 ?_
               refine zt 2 60 hHeld ?_
               refine zt 5 63 hHeld ?_
               refine zt 7 65 hHeld ?_
               refine zp 8 66 ?_
               refine zt 11 69 hHeld ?_
               refine zp 12 70 ?_
               refine zp 13 71 ?_
               refine zt 15 73 hHeld ?_
               refine zt 17 75 hHeld ?_
               refine zp 18 76 ?_
               refine zo 3 (some 61) (fun K hK => ?_)
               refine goes_ Try.func59 (by kernel_rfl) rfl #[.int .i64 ((rd_T49 l0 x14_1).f0), .int .i64 1] (by rfl) rfl rfl zM ?_
               with_reducible refine (impl_fraction.calls kj29 ((rd_T49 l0 x14_1).f0) 1 t341 t342 _ A49.out).mono ?_
               rintro e w54 ⟨rfl, hb⟩
               refine ⟨_, rfl, ?_⟩
               have n0_ := zRb HO_5.out hb; have n1_ := zbl BK328.out hb; have n2_ := zbl BK333.out hb; have n3_ := zbl BK335.out hb; have n4_ := zQ (below_step (by repeat (first | (with_reducible first | exact HB.out | apply below_alloc | apply pw_below_drewN | apply below_drew1 | refine below_set ?_ GE328.out | refine below_set ?_ GE333.out | refine below_set ?_ GE335.out) | exact HB.out)) hb); clear HO_5; clear BK328; clear BK333; clear BK335; clear HB; have HO_5 := n0_; have BK328 := n1_; have BK333 := n2_; have BK335 := n3_; have HB := n4_; clear n0_ n1_ n2_ n3_ n4_
               (try clear hb)
               (try clear hb2)
               (try clear hk)
               (try clear hi)
               refine hK.out _ _ ⟨(blk_cell BK333.out 0).trans rfl, (blk_cell BK333.out 1).trans rfl, (blk_cell BK335.out 0).trans rfl, (blk_cell BK335.out 1).trans rfl⟩ (fun hHeld => ?_)
               clear hK K
               refine zn 61 ?_
               refine zo 19 (some 77) (fun K hK => ?_)
               refine goes_ Try.func59 (by kernel_rfl) rfl #[.int .i64 (wrap64 ((wrap64 (((rd_T49 l0 (ji10)).f0) - ((rd_T49 l0 x14_1).f0))) * (wrap64 (a1 - ((rd_T49 l0 x14_1).f1))))), .int .i64 (wrap64 (((rd_T49 l0 (ji10)).f1) - ((rd_T49 l0 x14_1).f1)))] (by rfl) rfl rfl (by (try simp only [List.map_toArray, List.map_cons, List.map_nil]); first | done | (simp only [hji10]; rfl) | rfl | (simp only [List.length_drop, List.length_take]; rfl)) ?_
               with_reducible refine (impl_fraction.calls kj29 (wrap64 ((wrap64 (((rd_T49 l0 (ji10)).f0) - ((rd_T49 l0 x14_1).f0))) * (wrap64 (a1 - ((rd_T49 l0 x14_1).f1))))) (wrap64 (((rd_T49 l0 (ji10)).f1) - ((rd_T49 l0 x14_1).f1))) t343 t344 _ A50.out).mono ?_
               rintro e w55 ⟨rfl, hb⟩
               refine ⟨_, rfl, ?_⟩
               have n0_ := zRb HO_5.out hb; have n1_ := zbl BK328.out hb; have n2_ := zbl BK333.out hb; have n3_ := zbl BK335.out hb; have n4_ := zQ (below_step (by repeat (first | (with_reducible first | exact HB.out | apply below_alloc | apply pw_below_drewN | apply below_drew1 | refine below_set ?_ GE328.out | refine below_set ?_ GE333.out | refine below_set ?_ GE335.out) | exact HB.out)) hb); clear HO_5; clear BK328; clear BK333; clear BK335; clear HB; have HO_5 := n0_; have BK328 := n1_; have BK333 := n2_; have BK335 := n3_; have HB := n4_; clear n0_ n1_ n2_ n3_ n4_
               (try clear hb)
               (try clear hb2)
               (try clear hk)
               (try clear hi)
               refine hK.out _ _ ⟨(blk_cell BK333.out 0).trans rfl, (blk_cell BK333.out 1).trans rfl, (blk_cell BK335.out 0).trans rfl, (blk_cell BK335.out 1).trans rfl⟩ (fun hHeld => ?_)
               clear hK K
               refine zn 77 ?_
               refine zo 20 (some 78) (fun K hK => ?_)
               refine goes_ Try.func60 (by kernel_rfl) rfl #[.agg #[.int .i64 t341, .int .i64 t342], .agg #[.int .i64 t343, .int .i64 t344]] (by rfl) rfl rfl zM ?_
               with_reducible refine (impl_addFractions.calls kj29 t341 t342 t343 t344 t345 t346 _ A51.out).mono ?_
               rintro e w56 ⟨rfl, hb⟩
               refine ⟨_, rfl, ?_⟩
               have n0_ := zRb HO_5.out hb; have n1_ := zbl BK328.out hb; have n2_ := zbl BK333.out hb; have n3_ := zbl BK335.out hb; have n4_ := zQ (below_step (by repeat (first | (with_reducible first | exact HB.out | apply below_alloc | apply pw_below_drewN | apply below_drew1 | refine below_set ?_ GE328.out | refine below_set ?_ GE333.out | refine below_set ?_ GE335.out) | exact HB.out)) hb); clear HO_5; clear BK328; clear BK333; clear BK335; clear HB; have HO_5 := n0_; have BK328 := n1_; have BK333 := n2_; have BK335 := n3_; have HB := n4_; clear n0_ n1_ n2_ n3_ n4_
               (try clear hb)
               (try clear hb2)
               (try clear hk)
               (try clear hi)
               refine hK.out _ _ ⟨(blk_cell BK333.out 0).trans rfl, (blk_cell BK333.out 1).trans rfl, (blk_cell BK335.out 0).trans rfl, (blk_cell BK335.out 1).trans rfl⟩ (fun hHeld => ?_)
               clear hK K
               refine zn 78 ?_
               refine zo 21 (some 79) (fun K hK => ?_)
               refine value_ (w1 := ?_) (v := ?_) (by rfl) rfl ?_ ?_
               rotate_left 2
               ·go_simp
                constructor
                ·rfl
                ·rfl
               refine hK.out _ _ ⟨(blk_cell (blk_alloc BK333.out _) 0).trans rfl, (blk_cell (blk_alloc BK333.out _) 1).trans rfl, (blk_cell (blk_alloc BK335.out _) 0).trans rfl, (blk_cell (blk_alloc BK335.out _) 1).trans rfl⟩ (fun hHeld => ?_)
               clear hK K
               refine zn 79 ?_
               refine zo 22 (some 80) (fun K hK => ?_)
               refine Kd.R_append_step k25 (w0 := w) w.heap.size (by rfl) (.tmp 58) (.tmp 79) 67 25 (.agg #[(.int .i64 0), (.int .i64 0)]) 16 rfl Try.underlying67 info25 rfl (by decide) (by omega) u5 x5_12 (⟨t345, t346⟩ : S25) [.int .i64 t345, .int .i64 t346] (fun k_ => k_ ≠ gb328) (fun _ => False) rfl rfl ?aP (fun _ hk => hk.elim) ?aF ?aO ?aB ?aS ?aL ?_
               (case aP => exact k25_mkM _ _ _ (⟨t345, t346⟩ : S25))
               (case aB => exact (by repeat (first | (with_reducible first | exact HB.out | apply below_alloc | apply pw_below_drewN | apply below_drew1 | refine below_set ?_ GE328.out | refine below_set ?_ GE333.out | refine below_set ?_ GE335.out) | exact HB.out)))
               (case aF => exact (fun k_ hk => Kd.freshB (g := gb328) (o := .cells #[.int .i64 0, .int .i64 0] 25 (0, 0)) (zb BK328.out) k_ hk))
               (case aO => exact (zR HO_5.out))
               (case aS => exact (below_size (by repeat (first | (with_reducible first | exact HB.out | apply below_alloc | apply pw_below_drewN | apply below_drew1 | refine below_set ?_ GE328.out | refine below_set ?_ GE333.out | refine below_set ?_ GE335.out) | exact HB.out))))
               (case aL => have := LMc52.out; omega)
               intro v348 w57 ho hb hg hat
               rw [← Ny347.out] at ho; have n0_ := zQ (blk_grown (g := gb328) (o := .cells #[.int .i64 0, .int .i64 0] 25 (0, 0)) (zb BK328.out) hg (Kd.R_away HO_5.out (fun _ hk => hk))); have n1_ := zQ (blk_grown (g := gb333) (o := .cells #[.int .i64 ((rd_T49 l0 x14_1).f0), .int .i64 ((rd_T49 l0 x14_1).f1)] 49 (0, 0)) (zb BK333.out) hg (Kd.R_ne HO_5.out BK333.out (by decide))); have n2_ := zQ (blk_grown (g := gb335) (o := .cells #[.int .i64 ((rd_T49 l0 (ji10)).f0), .int .i64 ((rd_T49 l0 (ji10)).f1)] 49 (0, 0)) (zb BK335.out) hg (Kd.R_ne HO_5.out BK335.out (by decide))); have n3_ := zQ (hb); have n4_ := zQ (ho); clear BK328; clear BK333; clear BK335; clear HB; clear HO_5; have BK328 := n0_; have BK333 := n1_; have BK335 := n2_; have HB := n3_; have HO349 := n4_; clear n0_ n1_ n2_ n3_ n4_; clear ho hb hg hat
               refine hK.out _ _ ⟨(blk_cell BK333.out 0).trans rfl, (blk_cell BK333.out 1).trans rfl, (blk_cell BK335.out 0).trans rfl, (blk_cell BK335.out 1).trans rfl⟩ (fun hHeld => ?_)
               clear hK K
               refine zn 80 ?_
               refine zp 23 5 ?_
               refine done_ (done_of HT_.out (by kernel_rfl)) ?_
               try go_wp2
               go_roundg kj29
               case measure => have := HK1.out; have := HJ12.out; have := HJ29.out; omega
               case rel => exact ⟨(y347), (wrap64 (x14_1 + 1)), (zF), H', ⟨by have := HK1.out; have := HJ12.out; have := HJ29.out; omega⟩, ⟨zR HO349.out⟩, ⟨zb BK328.out⟩, ⟨by repeat (first | (with_reducible first | exact HB.out | apply below_alloc | apply pw_below_drewN | apply below_drew1 | refine below_set ?_ GE328.out | refine below_set ?_ GE333.out | refine below_set ?_ GE335.out) | exact HB.out)⟩⟩
              ·rw [if_neg c52] at H
               exact absurd H (by simp)
             ·replace c48 := Bool.eq_false_iff.mpr c48
              subst c48
              rw [if_neg Bool.false_ne_true] at H; have H' := zQ H; clear H
              go_wp2
              go_roundg kj29
              case measure => have := HK1.out; have := HJ12.out; have := HJ29.out; omega
              case rel => exact ⟨(x5_12), (wrap64 (x14_1 + 1)), (zF), H', ⟨by have := HK1.out; have := HJ12.out; have := HJ29.out; omega⟩, ⟨zR HO_5.out⟩, ⟨zb BK328.out⟩, ⟨by repeat (first | (with_reducible first | exact HB.out | apply below_alloc | apply pw_below_drewN | apply below_drew1 | refine below_set ?_ GE328.out | refine below_set ?_ GE333.out | refine below_set ?_ GE335.out) | exact HB.out)⟩⟩
        ·rw [if_neg c12] at H
         exact absurd H (by simp)
       ·rw [if_neg c11] at H
        exact absurd H (by simp)
     ·rw [if_neg c8] at H
      exact absurd H (by simp)
    ·rw [if_neg c7] at H
     exact absurd H (by simp)
   ·rw [if_neg c6] at H
    have c6b0 := decide_eq_false c6; clear c6; replace H := zob H; obtain ⟨⟨t350, t351⟩, A58, H⟩ := H; replace H := zob H; obtain ⟨⟨t353, t354⟩, A59, H⟩ := H; replace H := zob H; obtain ⟨⟨t356, t357⟩, A60, H⟩ := H
    simp only [Option.some.injEq, Prod.mk.injEq] at H
    obtain ⟨rfl, rfl⟩ := H; obtain ⟨Ao61, co61, eo61⟩ := Kd.R_slice HO_5.out; subst eo61
    go_wp2_with (first | ((with_reducible refine zgc 61 ?_); refine zgo (some 83) Try.func61 #[.slice Ao61 x5_1.length co61, .func (.func 62) #[] #[]] ?_; (with_reducible refine (impl_Fraction_61.calls k1 _ _ x5_1  t350 t351 _ ?side1 ((Kd.R_reads' HO_5.out).2.1) A58.out).mono ?_); (case side1 => exact zk (Kd.R_reads' HO_5.out).2.2); rintro e w62 ⟨rfl, hb⟩; refine ⟨_, rfl, ?_⟩; replace HO_5 := zRb HO_5.out hb; replace BK328 := zbl BK328.out hb; replace HB := zbs2 HB.out GE328.out hb; (try clear hb)) | ((with_reducible refine zd 9 ?_); refine zbx (N := 9) (cs := #[.int .i64 0, .int .i64 0]) (t := 25) ?_; intro gb352 hg w63 hbox hb; have BK352 := zQ (hbox); have GW352 := zgz2 hg HB.out GE328.out; have GE352 := GW352; have NB328_352 := zn1 hg BK328.out; have NB352_328 := zn2 hg BK328.out; replace HO_5 := zQ (Kd.R_below (Kd.R_elderB (zR HO_5.out) gb352 (Nat.le_of_eq hg.symm)) hb); replace BK328 := zbl BK328.out hb; replace HB := zbs2 HB.out GE328.out hb; clear hb hbox hg; have hnb64 := NB352_328.out; have hnc64 := NB328_352.out; obtain ⟨hcz65_0, hcz65_1, hfz65_0, hfz65_1⟩ := zy2 BK352.out) | ((with_reducible refine zgc 63 ?_); refine zgo (some 85) Try.func63 #[.slice Ao61 x5_1.length co61, .func (.func 62) #[] #[]] ?_; (with_reducible refine (impl_Fraction_63.calls k1 _ _ x5_1  t353 t354 _ ?side1 ((Kd.R_reads' HO_5.out).2.1) A59.out).mono ?_); (case side1 => refine (Kd.R_reads' (e := 25) (base := w.heap.size) (ok := fun k_ => (k_ ≠ gb328 ∧ k_ ≠ gb352)) (n := x5_1.length) (c := co61) ?_).2.2; exact (by (with_reducible repeat (first | apply Kd.R_alloc | apply Kd.R_drewN | apply Kd.R_drew)); exact (Kd.R_mono (Kd.R_far (p := ⟨gb352, 1, none⟩) (Kd.R_far (p := ⟨gb352, 0, none⟩) (Kd.R_mono HO_5.out (fun k_ hk => (⟨hk, hk.2⟩ : _ ∧ k_ ≠ gb352))) (fun _ hk => hk.2) (.int .i64 t350)) (fun _ hk => hk.2) (.int .i64 t351)) (fun _ h_ => h_.1)))); rintro e w66 ⟨rfl, hb⟩; refine ⟨_, rfl, ?_⟩; replace HO_5 := zQ (Kd.R_below (by (with_reducible repeat (first | apply Kd.R_alloc | apply Kd.R_drewN | apply Kd.R_drew)); exact (Kd.R_mono (Kd.R_far (p := ⟨gb352, 1, none⟩) (Kd.R_far (p := ⟨gb352, 0, none⟩) (Kd.R_mono HO_5.out (fun k_ hk => (⟨hk, hk.2⟩ : _ ∧ k_ ≠ gb352))) (fun _ hk => hk.2) (.int .i64 t350)) (fun _ hk => hk.2) (.int .i64 t351)) (fun _ h_ => h_.1))) hb); replace BK328 := zQ (blk_below (g := gb328) (o := .cells #[.int .i64 0, .int .i64 0] 25 (0, 0)) (by refine zb ?_; refine blk_far ?_ NB328_352.out _; refine zb ?_; refine blk_far ?_ NB328_352.out _; refine zb ?_; exact BK328.out) hb); replace BK352 := zQ (blk_below (g := gb352) (o := .cells #[.int .i64 t350, .int .i64 t351] 25 (0, 0)) (by refine zb ?_; refine blk_put (cs := #[.int .i64 t350, .int .i64 0]) ?_ 1 _ rfl; refine zb ?_; refine blk_put (cs := #[.int .i64 0, .int .i64 0]) ?_ 0 _ rfl; refine zb ?_; exact BK352.out) hb); replace HB := zQ (below_step (zB3 HB.out GE328.out GE352.out) hb); (try clear hb)) | ((with_reducible refine zd 10 ?_); refine zbx (N := 10) (cs := #[.int .i64 0, .int .i64 0]) (t := 25) ?_; intro gb355 hg w67 hbox hb; have BK355 := zQ (hbox); have GW355 := zQ ((by rw [hg]; exact (below_size (zB3 HB.out GE328.out GE352.out)) : w.heap.size ≤ gb355)); have GE355 := zQ ((by rw [hg]; exact (below_size (zB3 HB.out GE328.out GE352.out)) : w.heap.size ≤ gb355)); have NB328_355 := zn1 hg BK328.out; have NB355_328 := zn2 hg BK328.out; have NB352_355 := zn1 hg BK352.out; have NB355_352 := zn2 hg BK352.out; replace HO_5 := zQ (Kd.R_below (Kd.R_elderB (zR HO_5.out) gb355 (Nat.le_of_eq hg.symm)) hb); replace BK328 := zbl BK328.out hb; replace BK352 := zbl BK352.out hb; replace HB := zQ (below_step (zB3 HB.out GE328.out GE352.out) hb); clear hb hbox hg; have hnb68 := NB355_328.out; have hnc68 := NB328_355.out; have hnb69 := NB355_352.out; have hnc69 := NB352_355.out; obtain ⟨hcz70_0, hcz70_1, hfz70_0, hfz70_1⟩ := zy2 BK355.out; obtain ⟨hcz71_0, hcz71_1, hfz71_0, hfz71_1⟩ := zy2 BK352.out) | ((with_reducible refine zgc 60 ?_); refine zgo (some 93) Try.func60 #[.agg #[.int .i64 t353, .int .i64 t354], .agg #[.int .i64 (wrap64 (-t350)), .int .i64 t351]] ?_; (with_reducible refine (impl_addFractions.calls k1 t353 t354 (wrap64 (-t350)) t351 t356 t357 _ A60.out).mono ?_); rintro e w72 ⟨rfl, hb⟩; refine ⟨_, rfl, ?_⟩; replace HO_5 := zQ (Kd.R_below (by (with_reducible repeat (first | apply Kd.R_alloc | apply Kd.R_drewN | apply Kd.R_drew)); exact (Kd.R_mono (Kd.R_far (p := ⟨gb355, 1, none⟩) (Kd.R_far (p := ⟨gb355, 0, none⟩) (Kd.R_mono HO_5.out (fun k_ hk => (⟨hk, hk.2⟩ : _ ∧ k_ ≠ gb355))) (fun _ hk => hk.2) (.int .i64 t353)) (fun _ hk => hk.2) (.int .i64 t354)) (fun _ h_ => h_.1))) hb); replace BK328 := zQ (blk_below (g := gb328) (o := .cells #[.int .i64 0, .int .i64 0] 25 (0, 0)) (by refine zb ?_; refine blk_far ?_ NB328_355.out _; refine zb ?_; refine blk_far ?_ NB328_355.out _; refine zb ?_; exact BK328.out) hb); replace BK352 := zQ (blk_below (g := gb352) (o := .cells #[.int .i64 t350, .int .i64 t351] 25 (0, 0)) (by refine zb ?_; refine blk_far ?_ NB352_355.out _; refine zb ?_; refine blk_far ?_ NB352_355.out _; refine zb ?_; exact BK352.out) hb); replace BK355 := zQ (blk_below (g := gb355) (o := .cells #[.int .i64 t353, .int .i64 t354] 25 (0, 0)) (by refine zb ?_; refine blk_put (cs := #[.int .i64 t353, .int .i64 0]) ?_ 1 _ rfl; refine zb ?_; refine blk_put (cs := #[.int .i64 0, .int .i64 0]) ?_ 0 _ rfl; refine zb ?_; exact BK355.out) hb); replace HB := zQ (below_step (by repeat (first | (with_reducible first | exact HB.out | apply below_alloc | apply pw_below_drewN | apply below_drew1 | refine below_set ?_ GE328.out | refine below_set ?_ GE352.out | refine below_set ?_ GE355.out) | exact HB.out)) hb); (try clear hb); obtain ⟨hcz73_0, hcz73_1, hfz73_0, hfz73_1⟩ := zy2 BK328.out))
    refine bodyPost_ret (results_cell_row rfl _ _ gb328 25 #[.int .i64 t356, .int .i64 t357] (0, 0) _ rfl (by refine zb ?_; refine blk_put (cs := #[.int .i64 t356, .int .i64 0]) ?_ 1 _ rfl; refine zb ?_; refine blk_put (cs := #[.int .i64 0, .int .i64 0]) ?_ 0 _ rfl; refine zb ?_; exact BK328.out) Try.underlying25 rfl (by kernel_rfl)) rfl ?_
    exact ⟨zE, by repeat (first | (with_reducible first | exact HB.out | apply below_alloc | apply pw_below_drewN | apply below_drew1 | refine below_set ?_ GE328.out | refine below_set ?_ GE352.out | refine below_set ?_ GE355.out) | exact HB.out)⟩

end
end Go.Proofs.Ytcomncokgkeniaa.PSailw

