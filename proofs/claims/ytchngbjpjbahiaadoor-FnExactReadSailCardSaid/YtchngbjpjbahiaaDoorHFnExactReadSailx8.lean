/- The walks of the functions that the law reaches: each computes what its Lean function says. No condition beyond each contract's own. -/
import Derived.Test.YtchngbjpjbahiaaDoorHFnExactReadSailx0
namespace Go.Proofs.YtchngbjpjbahiaaDoor.PFnExactReadSail
open Go.RowKit Go.Proofs.YtchngbjpjbahiaaDoorW.PrintWords Go.Proofs.YtchngbjpjbahiaaDoorW.PrintLast Go.Proofs.YtchngbjpjbahiaaDoorW.PrintMore
attribute [local go_sem] max2_int min2_int max_two min_two max_three min_three max_four min_four   -- for this text's walks alone
set_option linter.unusedVariables false
set_option linter.unusedSimpArgs false

/-! ### impl_twiceSail: function 34 -/
def impl_twiceSail.l0 : Nat → List (S35) → Int → List (S35) → Int → Int → Option (Int)
 | 0, _, _, _, _, _ => none
 | k + 1, x0, x3, x7, x8, x9 => if x9 < x8 then (if 0 ≤ x9 then (if x9 < (x7.length : Int) then (if (x0.length : Int) = 0 then (none) else (if 0 ≤ (Int.tmod (wrap64 (x9 + 1)) (x0.length : Int)) then (if (Int.tmod (wrap64 (x9 + 1)) (x0.length : Int)) < (x0.length : Int) then (impl_twiceSail.l0 k x0 (wrap64 (x3 + (wrap64 ((wrap64 (((rd_T35 x7 x9).f0) * ((rd_T35 x0 (Int.tmod (wrap64 (x9 + 1)) (x0.length : Int))).f1))) - (wrap64 (((rd_T35 x0 (Int.tmod (wrap64 (x9 + 1)) (x0.length : Int))).f0) * ((rd_T35 x7 x9).f1))))))) x7 x8 (wrap64 (x9 + 1))) else (none)) else (none))) else (none)) else (none)) else (some x3)
def impl_twiceSail.f (k : Nat) (l0 : List (S35)) : Option (Int) := impl_twiceSail.l0 k l0 0 l0 (l0.length : Int) 0
theorem impl_twiceSail.mono_l : ∀ k, (∀ y0 y1 y2 y3 y4, LeO (impl_twiceSail.l0 k y0 y1 y2 y3 y4) (impl_twiceSail.l0 (k + 1) y0 y1 y2 y3 y4))
 | 0 => fun _ _ _ _ _ r h => by simp [impl_twiceSail.l0] at h
 | k + 1 => by
  have ih0 := impl_twiceSail.mono_l k
  ·intro y0 y1 y2 y3 y4
   unfold impl_twiceSail.l0
   (with_reducible repeat' first | apply ih0 | apply LeO.refl | apply LeO.none | refine LeO.ite ?_ ?_ | refine LeO.bind ?_ (fun _ => ?_))
   repeat' first | apply ih0 | apply LeO.none | refine LeO.ite ?_ ?_ | refine LeO.bind ?_ (fun _ => ?_)
theorem impl_twiceSail.mono : ∀ a0 k, LeO (impl_twiceSail.f k a0) (impl_twiceSail.f (k + 1) a0) := by
 intro a0 k
 have ih0 := impl_twiceSail.mono_l k
 unfold impl_twiceSail.f
 (with_reducible repeat' first | apply ih0 | apply LeO.refl | apply LeO.none | refine LeO.ite ?_ ?_ | refine LeO.bind ?_ (fun _ => ?_))
 repeat' first | apply ih0 | apply LeO.none | refine LeO.ite ?_ ?_ | refine LeO.bind ?_ (fun _ => ?_)
set_option maxHeartbeats 8000000 in
set_option maxRecDepth 100000 in
theorem impl_twiceSail.calls (k : Nat) (A0 : Option Addr) (c0 : Nat) (l0 : List (S35)) (r : Int) (w : World) (hr0 : Kd.C k35 w A0 l0.length l0) (hc0 : l0.length ≤ c0) (h : impl_twiceSail.f k l0 = some r) :
  Calls Tryd.prog 34 #[.slice A0 l0.length c0] w fun e w' => e = .returned (.int .i64 r) ∧ Below w.heap.size w w' := by
 have hu35 := Tryd.underlying35
 have HR0 := zQ hr0
 have HC0 := zQ hc0
 clear hr0 hc0
 have HB := zQ (Below.refl w.heap.size w)
 have H : (impl_twiceSail.l0 k l0 0 l0 (l0.length : Int) 0) = some r := h
 clear h
 have H' := zQ H
 clear H
 go_enter Tryd.func34, Tryd.ntmps34
 go_wp2
 go_loopg [3, 9] k (fun kq v3 v9 w' => ∃ (x3_1 : Int) (x9_1 : Int), v3 = .int .i64 x3_1 ∧ v9 = .int .i64 x9_1 ∧ Aside0 (impl_twiceSail.l0 kq l0 x3_1 l0 (l0.length : Int) x9_1 = some r) ∧ Aside0 (kq ≤ k) ∧ Aside0 (Below w.heap.size w w'))
 case atStart => exact ⟨(0), (0), (zF), (zF), H', ⟨Nat.le_refl _⟩, ⟨zB HB.out⟩⟩
 case round =>
  clear H'; obtain ⟨x3_1, x9_1, rfl, rfl, HA, HK1, HB⟩ := hrel
  cases gk with
  | zero => exact absurd HA.out (by simp [impl_twiceSail.l0])
  | succ k1 =>
   have H := HA.out; clear HA
   simp only [impl_twiceSail.l0] at H
   by_cases c2 : x9_1 < (l0.length : Int)
   ·rw [if_pos c2] at H
    have c2b0 : decide (x9_1 < (l0.length : Int)) = true := decide_eq_true c2; clear c2
    by_cases c3 : 0 ≤ x9_1
    ·rw [if_pos c3] at H
     have c3b0 : decide (0 ≤ x9_1) = true := decide_eq_true c3; clear c3
     by_cases c4 : x9_1 < (l0.length : Int)
     ·rw [if_pos c4] at H
      have c4b0 : decide (x9_1 < (l0.length : Int)) = true := decide_eq_true c4; clear c4
      by_cases c5 : (l0.length : Int) = 0
      ·rw [if_pos c5] at H
       exact absurd H (by simp)
      ·rw [if_neg c5] at H
       have c5b0 : ((l0.length : Int) == 0) = false := beq_eq_false_iff_ne.mpr c5; have c5b1 : ((l0.length : Int) != 0) = true := bne_iff_ne.mpr c5
       have c5b2 : ¬ (l0 = []) := fun h_ => c5 (by rw [h_]; rfl)
       obtain ⟨ji6, hji6⟩ : ∃ j_ : Int, (Int.tmod (wrap64 (x9_1 + 1)) (l0.length : Int)) = j_ := ⟨_, rfl⟩
       replace H : (if 0 ≤ (ji6) then (if (ji6) < (l0.length : Int) then (impl_twiceSail.l0 k1 l0 (wrap64 (x3_1 + (wrap64 ((wrap64 (((rd_T35 l0 x9_1).f0) * ((rd_T35 l0 (ji6)).f1))) - (wrap64 (((rd_T35 l0 (ji6)).f0) * ((rd_T35 l0 x9_1).f1))))))) l0 (l0.length : Int) (wrap64 (x9_1 + 1))) else (none)) else (none)) = some r := by first | (rw [hji6] at H; exact H) | (simp only [hji6] at H ⊢; exact H)
       by_cases c7 : 0 ≤ (ji6)
       ·rw [if_pos c7] at H
        have c7b0 : decide (0 ≤ (ji6)) = true := decide_eq_true c7; clear c7
        by_cases c8 : (ji6) < (l0.length : Int)
        ·rw [if_pos c8] at H
         have c8b0 : decide ((ji6) < (l0.length : Int)) = true := decide_eq_true c8; clear c8; have H' := zQ H; clear H; have p239 : 0 ≤ (x9_1 : Int) := of_decide_eq_true zA; have q239 : x9_1 < (l0.length : Int) := of_decide_eq_true zA; obtain ⟨ad239, e239, hx239_0, hx239_1⟩ := at_T35 HR0.out x9_1 p239 q239
         cases e239
         replace hx239_0 := zw HB.out hx239_0; replace hx239_1 := zw HB.out hx239_1; replace p239 := eq_true p239; replace q239 := eq_true q239
         go_wp2_with (first | ((with_reducible refine zd 5 ?_); refine zbx (N := 5) (cs := #[.int .i64 0, .int .i64 0]) (t := 35) ?_; intro gb240 hg w9 hbox hb; have BK240 := zQ (hbox); have GW240 := zgz hg HB.out; have GE240 := GW240; replace HB := zbs HB.out hb; clear hb hbox hg; have hcz10_0 := zc0 BK240.out; have hcz10_1 := zc1 BK240.out; have hfz10_0 := zfz BK240.out 0; have hfz10_1 := zfz BK240.out 1; have p241 : 0 ≤ ((ji6) : Int) := of_decide_eq_true zA; have q241 : (ji6) < (l0.length : Int) := of_decide_eq_true zA; obtain ⟨ad241, e241, hx241_0, hx241_1⟩ := at_T35 HR0.out (ji6) p241 q241; obtain rfl : ad239 = ad241 := (by injection e241); have hn241_0 : ad239.block ≠ gb240 := Nat.ne_of_lt (Nat.lt_of_lt_of_le (by have := World.block_lt_of_cell? _ _ hx241_0; first | rwa [add_block] at this | exact this) GW240.out); have hn241_1 : ad239.block ≠ gb240 := Nat.ne_of_lt (Nat.lt_of_lt_of_le (by have := World.block_lt_of_cell? _ _ hx241_0; first | rwa [add_block] at this | exact this) GW240.out); replace hx241_0 := zw HB.out hx241_0; replace hx241_1 := zw HB.out hx241_1; replace hx241_0 := (cell_far (p := ⟨gb240, 0, none⟩) (by first | (rw [add_block]; exact hn241_0) | (show (Addr.add _ _).block ≠ _; rw [add_block]; exact hn241_0) | exact hn241_0) (.int .i64 ((rd_T35 l0 x9_1).f0))).trans hx241_0; replace hx241_1 := (cell_far (p := ⟨gb240, 0, none⟩) (by first | (rw [add_block]; exact hn241_0) | (show (Addr.add _ _).block ≠ _; rw [add_block]; exact hn241_0) | exact hn241_0) (.int .i64 ((rd_T35 l0 x9_1).f0))).trans hx241_1; replace hx241_0 := (cell_far (p := ⟨gb240, 1, none⟩) (by first | (rw [add_block]; exact hn241_1) | (show (Addr.add _ _).block ≠ _; rw [add_block]; exact hn241_1) | exact hn241_1) (.int .i64 ((rd_T35 l0 x9_1).f1))).trans hx241_0; replace hx241_1 := (cell_far (p := ⟨gb240, 1, none⟩) (by first | (rw [add_block]; exact hn241_1) | (show (Addr.add _ _).block ≠ _; rw [add_block]; exact hn241_1) | exact hn241_1) (.int .i64 ((rd_T35 l0 x9_1).f1))).trans hx241_1; clear hn241_0; clear hn241_1; replace p241 := eq_true p241; replace q241 := eq_true q241) | ((with_reducible refine zd 6 ?_); refine zbx (N := 6) (cs := #[.int .i64 0, .int .i64 0]) (t := 35) ?_; intro gb242 hg w11 hbox hb; have BK242 := zQ (hbox); have GW242 := zgz2 hg HB.out GE240.out; have GE242 := GW242; have NB240_242 := zQ ((by rw [hg]; exact Nat.ne_of_lt (blk_lt (g := gb240) (o := .cells #[.int .i64 ((rd_T35 l0 x9_1).f0), .int .i64 ((rd_T35 l0 x9_1).f1)] 35 (0, 0)) (by refine zb ?_; refine blk_put (cs := #[.int .i64 ((rd_T35 l0 x9_1).f0), .int .i64 0]) ?_ 1 _ rfl; refine zb ?_; refine blk_put (cs := #[.int .i64 0, .int .i64 0]) ?_ 0 _ rfl; refine zb ?_; exact BK240.out)) : gb240 ≠ gb242)); have NB242_240 := zQ ((by rw [hg]; exact Nat.ne_of_gt (blk_lt (g := gb240) (o := .cells #[.int .i64 ((rd_T35 l0 x9_1).f0), .int .i64 ((rd_T35 l0 x9_1).f1)] 35 (0, 0)) (by refine zb ?_; refine blk_put (cs := #[.int .i64 ((rd_T35 l0 x9_1).f0), .int .i64 0]) ?_ 1 _ rfl; refine zb ?_; refine blk_put (cs := #[.int .i64 0, .int .i64 0]) ?_ 0 _ rfl; refine zb ?_; exact BK240.out)) : gb242 ≠ gb240)); replace BK240 := zQ (blk_below (g := gb240) (o := .cells #[.int .i64 ((rd_T35 l0 x9_1).f0), .int .i64 ((rd_T35 l0 x9_1).f1)] 35 (0, 0)) (by refine zb ?_; refine blk_put (cs := #[.int .i64 ((rd_T35 l0 x9_1).f0), .int .i64 0]) ?_ 1 _ rfl; refine zb ?_; refine blk_put (cs := #[.int .i64 0, .int .i64 0]) ?_ 0 _ rfl; refine zb ?_; exact BK240.out) hb); replace HB := zbs2 HB.out GE240.out hb; clear hb hbox hg; have hnb12 := NB242_240.out; have hnc12 := NB240_242.out; have hcz13_0 := zc0 BK242.out; have hcz13_1 := zc1 BK242.out; have hfz13_0 := zfz BK242.out 0; have hfz13_1 := zfz BK242.out 1; have hcz14_0 := zc0 BK240.out; have hcz14_1 := zc1 BK240.out; have hfz14_0 := zfz BK240.out 0; have hfz14_1 := zfz BK240.out 1))
         go_roundg k1
         case measure => have := HK1.out; omega
         case rel => exact ⟨(wrap64 (x3_1 + (wrap64 ((wrap64 (((rd_T35 l0 x9_1).f0) * ((rd_T35 l0 (ji6)).f1))) - (wrap64 (((rd_T35 l0 (ji6)).f0) * ((rd_T35 l0 x9_1).f1))))))), (wrap64 (x9_1 + 1)), (by first | rfl | (simp; done) | (simp only [← hji6] <;> (first | rfl | simp)) | (simp [*]; done)), (zF), H', ⟨by have := HK1.out; omega⟩, ⟨zB3 HB.out GE240.out GE242.out⟩⟩
        ·rw [if_neg c8] at H
         exact absurd H (by simp)
       ·rw [if_neg c7] at H
        exact absurd H (by simp)
     ·rw [if_neg c4] at H
      exact absurd H (by simp)
    ·rw [if_neg c3] at H
     exact absurd H (by simp)
   ·rw [if_neg c2] at H
    have c2b0 : decide (x9_1 < (l0.length : Int)) = false := decide_eq_false c2; clear c2; obtain rfl := Option.some.inj H
    go_wp2
    go_ret
    exact ⟨zE, zB HB.out⟩

end Go.Proofs.YtchngbjpjbahiaaDoor.PFnExactReadSail
