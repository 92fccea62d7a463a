/- The walks of the functions that the law reaches: each computes what its Lean function says. No condition beyond each contract's own. -/
import Derived.Test.YtchngbjpjbahiaaDoorHFnExactReadSailx0
import Derived.Test.YtchngbjpjbahiaaDoorHFnExactReadSailx1
namespace Go.Proofs.YtchngbjpjbahiaaDoor.PFnExactReadSail
open Go.RowKit Go.Proofs.YtchngbjpjbahiaaDoorW.PrintWords Go.Proofs.YtchngbjpjbahiaaDoorW.PrintLast Go.Proofs.YtchngbjpjbahiaaDoorW.PrintMore
attribute [local go_sem] max2_int min2_int max_two min_two max_three min_three max_four min_four   -- for this text's walks alone
set_option linter.unusedVariables false
set_option linter.unusedSimpArgs false

/-! ### spec_l13On: function 43 -/
def spec_l13On.f (a0_0 : Int) (a0_1 : Int) (a1_0 : Int) (a1_1 : Int) (a2_0 : Int) (a2_1 : Int) : Option (Bool) := (spec_l13Cross.f a0_0 a0_1 a1_0 a1_1 a2_0 a2_1).bind fun t112 => (if t112 = 0 then ((spec_l00Min.f a0_0 a1_0).bind fun t113 => ((spec_l00Max.f a0_0 a1_0).bind fun t114 => ((spec_l00In.f a2_0 t113 t114).bind fun t115 => (if t115 = true then ((spec_l00Min.f a0_1 a1_1).bind fun t116 => ((spec_l00Max.f a0_1 a1_1).bind fun t117 => ((spec_l00In.f a2_1 t116 t117).bind fun t118 => (some t118)))) else (some false))))) else (some false))
def spec_l13On.T1 : Bool × List (List Nat × List Nat) := (true, [([], []), ([], []), ([], []), ([0, 1, 2], [0, 1, 2]), ([3], [3]), ([4, 3], [4]), ([5], [5]), ([6, 5], [5, 6]), ([5], [5]), ([8, 5], [5, 8]), ([5], [5]), ([10, 5], [5, 10]), ([9, 11, 5, 5], [5, 9, 11]), ([5], [5]), ([13, 5], [5, 13]), ([5], [5]), ([15, 5], [5, 15]), ([14, 16, 12, 5], [5, 14, 16]), ([7, 12, 17, 17, 5], [5, 7, 12, 17]), ([5, 18], [5, 18]), ([19, 18], [19]), ([20], [20]), ([21, 20], [20, 21]), ([20], [20]), ([23, 20], [20, 23]), ([20], [20]), ([25, 20], [20, 25]), ([24, 26, 20, 20], [20, 24, 26]), ([20], [20]), ([28, 20], [20, 28]), ([20], [20]), ([30, 20], [20, 30]), ([29, 31, 27, 20], [20, 29, 31]), ([22, 27, 32, 32, 20], [20, 22, 27, 32]), ([20, 33], [20, 33]), ([34, 33, 0, 1, 2, 3, 4, 5, 6, 7, 8, 9, 10, 11, 12, 13, 14, 15, 16, 17, 18, 19, 20, 21, 22, 23, 24, 25, 26, 27, 28, 29, 30, 31, 32, 33, 34], [34])])
def spec_l13On.B1 : List Nat := [0, 0, 0, 7, 15, 31, 63, 127, 63, 319, 63, 1087, 3903, 63, 8255, 63, 32831, 130879, 262143, 524287, 1048575, 2097151, 4194303, 2097151, 10485759, 2097151, 35651583, 127926271, 2097151, 270532607, 2097151, 1075838975, 4288675839, 8589934591, 17179869183, 34359738367]
theorem spec_l13On.tab1 : rtab .any (opsOf Tryd.f43 1) = spec_l13On.T1 := by kernel_rfl
theorem spec_l13On.bits1 : waitsOk spec_l13On.T1.2 spec_l13On.B1 = true := by kernel_rfl
set_option maxHeartbeats 8000000 in
set_option maxRecDepth 100000 in
theorem spec_l13On.calls (a0_0 : Int) (a0_1 : Int) (a1_0 : Int) (a1_1 : Int) (a2_0 : Int) (a2_1 : Int) (r : Bool) (w : World) (h : spec_l13On.f a0_0 a0_1 a1_0 a1_1 a2_0 a2_1 = some r) :
  Calls Tryd.prog 43 #[.agg #[.int .i64 a0_0, .int .i64 a0_1], .agg #[.int .i64 a1_0, .int .i64 a1_1], .agg #[.int .i64 a2_0, .int .i64 a2_1]] w fun e w' => e = .returned (.bool r) ∧ Below w.heap.size w w' := by
 have hu35 := Tryd.underlying35
 have HB := zQ (Below.refl w.heap.size w)
 have H : ((spec_l13Cross.f a0_0 a0_1 a1_0 a1_1 a2_0 a2_1).bind fun t112 => (if t112 = 0 then ((spec_l00Min.f a0_0 a1_0).bind fun t113 => ((spec_l00Max.f a0_0 a1_0).bind fun t114 => ((spec_l00In.f a2_0 t113 t114).bind fun t115 => (if t115 = true then ((spec_l00Min.f a0_1 a1_1).bind fun t116 => ((spec_l00Max.f a0_1 a1_1).bind fun t117 => ((spec_l00In.f a2_1 t116 t117).bind fun t118 => (some t118)))) else (some false))))) else (some false))) = some r := h
 clear h
 replace H := Option.bind_eq_some_iff.mp H
 obtain ⟨t112, A40, H⟩ := H
 replace H : (if t112 = 0 then ((spec_l00Min.f a0_0 a1_0).bind fun t113 => ((spec_l00Max.f a0_0 a1_0).bind fun t114 => ((spec_l00In.f a2_0 t113 t114).bind fun t115 => (if t115 = true then ((spec_l00Min.f a0_1 a1_1).bind fun t116 => ((spec_l00Max.f a0_1 a1_1).bind fun t117 => ((spec_l00In.f a2_1 t116 t117).bind fun t118 => (some t118)))) else (some false))))) else (some false)) = some r := H
 have A4 := zQ A40
 clear A40
 by_cases c5 : t112 = 0
 ·rw [if_pos c5] at H
  have c5b0 : (t112 == 0) = true := beq_iff_eq.mpr c5; have c5b1 : (t112 != 0) = false := bne_eq_false_iff_eq.mpr c5; clear c5; replace H := Option.bind_eq_some_iff.mp H; obtain ⟨t113, A60, H⟩ := H; replace H : ((spec_l00Max.f a0_0 a1_0).bind fun t114 => ((spec_l00In.f a2_0 t113 t114).bind fun t115 => (if t115 = true then ((spec_l00Min.f a0_1 a1_1).bind fun t116 => ((spec_l00Max.f a0_1 a1_1).bind fun t117 => ((spec_l00In.f a2_1 t116 t117).bind fun t118 => (some t118)))) else (some false)))) = some r := H; have A6 := zQ A60; clear A60; replace H := Option.bind_eq_some_iff.mp H; obtain ⟨t114, A70, H⟩ := H; replace H : ((spec_l00In.f a2_0 t113 t114).bind fun t115 => (if t115 = true then ((spec_l00Min.f a0_1 a1_1).bind fun t116 => ((spec_l00Max.f a0_1 a1_1).bind fun t117 => ((spec_l00In.f a2_1 t116 t117).bind fun t118 => (some t118)))) else (some false))) = some r := H; have A7 := zQ A70; clear A70; replace H := Option.bind_eq_some_iff.mp H; obtain ⟨t115, A80, H⟩ := H; replace H : (if t115 = true then ((spec_l00Min.f a0_1 a1_1).bind fun t116 => ((spec_l00Max.f a0_1 a1_1).bind fun t117 => ((spec_l00In.f a2_1 t116 t117).bind fun t118 => (some t118)))) else (some false)) = some r := H; have A8 := zQ A80; clear A80
  by_cases c9 : t115 = true
  ·subst c9
   have H1 : ((spec_l00Min.f a0_1 a1_1).bind fun t116 => ((spec_l00Max.f a0_1 a1_1).bind fun t117 => ((spec_l00In.f a2_1 t116 t117).bind fun t118 => (some t118)))) = some r := by rw [if_pos rfl] at H; exact H
   clear H; have H := H1; clear H1; replace H := Option.bind_eq_some_iff.mp H; obtain ⟨t116, A100, H⟩ := H; replace H : ((spec_l00Max.f a0_1 a1_1).bind fun t117 => ((spec_l00In.f a2_1 t116 t117).bind fun t118 => (some t118))) = some r := H; have A10 := zQ A100; clear A100; replace H := Option.bind_eq_some_iff.mp H; obtain ⟨t117, A110, H⟩ := H; replace H : ((spec_l00In.f a2_1 t116 t117).bind fun t118 => (some t118)) = some r := H; have A11 := zQ A110; clear A110; replace H := Option.bind_eq_some_iff.mp H; obtain ⟨t118, A120, H⟩ := H; replace H : (some t118) = some r := H; have A12 := zQ A120; clear A120; obtain rfl := Option.some.inj H
   go_enter Tryd.func43, Tryd.ntmps43
   try go_wp2_with (first | ((with_reducible refine zd 3 ?_); refine zbx (N := 3) (cs := #[.int .i64 a0_0, .int .i64 a0_1]) (t := 35) ?_; intro gb109 hg w13 hbox hb; have BK109 := zQ (hbox); have GW109 := zgz hg HB.out; have GE109 := GW109; replace HB := zbs HB.out hb; clear hb hbox hg) | ((with_reducible refine zd 4 ?_); refine zbx (N := 4) (cs := #[.int .i64 a1_0, .int .i64 a1_1]) (t := 35) ?_; intro gb110 hg w14 hbox hb; have BK110 := zQ (hbox); have GW110 := zgz2 hg HB.out GE109.out; have GE110 := GW110; have NB109_110 := zQ ((by rw [hg]; exact Nat.ne_of_lt (blk_lt (g := gb109) (o := .cells #[.int .i64 a0_0, .int .i64 a0_1] 35 (0, 0)) (zb BK109.out)) : gb109 ≠ gb110)); have NB110_109 := zQ ((by rw [hg]; exact Nat.ne_of_gt (blk_lt (g := gb109) (o := .cells #[.int .i64 a0_0, .int .i64 a0_1] 35 (0, 0)) (zb BK109.out)) : gb110 ≠ gb109)); replace BK109 := zbl BK109.out hb; replace HB := zbs2 HB.out GE109.out hb; clear hb hbox hg) | ((with_reducible refine zd 5 ?_); refine zbx (N := 5) (cs := #[.int .i64 a2_0, .int .i64 a2_1]) (t := 35) ?_; intro gb111 hg w15 hbox hb; have BK111 := zQ (hbox); have GW111 := zQ ((by rw [hg]; exact (below_size (zB3 HB.out GE109.out GE110.out)) : w.heap.size ≤ gb111)); have GE111 := zQ ((by rw [hg]; exact (below_size (zB3 HB.out GE109.out GE110.out)) : w.heap.size ≤ gb111)); have NB109_111 := zQ ((by rw [hg]; exact Nat.ne_of_lt (blk_lt (g := gb109) (o := .cells #[.int .i64 a0_0, .int .i64 a0_1] 35 (0, 0)) (zb BK109.out)) : gb109 ≠ gb111)); have NB111_109 := zQ ((by rw [hg]; exact Nat.ne_of_gt (blk_lt (g := gb109) (o := .cells #[.int .i64 a0_0, .int .i64 a0_1] 35 (0, 0)) (zb BK109.out)) : gb111 ≠ gb109)); have NB110_111 := zQ ((by rw [hg]; exact Nat.ne_of_lt (blk_lt (g := gb110) (o := .cells #[.int .i64 a1_0, .int .i64 a1_1] 35 (0, 0)) (zb BK110.out)) : gb110 ≠ gb111)); have NB111_110 := zQ ((by rw [hg]; exact Nat.ne_of_gt (blk_lt (g := gb110) (o := .cells #[.int .i64 a1_0, .int .i64 a1_1] 35 (0, 0)) (zb BK110.out)) : gb111 ≠ gb110)); replace BK109 := zbl BK109.out hb; replace BK110 := zbl BK110.out hb; replace HB := zQ (below_step (zB3 HB.out GE109.out GE110.out) hb); clear hb hbox hg))
   have n0_ := zQ (blk_drew BK109.out); have n1_ := zQ (blk_drew BK110.out); have n2_ := zQ (blk_drew BK111.out); have n3_ := zQ (below_drew1 HB.out); clear BK109; clear BK110; clear BK111; clear HB; have BK109 := n0_; have BK110 := n1_; have BK111 := n2_; have HB := n3_; clear n0_ n1_ n2_ n3_
   refine zs (fun w' => w'.cell? ⟨gb109, 0, none⟩ = some (.int .i64 a0_0) ∧ w'.cell? ⟨gb109, 1, none⟩ = some (.int .i64 a0_1) ∧ w'.cell? ⟨gb110, 0, none⟩ = some (.int .i64 a1_0) ∧ w'.cell? ⟨gb110, 1, none⟩ = some (.int .i64 a1_1) ∧ w'.cell? ⟨gb111, 0, none⟩ = some (.int .i64 a2_0) ∧ w'.cell? ⟨gb111, 1, none⟩ = some (.int .i64 a2_1)) [] 36 ⟨(blk_cell BK109.out 0).trans rfl, (blk_cell BK109.out 1).trans rfl, (blk_cell BK110.out 0).trans rfl, (blk_cell BK110.out 1).trans rfl, (blk_cell BK111.out 0).trans rfl, (blk_cell BK111.out 1).trans rfl⟩ (fun hHeld => ?_); refine with_tabW spec_l13On.tab1 spec_l13On.bits1 (fun HT_ HW_ => ?_)
   generalize w15.drew = w16 at BK109 BK110 BK111 HB hHeld ⊢
   refine zt 0 7 hHeld ?_
   refine zt 1 8 hHeld ?_
   refine zt 2 9 hHeld ?_
   refine zo 3 (some 10) (fun K hK => ?_)
   refine goes_ Tryd.func27 (by kernel_rfl) rfl #[.agg #[.int .i64 a0_0, .int .i64 a0_1], .agg #[.int .i64 a1_0, .int .i64 a1_1], .agg #[.int .i64 a2_0, .int .i64 a2_1]] (by rfl) rfl rfl zM ?_
   with_reducible refine (spec_l13Cross.calls a0_0 a0_1 a1_0 a1_1 a2_0 a2_1 t112 _ A4.out).mono ?_
   rintro e w17 ⟨rfl, hb⟩
   refine ⟨_, rfl, ?_⟩
   have n0_ := zbl BK109.out hb; have n1_ := zbl BK110.out hb; have n2_ := zbl BK111.out hb; have n3_ := zQ (below_step (by repeat (first | (with_reducible first | exact HB.out | apply below_alloc | apply pw_below_drewN | apply below_drew1 | refine below_set ?_ GE109.out | refine below_set ?_ GE110.out | refine below_set ?_ GE111.out) | exact HB.out)) hb); clear BK109; clear BK110; clear BK111; clear HB; have BK109 := n0_; have BK110 := n1_; have BK111 := n2_; have HB := n3_; clear n0_ n1_ n2_ n3_
   (try clear hb)
   (try clear hb2)
   (try clear hk)
   (try clear hi)
   refine hK.out _ _ ⟨(blk_cell BK109.out 0).trans rfl, (blk_cell BK109.out 1).trans rfl, (blk_cell BK110.out 0).trans rfl, (blk_cell BK110.out 1).trans rfl, (blk_cell BK111.out 0).trans rfl, (blk_cell BK111.out 1).trans rfl⟩ (fun hHeld => ?_)
   clear hK K
   refine zn 10 ?_
   refine zp 4 11 ?_
   refine zp 5 12 ?_
   refine zp 6 13 ?_
   refine zp 8 15 ?_
   refine zp 10 17 ?_
   refine zp 13 20 ?_
   refine zp 15 22 ?_
   refine zt 7 14 hHeld ?_
   refine zt 9 16 hHeld ?_
   refine zt 11 18 hHeld ?_
   refine zt 14 21 hHeld ?_
   refine zt 16 23 hHeld ?_
   refine zo 12 (some 19) (fun K hK => ?_)
   refine goes_ Tryd.func55 (by kernel_rfl) rfl #[.int .i64 a0_0, .int .i64 a1_0] (by rfl) rfl rfl zM ?_
   with_reducible refine (spec_l00Min.calls a0_0 a1_0 t113 _ A6.out).mono ?_
   rintro e w' ⟨rfl, ⟨nd, rfl⟩⟩
   refine ⟨_, rfl, ?_⟩
   refine hK.out _ _ ⟨(blk_cell BK109.out 0).trans rfl, (blk_cell BK109.out 1).trans rfl, (blk_cell BK110.out 0).trans rfl, (blk_cell BK110.out 1).trans rfl, (blk_cell BK111.out 0).trans rfl, (blk_cell BK111.out 1).trans rfl⟩ (fun hHeld => ?_)
   clear hK K
   refine zn 19 ?_
   refine zo 17 (some 24) (fun K hK => ?_)
   refine goes_ Tryd.func56 (by kernel_rfl) rfl #[.int .i64 a0_0, .int .i64 a1_0] (by rfl) rfl rfl zM ?_
   with_reducible refine (spec_l00Max.calls a0_0 a1_0 t114 _ A7.out).mono ?_
   rintro e w' ⟨rfl, ⟨nd, rfl⟩⟩
   refine ⟨_, rfl, ?_⟩
   refine hK.out _ _ ⟨(blk_cell BK109.out 0).trans rfl, (blk_cell BK109.out 1).trans rfl, (blk_cell BK110.out 0).trans rfl, (blk_cell BK110.out 1).trans rfl, (blk_cell BK111.out 0).trans rfl, (blk_cell BK111.out 1).trans rfl⟩ (fun hHeld => ?_)
   clear hK K
   refine zn 24 ?_
   refine zo 18 (some 25) (fun K hK => ?_)
   refine goes_ Tryd.func26 (by kernel_rfl) rfl #[.int .i64 a2_0, .int .i64 t113, .int .i64 t114] (by rfl) rfl rfl zM ?_
   with_reducible refine (spec_l00In.calls a2_0 t113 t114 true _ A8.out).mono ?_
   rintro e w' ⟨rfl, ⟨nd, rfl⟩⟩
   refine ⟨_, rfl, ?_⟩
   refine hK.out _ _ ⟨(blk_cell BK109.out 0).trans rfl, (blk_cell BK109.out 1).trans rfl, (blk_cell BK110.out 0).trans rfl, (blk_cell BK110.out 1).trans rfl, (blk_cell BK111.out 0).trans rfl, (blk_cell BK111.out 1).trans rfl⟩ (fun hHeld => ?_)
   clear hK K
   refine zn 25 ?_
   refine zp 19 26 ?_
   refine zp 20 27 ?_
   refine zp 21 28 ?_
   refine zp 23 30 ?_
   refine zp 25 32 ?_
   refine zp 28 35 ?_
   refine zp 30 37 ?_
   refine zt 22 29 hHeld ?_
   refine zt 24 31 hHeld ?_
   refine zt 26 33 hHeld ?_
   refine zt 29 36 hHeld ?_
   refine zt 31 38 hHeld ?_
   refine zo 27 (some 34) (fun K hK => ?_)
   refine goes_ Tryd.func55 (by kernel_rfl) rfl #[.int .i64 a0_1, .int .i64 a1_1] (by rfl) rfl rfl zM ?_
   with_reducible refine (spec_l00Min.calls a0_1 a1_1 t116 _ A10.out).mono ?_
   rintro e w' ⟨rfl, ⟨nd, rfl⟩⟩
   refine ⟨_, rfl, ?_⟩
   refine hK.out _ _ ⟨(blk_cell BK109.out 0).trans rfl, (blk_cell BK109.out 1).trans rfl, (blk_cell BK110.out 0).trans rfl, (blk_cell BK110.out 1).trans rfl, (blk_cell BK111.out 0).trans rfl, (blk_cell BK111.out 1).trans rfl⟩ (fun hHeld => ?_)
   clear hK K
   refine zn 34 ?_
   refine zo 32 (some 39) (fun K hK => ?_)
   refine goes_ Tryd.func56 (by kernel_rfl) rfl #[.int .i64 a0_1, .int .i64 a1_1] (by rfl) rfl rfl zM ?_
   with_reducible refine (spec_l00Max.calls a0_1 a1_1 t117 _ A11.out).mono ?_
   rintro e w' ⟨rfl, ⟨nd, rfl⟩⟩
   refine ⟨_, rfl, ?_⟩
   refine hK.out _ _ ⟨(blk_cell BK109.out 0).trans rfl, (blk_cell BK109.out 1).trans rfl, (blk_cell BK110.out 0).trans rfl, (blk_cell BK110.out 1).trans rfl, (blk_cell BK111.out 0).trans rfl, (blk_cell BK111.out 1).trans rfl⟩ (fun hHeld => ?_)
   clear hK K
   refine zn 39 ?_
   refine zo 33 (some 40) (fun K hK => ?_)
   refine goes_ Tryd.func26 (by kernel_rfl) rfl #[.int .i64 a2_1, .int .i64 t116, .int .i64 t117] (by rfl) rfl rfl zM ?_
   with_reducible refine (spec_l00In.calls a2_1 t116 t117 t118 _ A12.out).mono ?_
   rintro e w' ⟨rfl, ⟨nd, rfl⟩⟩
   refine ⟨_, rfl, ?_⟩
   refine hK.out _ _ ⟨(blk_cell BK109.out 0).trans rfl, (blk_cell BK109.out 1).trans rfl, (blk_cell BK110.out 0).trans rfl, (blk_cell BK110.out 1).trans rfl, (blk_cell BK111.out 0).trans rfl, (blk_cell BK111.out 1).trans rfl⟩ (fun hHeld => ?_)
   clear hK K
   refine zn 40 ?_
   refine zp 34 41 ?_
   refine zp 35 6 ?_
   refine done_ (done_of HT_.out (by kernel_rfl)) ?_
   try go_wp2
   go_ret
   exact ⟨zE, by repeat (first | (with_reducible first | exact HB.out | apply below_alloc | apply pw_below_drewN | apply below_drew1 | refine below_set ?_ GE109.out | refine below_set ?_ GE110.out | refine below_set ?_ GE111.out) | exact HB.out)⟩
  ·replace c9 := Bool.eq_false_iff.mpr c9
   subst c9
   have H1 : (some false) = some r := by rw [if_neg (show ¬ (false = true) by decide)] at H; exact H
   clear H; have H := H1; clear H1; obtain rfl := Option.some.inj H
   go_enter Tryd.func43, Tryd.ntmps43
   try go_wp2_with (first | ((with_reducible refine zd 3 ?_); refine zbx (N := 3) (cs := #[.int .i64 a0_0, .int .i64 a0_1]) (t := 35) ?_; intro gb109 hg w18 hbox hb; have BK109 := zQ (hbox); have GW109 := zgz hg HB.out; have GE109 := GW109; replace HB := zbs HB.out hb; clear hb hbox hg) | ((with_reducible refine zd 4 ?_); refine zbx (N := 4) (cs := #[.int .i64 a1_0, .int .i64 a1_1]) (t := 35) ?_; intro gb110 hg w19 hbox hb; have BK110 := zQ (hbox); have GW110 := zgz2 hg HB.out GE109.out; have GE110 := GW110; have NB109_110 := zQ ((by rw [hg]; exact Nat.ne_of_lt (blk_lt (g := gb109) (o := .cells #[.int .i64 a0_0, .int .i64 a0_1] 35 (0, 0)) (zb BK109.out)) : gb109 ≠ gb110)); have NB110_109 := zQ ((by rw [hg]; exact Nat.ne_of_gt (blk_lt (g := gb109) (o := .cells #[.int .i64 a0_0, .int .i64 a0_1] 35 (0, 0)) (zb BK109.out)) : gb110 ≠ gb109)); replace BK109 := zbl BK109.out hb; replace HB := zbs2 HB.out GE109.out hb; clear hb hbox hg) | ((with_reducible refine zd 5 ?_); refine zbx (N := 5) (cs := #[.int .i64 a2_0, .int .i64 a2_1]) (t := 35) ?_; intro gb111 hg w20 hbox hb; have BK111 := zQ (hbox); have GW111 := zQ ((by rw [hg]; exact (below_size (zB3 HB.out GE109.out GE110.out)) : w.heap.size ≤ gb111)); have GE111 := zQ ((by rw [hg]; exact (below_size (zB3 HB.out GE109.out GE110.out)) : w.heap.size ≤ gb111)); have NB109_111 := zQ ((by rw [hg]; exact Nat.ne_of_lt (blk_lt (g := gb109) (o := .cells #[.int .i64 a0_0, .int .i64 a0_1] 35 (0, 0)) (zb BK109.out)) : gb109 ≠ gb111)); have NB111_109 := zQ ((by rw [hg]; exact Nat.ne_of_gt (blk_lt (g := gb109) (o := .cells #[.int .i64 a0_0, .int .i64 a0_1] 35 (0, 0)) (zb BK109.out)) : gb111 ≠ gb109)); have NB110_111 := zQ ((by rw [hg]; exact Nat.ne_of_lt (blk_lt (g := gb110) (o := .cells #[.int .i64 a1_0, .int .i64 a1_1] 35 (0, 0)) (zb BK110.out)) : gb110 ≠ gb111)); have NB111_110 := zQ ((by rw [hg]; exact Nat.ne_of_gt (blk_lt (g := gb110) (o := .cells #[.int .i64 a1_0, .int .i64 a1_1] 35 (0, 0)) (zb BK110.out)) : gb111 ≠ gb110)); replace BK109 := zbl BK109.out hb; replace BK110 := zbl BK110.out hb; replace HB := zQ (below_step (zB3 HB.out GE109.out GE110.out) hb); clear hb hbox hg))
   have n0_ := zQ (blk_drew BK109.out); have n1_ := zQ (blk_drew BK110.out); have n2_ := zQ (blk_drew BK111.out); have n3_ := zQ (below_drew1 HB.out); clear BK109; clear BK110; clear BK111; clear HB; have BK109 := n0_; have BK110 := n1_; have BK111 := n2_; have HB := n3_; clear n0_ n1_ n2_ n3_
   refine zs (fun w' => w'.cell? ⟨gb109, 0, none⟩ = some (.int .i64 a0_0) ∧ w'.cell? ⟨gb109, 1, none⟩ = some (.int .i64 a0_1) ∧ w'.cell? ⟨gb110, 0, none⟩ = some (.int .i64 a1_0) ∧ w'.cell? ⟨gb110, 1, none⟩ = some (.int .i64 a1_1) ∧ w'.cell? ⟨gb111, 0, none⟩ = some (.int .i64 a2_0) ∧ w'.cell? ⟨gb111, 1, none⟩ = some (.int .i64 a2_1)) [] 36 ⟨(blk_cell BK109.out 0).trans rfl, (blk_cell BK109.out 1).trans rfl, (blk_cell BK110.out 0).trans rfl, (blk_cell BK110.out 1).trans rfl, (blk_cell BK111.out 0).trans rfl, (blk_cell BK111.out 1).trans rfl⟩ (fun hHeld => ?_); refine with_tabW spec_l13On.tab1 spec_l13On.bits1 (fun HT_ HW_ => ?_)
   generalize w20.drew = w21 at BK109 BK110 BK111 HB hHeld ⊢
   refine zt 0 7 hHeld ?_
   refine zt 1 8 hHeld ?_
   refine zt 2 9 hHeld ?_
   refine zo 3 (some 10) (fun K hK => ?_)
   refine goes_ Tryd.func27 (by kernel_rfl) rfl #[.agg #[.int .i64 a0_0, .int .i64 a0_1], .agg #[.int .i64 a1_0, .int .i64 a1_1], .agg #[.int .i64 a2_0, .int .i64 a2_1]] (by rfl) rfl rfl zM ?_
   with_reducible refine (spec_l13Cross.calls a0_0 a0_1 a1_0 a1_1 a2_0 a2_1 t112 _ A4.out).mono ?_
   rintro e w22 ⟨rfl, hb⟩
   refine ⟨_, rfl, ?_⟩
   have n0_ := zbl BK109.out hb; have n1_ := zbl BK110.out hb; have n2_ := zbl BK111.out hb; have n3_ := zQ (below_step (by repeat (first | (with_reducible first | exact HB.out | apply below_alloc | apply pw_below_drewN | apply below_drew1 | refine below_set ?_ GE109.out | refine below_set ?_ GE110.out | refine below_set ?_ GE111.out) | exact HB.out)) hb); clear BK109; clear BK110; clear BK111; clear HB; have BK109 := n0_; have BK110 := n1_; have BK111 := n2_; have HB := n3_; clear n0_ n1_ n2_ n3_
   (try clear hb)
   (try clear hb2)
   (try clear hk)
   (try clear hi)
   refine hK.out _ _ ⟨(blk_cell BK109.out 0).trans rfl, (blk_cell BK109.out 1).trans rfl, (blk_cell BK110.out 0).trans rfl, (blk_cell BK110.out 1).trans rfl, (blk_cell BK111.out 0).trans rfl, (blk_cell BK111.out 1).trans rfl⟩ (fun hHeld => ?_)
   clear hK K
   refine zn 10 ?_
   refine zp 4 11 ?_
   refine zp 5 12 ?_
   refine zp 6 13 ?_
   refine zp 8 15 ?_
   refine zp 10 17 ?_
   refine zp 13 20 ?_
   refine zp 15 22 ?_
   refine zt 7 14 hHeld ?_
   refine zt 9 16 hHeld ?_
   refine zt 11 18 hHeld ?_
   refine zt 14 21 hHeld ?_
   refine zt 16 23 hHeld ?_
   refine zo 12 (some 19) (fun K hK => ?_)
   refine goes_ Tryd.func55 (by kernel_rfl) rfl #[.int .i64 a0_0, .int .i64 a1_0] (by rfl) rfl rfl zM ?_
   with_reducible refine (spec_l00Min.calls a0_0 a1_0 t113 _ A6.out).mono ?_
   rintro e w' ⟨rfl, ⟨nd, rfl⟩⟩
   refine ⟨_, rfl, ?_⟩
   refine hK.out _ _ ⟨(blk_cell BK109.out 0).trans rfl, (blk_cell BK109.out 1).trans rfl, (blk_cell BK110.out 0).trans rfl, (blk_cell BK110.out 1).trans rfl, (blk_cell BK111.out 0).trans rfl, (blk_cell BK111.out 1).trans rfl⟩ (fun hHeld => ?_)
   clear hK K
   refine zn 19 ?_
   refine zo 17 (some 24) (fun K hK => ?_)
   refine goes_ Tryd.func56 (by kernel_rfl) rfl #[.int .i64 a0_0, .int .i64 a1_0] (by rfl) rfl rfl zM ?_
   with_reducible refine (spec_l00Max.calls a0_0 a1_0 t114 _ A7.out).mono ?_
   rintro e w' ⟨rfl, ⟨nd, rfl⟩⟩
   refine ⟨_, rfl, ?_⟩
   refine hK.out _ _ ⟨(blk_cell BK109.out 0).trans rfl, (blk_cell BK109.out 1).trans rfl, (blk_cell BK110.out 0).trans rfl, (blk_cell BK110.out 1).trans rfl, (blk_cell BK111.out 0).trans rfl, (blk_cell BK111.out 1).trans rfl⟩ (fun hHeld => ?_)
   clear hK K
   refine zn 24 ?_
   refine zo 18 (some 25) (fun K hK => ?_)
   refine goes_ Tryd.func26 (by kernel_rfl) rfl #[.int .i64 a2_0, .int .i64 t113, .int .i64 t114] (by rfl) rfl rfl zM ?_
   with_reducible refine (spec_l00In.calls a2_0 t113 t114 false _ A8.out).mono ?_
   rintro e w' ⟨rfl, ⟨nd, rfl⟩⟩
   refine ⟨_, rfl, ?_⟩
   refine hK.out _ _ ⟨(blk_cell BK109.out 0).trans rfl, (blk_cell BK109.out 1).trans rfl, (blk_cell BK110.out 0).trans rfl, (blk_cell BK110.out 1).trans rfl, (blk_cell BK111.out 0).trans rfl, (blk_cell BK111.out 1).trans rfl⟩ (fun hHeld => ?_)
   clear hK K
   refine zn 25 ?_
   refine zp 19 26 ?_
   refine zp 20 27 ?_
   refine zg 21 28 ?_
   refine zg 22 29 ?_
   refine zg 23 30 ?_
   refine zg 24 31 ?_
   refine zg 25 32 ?_
   refine zg 26 33 ?_
   refine zg 27 34 ?_
   refine zg 28 35 ?_
   refine zg 29 36 ?_
   refine zg 30 37 ?_
   refine zg 31 38 ?_
   refine zg 32 39 ?_
   refine zg 33 40 ?_
   refine zp 34 41 ?_
   refine zp 35 6 ?_
   refine done_ (done_of HT_.out (by kernel_rfl)) ?_
   try go_wp2
   go_ret
   exact ⟨zE, by repeat (first | (with_reducible first | exact HB.out | apply below_alloc | apply pw_below_drewN | apply below_drew1 | refine below_set ?_ GE109.out | refine below_set ?_ GE110.out | refine below_set ?_ GE111.out) | exact HB.out)⟩
 ·rw [if_neg c5] at H
  have c5b0 : (t112 == 0) = false := beq_eq_false_iff_ne.mpr c5; have c5b1 : (t112 != 0) = true := bne_iff_ne.mpr c5; obtain rfl := Option.some.inj H
  go_enter Tryd.func43, Tryd.ntmps43
  try go_wp2_with (first | ((with_reducible refine zd 3 ?_); refine zbx (N := 3) (cs := #[.int .i64 a0_0, .int .i64 a0_1]) (t := 35) ?_; intro gb109 hg w23 hbox hb; have BK109 := zQ (hbox); have GW109 := zgz hg HB.out; have GE109 := GW109; replace HB := zbs HB.out hb; clear hb hbox hg) | ((with_reducible refine zd 4 ?_); refine zbx (N := 4) (cs := #[.int .i64 a1_0, .int .i64 a1_1]) (t := 35) ?_; intro gb110 hg w24 hbox hb; have BK110 := zQ (hbox); have GW110 := zgz2 hg HB.out GE109.out; have GE110 := GW110; have NB109_110 := zQ ((by rw [hg]; exact Nat.ne_of_lt (blk_lt (g := gb109) (o := .cells #[.int .i64 a0_0, .int .i64 a0_1] 35 (0, 0)) (zb BK109.out)) : gb109 ≠ gb110)); have NB110_109 := zQ ((by rw [hg]; exact Nat.ne_of_gt (blk_lt (g := gb109) (o := .cells #[.int .i64 a0_0, .int .i64 a0_1] 35 (0, 0)) (zb BK109.out)) : gb110 ≠ gb109)); replace BK109 := zbl BK109.out hb; replace HB := zbs2 HB.out GE109.out hb; clear hb hbox hg) | ((with_reducible refine zd 5 ?_); refine zbx (N := 5) (cs := #[.int .i64 a2_0, .int .i64 a2_1]) (t := 35) ?_; intro gb111 hg w25 hbox hb; have BK111 := zQ (hbox); have GW111 := zQ ((by rw [hg]; exact (below_size (zB3 HB.out GE109.out GE110.out)) : w.heap.size ≤ gb111)); have GE111 := zQ ((by rw [hg]; exact (below_size (zB3 HB.out GE109.out GE110.out)) : w.heap.size ≤ gb111)); have NB109_111 := zQ ((by rw [hg]; exact Nat.ne_of_lt (blk_lt (g := gb109) (o := .cells #[.int .i64 a0_0, .int .i64 a0_1] 35 (0, 0)) (zb BK109.out)) : gb109 ≠ gb111)); have NB111_109 := zQ ((by rw [hg]; exact Nat.ne_of_gt (blk_lt (g := gb109) (o := .cells #[.int .i64 a0_0, .int .i64 a0_1] 35 (0, 0)) (zb BK109.out)) : gb111 ≠ gb109)); have NB110_111 := zQ ((by rw [hg]; exact Nat.ne_of_lt (blk_lt (g := gb110) (o := .cells #[.int .i64 a1_0, .int .i64 a1_1] 35 (0, 0)) (zb BK110.out)) : gb110 ≠ gb111)); have NB111_110 := zQ ((by rw [hg]; exact Nat.ne_of_gt (blk_lt (g := gb110) (o := .cells #[.int .i64 a1_0, .int .i64 a1_1] 35 (0, 0)) (zb BK110.out)) : gb111 ≠ gb110)); replace BK109 := zbl BK109.out hb; replace BK110 := zbl BK110.out hb; replace HB := zQ (below_step (zB3 HB.out GE109.out GE110.out) hb); clear hb hbox hg))
  have n0_ := zQ (blk_drew BK109.out); have n1_ := zQ (blk_drew BK110.out); have n2_ := zQ (blk_drew BK111.out); have n3_ := zQ (below_drew1 HB.out); clear BK109; clear BK110; clear BK111; clear HB; have BK109 := n0_; have BK110 := n1_; have BK111 := n2_; have HB := n3_; clear n0_ n1_ n2_ n3_
  refine zs (fun w' => w'.cell? ⟨gb109, 0, none⟩ = some (.int .i64 a0_0) ∧ w'.cell? ⟨gb109, 1, none⟩ = some (.int .i64 a0_1) ∧ w'.cell? ⟨gb110, 0, none⟩ = some (.int .i64 a1_0) ∧ w'.cell? ⟨gb110, 1, none⟩ = some (.int .i64 a1_1) ∧ w'.cell? ⟨gb111, 0, none⟩ = some (.int .i64 a2_0) ∧ w'.cell? ⟨gb111, 1, none⟩ = some (.int .i64 a2_1)) [] 36 ⟨(blk_cell BK109.out 0).trans rfl, (blk_cell BK109.out 1).trans rfl, (blk_cell BK110.out 0).trans rfl, (blk_cell BK110.out 1).trans rfl, (blk_cell BK111.out 0).trans rfl, (blk_cell BK111.out 1).trans rfl⟩ (fun hHeld => ?_); refine with_tabW spec_l13On.tab1 spec_l13On.bits1 (fun HT_ HW_ => ?_)
  generalize w25.drew = w26 at BK109 BK110 BK111 HB hHeld ⊢
  refine zt 0 7 hHeld ?_
  refine zt 1 8 hHeld ?_
  refine zt 2 9 hHeld ?_
  refine zo 3 (some 10) (fun K hK => ?_)
  refine goes_ Tryd.func27 (by kernel_rfl) rfl #[.agg #[.int .i64 a0_0, .int .i64 a0_1], .agg #[.int .i64 a1_0, .int .i64 a1_1], .agg #[.int .i64 a2_0, .int .i64 a2_1]] (by rfl) rfl rfl zM ?_
  with_reducible refine (spec_l13Cross.calls a0_0 a0_1 a1_0 a1_1 a2_0 a2_1 t112 _ A4.out).mono ?_
  rintro e w27 ⟨rfl, hb⟩
  refine ⟨_, rfl, ?_⟩
  have n0_ := zbl BK109.out hb; have n1_ := zbl BK110.out hb; have n2_ := zbl BK111.out hb; have n3_ := zQ (below_step (by repeat (first | (with_reducible first | exact HB.out | apply below_alloc | apply pw_below_drewN | apply below_drew1 | refine below_set ?_ GE109.out | refine below_set ?_ GE110.out | refine below_set ?_ GE111.out) | exact HB.out)) hb); clear BK109; clear BK110; clear BK111; clear HB; have BK109 := n0_; have BK110 := n1_; have BK111 := n2_; have HB := n3_; clear n0_ n1_ n2_ n3_
  (try clear hb)
  (try clear hb2)
  (try clear hk)
  (try clear hi)
  refine hK.out _ _ ⟨(blk_cell BK109.out 0).trans rfl, (blk_cell BK109.out 1).trans rfl, (blk_cell BK110.out 0).trans rfl, (blk_cell BK110.out 1).trans rfl, (blk_cell BK111.out 0).trans rfl, (blk_cell BK111.out 1).trans rfl⟩ (fun hHeld => ?_)
  clear hK K
  refine zn 10 ?_
  refine zp 4 11 ?_
  refine zp 5 12 ?_
  refine zg 6 13 ?_
  refine zg 7 14 ?_
  refine zg 8 15 ?_
  refine zg 9 16 ?_
  refine zg 10 17 ?_
  refine zg 11 18 ?_
  refine zg 12 19 ?_
  refine zg 13 20 ?_
  refine zg 14 21 ?_
  refine zg 15 22 ?_
  refine zg 16 23 ?_
  refine zg 17 24 ?_
  refine zg 18 25 ?_
  refine zp 19 26 ?_
  refine zp 20 27 ?_
  refine zg 21 28 ?_
  refine zg 22 29 ?_
  refine zg 23 30 ?_
  refine zg 24 31 ?_
  refine zg 25 32 ?_
  refine zg 26 33 ?_
  refine zg 27 34 ?_
  refine zg 28 35 ?_
  refine zg 29 36 ?_
  refine zg 30 37 ?_
  refine zg 31 38 ?_
  refine zg 32 39 ?_
  refine zg 33 40 ?_
  refine zp 34 41 ?_
  refine zp 35 6 ?_
  refine done_ (done_of HT_.out (by kernel_rfl)) ?_
  try go_wp2
  go_ret
  exact ⟨zE, by repeat (first | (with_reducible first | exact HB.out | apply below_alloc | apply pw_below_drewN | apply below_drew1 | refine below_set ?_ GE109.out | refine below_set ?_ GE110.out | refine below_set ?_ GE111.out) | exact HB.out)⟩

end Go.Proofs.YtchngbjpjbahiaaDoor.PFnExactReadSail
