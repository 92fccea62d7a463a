/- The walks of the functions that the law reaches: each computes what its Lean function says. No condition beyond each contract's own. -/
import Derived.Test.YtchngbjpjbahiaaDoorHFnExactSailTextx0
import Derived.Test.YtchngbjpjbahiaaDoorHFnExactSailTextx1
namespace Go.Proofs.YtchngbjpjbahiaaDoor.PFnExactSailText
open Go.RowKit Go.Proofs.YtchngbjpjbahiaaDoorW.PrintWords Go.Proofs.YtchngbjpjbahiaaDoorW.PrintLast Go.Proofs.YtchngbjpjbahiaaDoorW.PrintMore
attribute [local go_sem] max2_int min2_int max_two min_two max_three min_three max_four min_four   -- for this text's walks alone
set_option linter.unusedVariables false
set_option linter.unusedSimpArgs false

/-! ### spec_l13On: function 43 -/
def spec_l13On.f (a0_0 : Int) (a0_1 : Int) (a1_0 : Int) (a1_1 : Int) (a2_0 : Int) (a2_1 : Int) : Option (Bool) := (spec_l13Cross.f a0_0 a0_1 a1_0 a1_1 a2_0 a2_1).bind fun t107 => (if t107 = 0 then ((spec_l00Min.f a0_0 a1_0).bind fun t108 => ((spec_l00Max.f a0_0 a1_0).bind fun t109 => ((spec_l00In.f a2_0 t108 t109).bind fun t110 => (if t110 = true then ((spec_l00Min.f a0_1 a1_1).bind fun t111 => ((spec_l00Max.f a0_1 a1_1).bind fun t112 => ((spec_l00In.f a2_1 t111 t112).bind fun t113 => (some t113)))) else (some false))))) else (some false))
def spec_l13On.T1 : Bool × List (List Nat × List Nat) := (true, [([], []), ([], []), ([], []), ([0, 1, 2], [0, 1, 2]), ([3], [3]), ([4, 3], [4]), ([5], [5]), ([6, 5], [5, 6]), ([5], [5]), ([8, 5], [5, 8]), ([5], [5]), ([10, 5], [5, 10]), ([9, 11, 5, 5], [5, 9, 11]), ([5], [5]), ([13, 5], [5, 13]), ([5], [5]), ([15, 5], [5, 15]), ([14, 16, 12, 5], [5, 14, 16]), ([7, 12, 17, 17, 5], [5, 7, 12, 17]), ([5, 18], [5, 18]), ([19, 18], [19]), ([20], [20]), ([21, 20], [20, 21]), ([20], [20]), ([23, 20], [20, 23]), ([20], [20]), ([25, 20], [20, 25]), ([24, 26, 20, 20], [20, 24, 26]), ([20], [20]), ([28, 20], [20, 28]), ([20], [20]), ([30, 20], [20, 30]), ([29, 31, 27, 20], [20, 29, 31]), ([22, 27, 32, 32, 20], [20, 22, 27, 32]), ([20, 33], [20, 33]), ([34, 33, 0, 1, 2, 3, 4, 5, 6, 7, 8, 9, 10, 11, 12, 13, 14, 15, 16, 17, 18, 19, 20, 21, 22, 23, 24, 25, 26, 27, 28, 29, 30, 31, 32, 33, 34], [34])])
def spec_l13On.B1 : List Nat := [0, 0, 0, 7, 15, 31, 63, 127, 63, 319, 63, 1087, 3903, 63, 8255, 63, 32831, 130879, 262143, 524287, 1048575, 2097151, 4194303, 2097151, 10485759, 2097151, 35651583, 127926271, 2097151, 270532607, 2097151, 1075838975, 4288675839, 8589934591, 17179869183, 34359738367]
theorem spec_l13On.tab1 : rtab .any (opsOf Tryd.f43 1) = spec_l13On.T1 := by kernel_rfl
theorem spec_l13On.bits1 : waitsOk spec_l13On.T1.2 spec_l13On.B1 = true := by kernel_rfl
set_option maxHeartbeats 8000000 in
set_option maxRecDepth 100000 in
theorem spec_l13On.calls (a0_0 : Int) (a0_1 : Int) (a1_0 : Int) (a1_1 : Int) (a2_0 : Int) (a2_1 : Int) (r : Bool) (w : World) (h : spec_l13On.f a0_0 a0_1 a1_0 a1_1 a2_0 a2_1 = some r) :
  Calls Tryd.prog 43 #[.agg #[.int .i64 a0_0, .int .i64 a0_1], .agg #[.int .i64 a1_0, .int .i64 a1_1], .agg #[.int .i64 a2_0, .int .i64 a2_1]] w fun e w' => e = .returned (.bool r) ∧ Below w.heap.size w w' := by
 have hu35 := Tryd.underlying35
 have HB := zQ (Below.refl w.heap.size w)
 have H : ((spec_l13Cross.f a0_0 a0_1 a1_0 a1_1 a2_0 a2_1).bind fun t107 => (if t107 = 0 then ((spec_l00Min.f a0_0 a1_0).bind fun t108 => ((spec_l00Max.f a0_0 a1_0).bind fun t109 => ((spec_l00In.f a2_0 t108 t109).bind fun t110 => (if t110 = true then ((spec_l00Min.f a0_1 a1_1).bind fun t111 => ((spec_l00Max.f a0_1 a1_1).bind fun t112 => ((spec_l00In.f a2_1 t111 t112).bind fun t113 => (some t113)))) else (some false))))) else (some false))) = some r := h
 clear h
 replace H := Option.bind_eq_some_iff.mp H
 obtain ⟨t107, A40, H⟩ := H
 replace H : (if t107 = 0 then ((spec_l00Min.f a0_0 a1_0).bind fun t108 => ((spec_l00Max.f a0_0 a1_0).bind fun t109 => ((spec_l00In.f a2_0 t108 t109).bind fun t110 => (if t110 = true then ((spec_l00Min.f a0_1 a1_1).bind fun t111 => ((spec_l00Max.f a0_1 a1_1).bind fun t112 => ((spec_l00In.f a2_1 t111 t112).bind fun t113 => (some t113)))) else (some false))))) else (some false)) = some r := H
 have A4 := zQ A40
 clear A40
 by_cases c5 : t107 = 0
 ·rw [if_pos c5] at H
  have c5b0 : (t107 == 0) = true := beq_iff_eq.mpr c5; have c5b1 : (t107 != 0) = false := bne_eq_false_iff_eq.mpr c5; clear c5; replace H := Option.bind_eq_some_iff.mp H; obtain ⟨t108, A60, H⟩ := H; replace H : ((spec_l00Max.f a0_0 a1_0).bind fun t109 => ((spec_l00In.f a2_0 t108 t109).bind fun t110 => (if t110 = true then ((spec_l00Min.f a0_1 a1_1).bind fun t111 => ((spec_l00Max.f a0_1 a1_1).bind fun t112 => ((spec_l00In.f a2_1 t111 t112).bind fun t113 => (some t113)))) else (some false)))) = some r := H; have A6 := zQ A60; clear A60; replace H := Option.bind_eq_some_iff.mp H; obtain ⟨t109, A70, H⟩ := H; replace H : ((spec_l00In.f a2_0 t108 t109).bind fun t110 => (if t110 = true then ((spec_l00Min.f a0_1 a1_1).bind fun t111 => ((spec_l00Max.f a0_1 a1_1).bind fun t112 => ((spec_l00In.f a2_1 t111 t112).bind fun t113 => (some t113)))) else (some false))) = some r := H; have A7 := zQ A70; clear A70; replace H := Option.bind_eq_some_iff.mp H; obtain ⟨t110, A80, H⟩ := H; replace H : (if t110 = true then ((spec_l00Min.f a0_1 a1_1).bind fun t111 => ((spec_l00Max.f a0_1 a1_1).bind fun t112 => ((spec_l00In.f a2_1 t111 t112).bind fun t113 => (some t113)))) else (some false)) = some r := H; have A8 := zQ A80; clear A80
  by_cases c9 : t110 = true
  ·subst c9
   have H1 : ((spec_l00Min.f a0_1 a1_1).bind fun t111 => ((spec_l00Max.f a0_1 a1_1).bind fun t112 => ((spec_l00In.f a2_1 t111 t112).bind fun t113 => (some t113)))) = some r := by rw [if_pos rfl] at H; exact H
   clear H; have H := H1; clear H1; replace H := Option.bind_eq_some_iff.mp H; obtain ⟨t111, A100, H⟩ := H; replace H : ((spec_l00Max.f a0_1 a1_1).bind fun t112 => ((spec_l00In.f a2_1 t111 t112).bind fun t113 => (some t113))) = some r := H; have A10 := zQ A100; clear A100; replace H := Option.bind_eq_some_iff.mp H; obtain ⟨t112, A110, H⟩ := H; replace H : ((spec_l00In.f a2_1 t111 t112).bind fun t113 => (some t113)) = some r := H; have A11 := zQ A110; clear A110; replace H := Option.bind_eq_some_iff.mp H; obtain ⟨t113, A120, H⟩ := H; replace H : (some t113) = some r := H; have A12 := zQ A120; clear A120; obtain rfl := Option.some.inj H
   go_enter Tryd.func43, Tryd.ntmps43
   try go_wp2_with (first | ((with_reducible refine zd 3 ?_); refine zbx (N := 3) (cs := #[.int .i64 a0_0, .int .i64 a0_1]) (t := 35) ?_; intro gb104 hg w13 hbox hb; have BK104 := zQ (hbox); have GW104 := zgz hg HB.out; have GE104 := GW104; replace HB := zbs HB.out hb; clear hb hbox hg) | ((with_reducible refine zd 4 ?_); refine zbx (N := 4) (cs := #[.int .i64 a1_0, .int .i64 a1_1]) (t := 35) ?_; intro gb105 hg w14 hbox hb; have BK105 := zQ (hbox); have GW105 := zgz2 hg HB.out GE104.out; have GE105 := GW105; have NB104_105 := zQ ((by rw [hg]; exact Nat.ne_of_lt (blk_lt (g := gb104) (o := .cells #[.int .i64 a0_0, .int .i64 a0_1] 35 (0, 0)) (zb BK104.out)) : gb104 ≠ gb105)); have NB105_104 := zQ ((by rw [hg]; exact Nat.ne_of_gt (blk_lt (g := gb104) (o := .cells #[.int .i64 a0_0, .int .i64 a0_1] 35 (0, 0)) (zb BK104.out)) : gb105 ≠ gb104)); replace BK104 := zbl BK104.out hb; replace HB := zbs2 HB.out GE104.out hb; clear hb hbox hg) | ((with_reducible refine zd 5 ?_); refine zbx (N := 5) (cs := #[.int .i64 a2_0, .int .i64 a2_1]) (t := 35) ?_; intro gb106 hg w15 hbox hb; have BK106 := zQ (hbox); have GW106 := zQ ((by rw [hg]; exact (below_size (zB3 HB.out GE104.out GE105.out)) : w.heap.size ≤ gb106)); have GE106 := zQ ((by rw [hg]; exact (below_size (zB3 HB.out GE104.out GE105.out)) : w.heap.size ≤ gb106)); have NB104_106 := zQ ((by rw [hg]; exact Nat.ne_of_lt (blk_lt (g := gb104) (o := .cells #[.int .i64 a0_0, .int .i64 a0_1] 35 (0, 0)) (zb BK104.out)) : gb104 ≠ gb106)); have NB106_104 := zQ ((by rw [hg]; exact Nat.ne_of_gt (blk_lt (g := gb104) (o := .cells #[.int .i64 a0_0, .int .i64 a0_1] 35 (0, 0)) (zb BK104.out)) : gb106 ≠ gb104)); have NB105_106 := zQ ((by rw [hg]; exact Nat.ne_of_lt (blk_lt (g := gb105) (o := .cells #[.int .i64 a1_0, .int .i64 a1_1] 35 (0, 0)) (zb BK105.out)) : gb105 ≠ gb106)); have NB106_105 := zQ ((by rw [hg]; exact Nat.ne_of_gt (blk_lt (g := gb105) (o := .cells #[.int .i64 a1_0, .int .i64 a1_1] 35 (0, 0)) (zb BK105.out)) : gb106 ≠ gb105)); replace BK104 := zbl BK104.out hb; replace BK105 := zbl BK105.out hb; replace HB := zQ (below_step (zB3 HB.out GE104.out GE105.out) hb); clear hb hbox hg))
   have n0_ := zQ (blk_drew BK104.out); have n1_ := zQ (blk_drew BK105.out); have n2_ := zQ (blk_drew BK106.out); have n3_ := zQ (below_drew1 HB.out); clear BK104; clear BK105; clear BK106; clear HB; have BK104 := n0_; have BK105 := n1_; have BK106 := n2_; have HB := n3_; clear n0_ n1_ n2_ n3_
   refine zs (fun w' => w'.cell? ⟨gb104, 0, none⟩ = some (.int .i64 a0_0) ∧ w'.cell? ⟨gb104, 1, none⟩ = some (.int .i64 a0_1) ∧ w'.cell? ⟨gb105, 0, none⟩ = some (.int .i64 a1_0) ∧ w'.cell? ⟨gb105, 1, none⟩ = some (.int .i64 a1_1) ∧ w'.cell? ⟨gb106, 0, none⟩ = some (.int .i64 a2_0) ∧ w'.cell? ⟨gb106, 1, none⟩ = some (.int .i64 a2_1)) [] 36 ⟨(blk_cell BK104.out 0).trans rfl, (blk_cell BK104.out 1).trans rfl, (blk_cell BK105.out 0).trans rfl, (blk_cell BK105.out 1).trans rfl, (blk_cell BK106.out 0).trans rfl, (blk_cell BK106.out 1).trans rfl⟩ (fun hHeld => ?_); refine with_tabW spec_l13On.tab1 spec_l13On.bits1 (fun HT_ HW_ => ?_)
   generalize w15.drew = w16 at BK104 BK105 BK106 HB hHeld ⊢
   refine zt 0 7 hHeld ?_
   refine zt 1 8 hHeld ?_
   refine zt 2 9 hHeld ?_
   refine zo 3 (some 10) (fun K hK => ?_)
   refine goes_ Tryd.func27 (by kernel_rfl) rfl #[.agg #[.int .i64 a0_0, .int .i64 a0_1], .agg #[.int .i64 a1_0, .int .i64 a1_1], .agg #[.int .i64 a2_0, .int .i64 a2_1]] (by rfl) rfl rfl zM ?_
   with_reducible refine (spec_l13Cross.calls a0_0 a0_1 a1_0 a1_1 a2_0 a2_1 t107 _ A4.out).mono ?_
   rintro e w17 ⟨rfl, hb⟩
   refine ⟨_, rfl, ?_⟩
   have n0_ := zbl BK104.out hb; have n1_ := zbl BK105.out hb; have n2_ := zbl BK106.out hb; have n3_ := zQ (below_step (by repeat (first | (with_reducible first | exact HB.out | apply below_alloc | apply pw_below_drewN | apply below_drew1 | refine below_set ?_ GE104.out | refine below_set ?_ GE105.out | refine below_set ?_ GE106.out) | exact HB.out)) hb); clear BK104; clear BK105; clear BK106; clear HB; have BK104 := n0_; have BK105 := n1_; have BK106 := n2_; have HB := n3_; clear n0_ n1_ n2_ n3_
   (try clear hb)
   (try clear hb2)
   (try clear hk)
   (try clear hi)
   refine hK.out _ _ ⟨(blk_cell BK104.out 0).trans rfl, (blk_cell BK104.out 1).trans rfl, (blk_cell BK105.out 0).trans rfl, (blk_cell BK105.out 1).trans rfl, (blk_cell BK106.out 0).trans rfl, (blk_cell BK106.out 1).trans rfl⟩ (fun hHeld => ?_)
   clear hK K
   refine zn 10 ?_
   refine zp 4 11 ?_
   refine zp 5 12 ?_
   refine zp 6 13 ?_
   refine zp 8 15 ?_
   refine zp 10 17 ?_
   refine zp 13 20 ?_
   refine zp 15 22 ?_
   refine zt 7 14 hHeld ?_
   refine zt 9 16 hHeld ?_
   refine zt 11 18 hHeld ?_
   refine zt 14 21 hHeld ?_
   refine zt 16 23 hHeld ?_
   refine zo 12 (some 19) (fun K hK => ?_)
   refine goes_ Tryd.func55 (by kernel_rfl) rfl #[.int .i64 a0_0, .int .i64 a1_0] (by rfl) rfl rfl zM ?_
   with_reducible refine (spec_l00Min.calls a0_0 a1_0 t108 _ A6.out).mono ?_
   rintro e w' ⟨rfl, ⟨nd, rfl⟩⟩
   refine ⟨_, rfl, ?_⟩
   refine hK.out _ _ ⟨(blk_cell BK104.out 0).trans rfl, (blk_cell BK104.out 1).trans rfl, (blk_cell BK105.out 0).trans rfl, (blk_cell BK105.out 1).trans rfl, (blk_cell BK106.out 0).trans rfl, (blk_cell BK106.out 1).trans rfl⟩ (fun hHeld => ?_)
   clear hK K
   refine zn 19 ?_
   refine zo 17 (some 24) (fun K hK => ?_)
   refine goes_ Tryd.func56 (by kernel_rfl) rfl #[.int .i64 a0_0, .int .i64 a1_0] (by rfl) rfl rfl zM ?_
   with_reducible refine (spec_l00Max.calls a0_0 a1_0 t109 _ A7.out).mono ?_
   rintro e w' ⟨rfl, ⟨nd, rfl⟩⟩
   refine ⟨_, rfl, ?_⟩
   refine hK.out _ _ ⟨(blk_cell BK104.out 0).trans rfl, (blk_cell BK104.out 1).trans rfl, (blk_cell BK105.out 0).trans rfl, (blk_cell BK105.out 1).trans rfl, (blk_cell BK106.out 0).trans rfl, (blk_cell BK106.out 1).trans rfl⟩ (fun hHeld => ?_)
   clear hK K
   refine zn 24 ?_
   refine zo 18 (some 25) (fun K hK => ?_)
   refine goes_ Tryd.func26 (by kernel_rfl) rfl #[.int .i64 a2_0, .int .i64 t108, .int .i64 t109] (by rfl) rfl rfl zM ?_
   with_reducible refine (spec_l00In.calls a2_0 t108 t109 true _ A8.out).mono ?_
   rintro e w' ⟨rfl, ⟨nd, rfl⟩⟩
   refine ⟨_, rfl, ?_⟩
   refine hK.out _ _ ⟨(blk_cell BK104.out 0).trans rfl, (blk_cell BK104.out 1).trans rfl, (blk_cell BK105.out 0).trans rfl, (blk_cell BK105.out 1).trans rfl, (blk_cell BK106.out 0).trans rfl, (blk_cell BK106.out 1).trans rfl⟩ (fun hHeld => ?_)
   clear hK K
   refine zn 25 ?_
   refine zp 19 26 ?_
   refine zp 20 27 ?_
   refine zp 21 28 ?_
   refine zp 23 30 ?_
   refine zp 25 32 ?_
   refine zp 28 35 ?_
   refine zp 30 37 ?_
   refine zt 22 29 hHeld ?_
   refine zt 24 31 hHeld ?_
   refine zt 26 33 hHeld ?_
   refine zt 29 36 hHeld ?_
   refine zt 31 38 hHeld ?_
   refine zo 27 (some 34) (fun K hK => ?_)
   refine goes_ Tryd.func55 (by kernel_rfl) rfl #[.int .i64 a0_1, .int .i64 a1_1] (by rfl) rfl rfl zM ?_
   with_reducible refine (spec_l00Min.calls a0_1 a1_1 t111 _ A10.out).mono ?_
   rintro e w' ⟨rfl, ⟨nd, rfl⟩⟩
   refine ⟨_, rfl, ?_⟩
   refine hK.out _ _ ⟨(blk_cell BK104.out 0).trans rfl, (blk_cell BK104.out 1).trans rfl, (blk_cell BK105.out 0).trans rfl, (blk_cell BK105.out 1).trans rfl, (blk_cell BK106.out 0).trans rfl, (blk_cell BK106.out 1).trans rfl⟩ (fun hHeld => ?_)
   clear hK K
   refine zn 34 ?_
   refine zo 32 (some 39) (fun K hK => ?_)
   refine goes_ Tryd.func56 (by kernel_rfl) rfl #[.int .i64 a0_1, .int .i64 a1_1] (by rfl) rfl rfl zM ?_
   with_reducible refine (spec_l00Max.calls a0_1 a1_1 t112 _ A11.out).mono ?_
   rintro e w' ⟨rfl, ⟨nd, rfl⟩⟩
   refine ⟨_, rfl, ?_⟩
   refine hK.out _ _ ⟨(blk_cell BK104.out 0).trans rfl, (blk_cell BK104.out 1).trans rfl, (blk_cell BK105.out 0).trans rfl, (blk_cell BK105.out 1).trans rfl, (blk_cell BK106.out 0).trans rfl, (blk_cell BK106.out 1).trans rfl⟩ (fun hHeld => ?_)
   clear hK K
   refine zn 39 ?_
   refine zo 33 (some 40) (fun K hK => ?_)
   refine goes_ Tryd.func26 (by kernel_rfl) rfl #[.int .i64 a2_1, .int .i64 t111, .int .i64 t112] (by rfl) rfl rfl zM ?_
   with_reducible refine (spec_l00In.calls a2_1 t111 t112 t113 _ A12.out).mono ?_
   rintro e w' ⟨rfl, ⟨nd, rfl⟩⟩
   refine ⟨_, rfl, ?_⟩
   refine hK.out _ _ ⟨(blk_cell BK104.out 0).trans rfl, (blk_cell BK104.out 1).trans rfl, (blk_cell BK105.out 0).trans rfl, (blk_cell BK105.out 1).trans rfl, (blk_cell BK106.out 0).trans rfl, (blk_cell BK106.out 1).trans rfl⟩ (fun hHeld => ?_)
   clear hK K
   refine zn 40 ?_
   refine zp 34 41 ?_
   refine zp 35 6 ?_
   refine done_ (done_of HT_.out (by kernel_rfl)) ?_
   try go_wp2
   go_ret
   exact ⟨zE, by repeat (first | (with_reducible first | exact HB.out | apply below_alloc | apply pw_below_drewN | apply below_drew1 | refine below_set ?_ GE104.out | refine below_set ?_ GE105.out | refine below_set ?_ GE106.out) | exact HB.out)⟩
  ·replace c9 := Bool.eq_false_iff.mpr c9
   subst c9
   have H1 : (some false) = some r := by rw [if_neg (show ¬ (false = true) by decide)] at H; exact H
   clear H; have H := H1; clear H1; obtain rfl := Option.some.inj H
   go_enter Tryd.func43, Tryd.ntmps43
   try go_wp2_with (first | ((with_reducible refine zd 3 ?_); refine zbx (N := 3) (cs := #[.int .i64 a0_0, .int .i64 a0_1]) (t := 35) ?_; intro gb104 hg w18 hbox hb; have BK104 := zQ (hbox); have GW104 := zgz hg HB.out; have GE104 := GW104; replace HB := zbs HB.out hb; clear hb hbox hg) | ((with_reducible refine zd 4 ?_); refine zbx (N := 4) (cs := #[.int .i64 a1_0, .int .i64 a1_1]) (t := 35) ?_; intro gb105 hg w19 hbox hb; have BK105 := zQ (hbox); have GW105 := zgz2 hg HB.out GE104.out; have GE105 := GW105; have NB104_105 := zQ ((by rw [hg]; exact Nat.ne_of_lt (blk_lt (g := gb104) (o := .cells #[.int .i64 a0_0, .int .i64 a0_1] 35 (0, 0)) (zb BK104.out)) : gb104 ≠ gb105)); have NB105_104 := zQ ((by rw [hg]; exact Nat.ne_of_gt (blk_lt (g := gb104) (o := .cells #[.int .i64 a0_0, .int .i64 a0_1] 35 (0, 0)) (zb BK104.out)) : gb105 ≠ gb104)); replace BK104 := zbl BK104.out hb; replace HB := zbs2 HB.out GE104.out hb; clear hb hbox hg) | ((with_reducible refine zd 5 ?_); refine zbx (N := 5) (cs := #[.int .i64 a2_0, .int .i64 a2_1]) (t := 35) ?_; intro gb106 hg w20 hbox hb; have BK106 := zQ (hbox); have GW106 := zQ ((by rw [hg]; exact (below_size (zB3 HB.out GE104.out GE105.out)) : w.heap.size ≤ gb106)); have GE106 := zQ ((by rw [hg]; exact (below_size (zB3 HB.out GE104.out GE105.out)) : w.heap.size ≤ gb106)); have NB104_106 := zQ ((by rw [hg]; exact Nat.ne_of_lt (blk_lt (g := gb104) (o := .cells #[.int .i64 a0_0, .int .i64 a0_1] 35 (0, 0)) (zb BK104.out)) : gb104 ≠ gb106)); have NB106_104 := zQ ((by rw [hg]; exact Nat.ne_of_gt (blk_lt (g := gb104) (o := .cells #[.int .i64 a0_0, .int .i64 a0_1] 35 (0, 0)) (zb BK104.out)) : gb106 ≠ gb104)); have NB105_106 := zQ ((by rw [hg]; exact Nat.ne_of_lt (blk_lt (g := gb105) (o := .cells #[.int .i64 a1_0, .int .i64 a1_1] 35 (0, 0)) (zb BK105.out)) : gb105 ≠ gb106)); have NB106_105 := zQ ((by rw [hg]; exact Nat.ne_of_gt (blk_lt (g := gb105) (o := .cells #[.int .i64 a1_0, .int .i64 a1_1] 35 (0, 0)) (zb BK105.out)) : gb106 ≠ gb105)); replace BK104 := zbl BK104.out hb; replace BK105 := zbl BK105.out hb; replace HB := zQ (below_step (zB3 HB.out GE104.out GE105.out) hb); clear hb hbox hg))
   have n0_ := zQ (blk_drew BK104.out); have n1_ := zQ (blk_drew BK105.out); have n2_ := zQ (blk_drew BK106.out); have n3_ := zQ (below_drew1 HB.out); clear BK104; clear BK105; clear BK106; clear HB; have BK104 := n0_; have BK105 := n1_; have BK106 := n2_; have HB := n3_; clear n0_ n1_ n2_ n3_
   refine zs (fun w' => w'.cell? ⟨gb104, 0, none⟩ = some (.int .i64 a0_0) ∧ w'.cell? ⟨gb104, 1, none⟩ = some (.int .i64 a0_1) ∧ w'.cell? ⟨gb105, 0, none⟩ = some (.int .i64 a1_0) ∧ w'.cell? ⟨gb105, 1, none⟩ = some (.int .i64 a1_1) ∧ w'.cell? ⟨gb106, 0, none⟩ = some (.int .i64 a2_0) ∧ w'.cell? ⟨gb106, 1, none⟩ = some (.int .i64 a2_1)) [] 36 ⟨(blk_cell BK104.out 0).trans rfl, (blk_cell BK104.out 1).trans rfl, (blk_cell BK105.out 0).trans rfl, (blk_cell BK105.out 1).trans rfl, (blk_cell BK106.out 0).trans rfl, (blk_cell BK106.out 1).trans rfl⟩ (fun hHeld => ?_); refine with_tabW spec_l13On.tab1 spec_l13On.bits1 (fun HT_ HW_ => ?_)
   generalize w20.drew = w21 at BK104 BK105 BK106 HB hHeld ⊢
   refine zt 0 7 hHeld ?_
   refine zt 1 8 hHeld ?_
   refine zt 2 9 hHeld ?_
   refine zo 3 (some 10) (fun K hK => ?_)
   refine goes_ Tryd.func27 (by kernel_rfl) rfl #[.agg #[.int .i64 a0_0, .int .i64 a0_1], .agg #[.int .i64 a1_0, .int .i64 a1_1], .agg #[.int .i64 a2_0, .int .i64 a2_1]] (by rfl) rfl rfl zM ?_
   with_reducible refine (spec_l13Cross.calls a0_0 a0_1 a1_0 a1_1 a2_0 a2_1 t107 _ A4.out).mono ?_
   rintro e w22 ⟨rfl, hb⟩
   refine ⟨_, rfl, ?_⟩
   have n0_ := zbl BK104.out hb; have n1_ := zbl BK105.out hb; have n2_ := zbl BK106.out hb; have n3_ := zQ (below_step (by repeat (first | (with_reducible first | exact HB.out | apply below_alloc | apply pw_below_drewN | apply below_drew1 | refine below_set ?_ GE104.out | refine below_set ?_ GE105.out | refine below_set ?_ GE106.out) | exact HB.out)) hb); clear BK104; clear BK105; clear BK106; clear HB; have BK104 := n0_; have BK105 := n1_; have BK106 := n2_; have HB := n3_; clear n0_ n1_ n2_ n3_
   (try clear hb)
   (try clear hb2)
   (try clear hk)
   (try clear hi)
   refine hK.out _ _ ⟨(blk_cell BK104.out 0).trans rfl, (blk_cell BK104.out 1).trans rfl, (blk_cell BK105.out 0).trans rfl, (blk_cell BK105.out 1).trans rfl, (blk_cell BK106.out 0).trans rfl, (blk_cell BK106.out 1).trans rfl⟩ (fun hHeld => ?_)
   clear hK K
   refine zn 10 ?_
   refine zp 4 11 ?_
   refine zp 5 12 ?_
   refine zp 6 13 ?_
   refine zp 8 15 ?_
   refine zp 10 17 ?_
   refine zp 13 20 ?_
   refine zp 15 22 ?_
   refine zt 7 14 hHeld ?_
   refine zt 9 16 hHeld ?_
   refine zt 11 18 hHeld ?_
   refine zt 14 21 hHeld ?_
   refine zt 16 23 hHeld ?_
   refine zo 12 (some 19) (fun K hK => ?_)
   refine goes_ Tryd.func55 (by kernel_rfl) rfl #[.int .i64 a0_0, .int .i64 a1_0] (by rfl) rfl rfl zM ?_
   with_reducible refine (spec_l00Min.calls a0_0 a1_0 t108 _ A6.out).mono ?_
   rintro e w' ⟨rfl, ⟨nd, rfl⟩⟩
   refine ⟨_, rfl, ?_⟩
   refine hK.out _ _ ⟨(blk_cell BK104.out 0).trans rfl, (blk_cell BK104.out 1).trans rfl, (blk_cell BK105.out 0).trans rfl, (blk_cell BK105.out 1).trans rfl, (blk_cell BK106.out 0).trans rfl, (blk_cell BK106.out 1).trans rfl⟩ (fun hHeld => ?_)
   clear hK K
   refine zn 19 ?_
   refine zo 17 (some 24) (fun K hK => ?_)
   refine goes_ Tryd.func56 (by kernel_rfl) rfl #[.int .i64 a0_0, .int .i64 a1_0] (by rfl) rfl rfl zM ?_
   with_reducible refine (spec_l00Max.calls a0_0 a1_0 t109 _ A7.out).mono ?_
   rintro e w' ⟨rfl, ⟨nd, rfl⟩⟩
   refine ⟨_, rfl, ?_⟩
   refine hK.out _ _ ⟨(blk_cell BK104.out 0).trans rfl, (blk_cell BK104.out 1).trans rfl, (blk_cell BK105.out 0).trans rfl, (blk_cell BK105.out 1).trans rfl, (blk_cell BK106.out 0).trans rfl, (blk_cell BK106.out 1).trans rfl⟩ (fun hHeld => ?_)
   clear hK K
   refine zn 24 ?_
   refine zo 18 (some 25) (fun K hK => ?_)
   refine goes_ Tryd.func26 (by kernel_rfl) rfl #[.int .i64 a2_0, .int .i64 t108, .int .i64 t109] (by rfl) rfl rfl zM ?_
   with_reducible refine (spec_l00In.calls a2_0 t108 t109 false _ A8.out).mono ?_
   rintro e w' ⟨rfl, ⟨nd, rfl⟩⟩
   refine ⟨_, rfl, ?_⟩
   refine hK.out _ _ ⟨(blk_cell BK104.out 0).trans rfl, (blk_cell BK104.out 1).trans rfl, (blk_cell BK105.out 0).trans rfl, (blk_cell BK105.out 1).trans rfl, (blk_cell BK106.out 0).trans rfl, (blk_cell BK106.out 1).trans rfl⟩ (fun hHeld => ?_)
   clear hK K
   refine zn 25 ?_
   refine zp 19 26 ?_
   refine zp 20 27 ?_
   refine zg 21 28 ?_
   refine zg 22 29 ?_
   refine zg 23 30 ?_
   refine zg 24 31 ?_
   refine zg 25 32 ?_
   refine zg 26 33 ?_
   refine zg 27 34 ?_
   refine zg 28 35 ?_
   refine zg 29 36 ?_
   refine zg 30 37 ?_
   refine zg 31 38 ?_
   refine zg 32 39 ?_
   refine zg 33 40 ?_
   refine zp 34 41 ?_
   refine zp 35 6 ?_
   refine done_ (done_of HT_.out (by kernel_rfl)) ?_
   try go_wp2
   go_ret
   exact ⟨zE, by repeat (first | (with_reducible first | exact HB.out | apply below_alloc | apply pw_below_drewN | apply below_drew1 | refine below_set ?_ GE104.out | refine below_set ?_ GE105.out | refine below_set ?_ GE106.out) | exact HB.out)⟩
 ·rw [if_neg c5] at H
  have c5b0 : (t107 == 0) = false := beq_eq_false_iff_ne.mpr c5; have c5b1 : (t107 != 0) = true := bne_iff_ne.mpr c5; obtain rfl := Option.some.inj H
  go_enter Tryd.func43, Tryd.ntmps43
  try go_wp2_with (first | ((with_reducible refine zd 3 ?_); refine zbx (N := 3) (cs := #[.int .i64 a0_0, .int .i64 a0_1]) (t := 35) ?_; intro gb104 hg w23 hbox hb; have BK104 := zQ (hbox); have GW104 := zgz hg HB.out; have GE104 := GW104; replace HB := zbs HB.out hb; clear hb hbox hg) | ((with_reducible refine zd 4 ?_); refine zbx (N := 4) (cs := #[.int .i64 a1_0, .int .i64 a1_1]) (t := 35) ?_; intro gb105 hg w24 hbox hb; have BK105 := zQ (hbox); have GW105 := zgz2 hg HB.out GE104.out; have GE105 := GW105; have NB104_105 := zQ ((by rw [hg]; exact Nat.ne_of_lt (blk_lt (g := gb104) (o := .cells #[.int .i64 a0_0, .int .i64 a0_1] 35 (0, 0)) (zb BK104.out)) : gb104 ≠ gb105)); have NB105_104 := zQ ((by rw [hg]; exact Nat.ne_of_gt (blk_lt (g := gb104) (o := .cells #[.int .i64 a0_0, .int .i64 a0_1] 35 (0, 0)) (zb BK104.out)) : gb105 ≠ gb104)); replace BK104 := zbl BK104.out hb; replace HB := zbs2 HB.out GE104.out hb; clear hb hbox hg) | ((with_reducible refine zd 5 ?_); refine zbx (N := 5) (cs := #[.int .i64 a2_0, .int .i64 a2_1]) (t := 35) ?_; intro gb106 hg w25 hbox hb; have BK106 := zQ (hbox); have GW106 := zQ ((by rw [hg]; exact (below_size (zB3 HB.out GE104.out GE105.out)) : w.heap.size ≤ gb106)); have GE106 := zQ ((by rw [hg]; exact (below_size (zB3 HB.out GE104.out GE105.out)) : w.heap.size ≤ gb106)); have NB104_106 := zQ ((by rw [hg]; exact Nat.ne_of_lt (blk_lt (g := gb104) (o := .cells #[.int .i64 a0_0, .int .i64 a0_1] 35 (0, 0)) (zb BK104.out)) : gb104 ≠ gb106)); have NB106_104 := zQ ((by rw [hg]; exact Nat.ne_of_gt (blk_lt (g := gb104) (o := .cells #[.int .i64 a0_0, .int .i64 a0_1] 35 (0, 0)) (zb BK104.out)) : gb106 ≠ gb104)); have NB105_106 := zQ ((by rw [hg]; exact Nat.ne_of_lt (blk_lt (g := gb105) (o := .cells #[.int .i64 a1_0, .int .i64 a1_1] 35 (0, 0)) (zb BK105.out)) : gb105 ≠ gb106)); have NB106_105 := zQ ((by rw [hg]; exact Nat.ne_of_gt (blk_lt (g := gb105) (o := .cells #[.int .i64 a1_0, .int .i64 a1_1] 35 (0, 0)) (zb BK105.out)) : gb106 ≠ gb105)); replace BK104 := zbl BK104.out hb; replace BK105 := zbl BK105.out hb; replace HB := zQ (below_step (zB3 HB.out GE104.out GE105.out) hb); clear hb hbox hg))
  have n0_ := zQ (blk_drew BK104.out); have n1_ := zQ (blk_drew BK105.out); have n2_ := zQ (blk_drew BK106.out); have n3_ := zQ (below_drew1 HB.out); clear BK104; clear BK105; clear BK106; clear HB; have BK104 := n0_; have BK105 := n1_; have BK106 := n2_; have HB := n3_; clear n0_ n1_ n2_ n3_
  refine zs (fun w' => w'.cell? ⟨gb104, 0, none⟩ = some (.int .i64 a0_0) ∧ w'.cell? ⟨gb104, 1, none⟩ = some (.int .i64 a0_1) ∧ w'.cell? ⟨gb105, 0, none⟩ = some (.int .i64 a1_0) ∧ w'.cell? ⟨gb105, 1, none⟩ = some (.int .i64 a1_1) ∧ w'.cell? ⟨gb106, 0, none⟩ = some (.int .i64 a2_0) ∧ w'.cell? ⟨gb106, 1, none⟩ = some (.int .i64 a2_1)) [] 36 ⟨(blk_cell BK104.out 0).trans rfl, (blk_cell BK104.out 1).trans rfl, (blk_cell BK105.out 0).trans rfl, (blk_cell BK105.out 1).trans rfl, (blk_cell BK106.out 0).trans rfl, (blk_cell BK106.out 1).trans rfl⟩ (fun hHeld => ?_); refine with_tabW spec_l13On.tab1 spec_l13On.bits1 (fun HT_ HW_ => ?_)
  generalize w25.drew = w26 at BK104 BK105 BK106 HB hHeld ⊢
  refine zt 0 7 hHeld ?_
  refine zt 1 8 hHeld ?_
  refine zt 2 9 hHeld ?_
  refine zo 3 (some 10) (fun K hK => ?_)
  refine goes_ Tryd.func27 (by kernel_rfl) rfl #[.agg #[.int .i64 a0_0, .int .i64 a0_1], .agg #[.int .i64 a1_0, .int .i64 a1_1], .agg #[.int .i64 a2_0, .int .i64 a2_1]] (by rfl) rfl rfl zM ?_
  with_reducible refine (spec_l13Cross.calls a0_0 a0_1 a1_0 a1_1 a2_0 a2_1 t107 _ A4.out).mono ?_
  rintro e w27 ⟨rfl, hb⟩
  refine ⟨_, rfl, ?_⟩
  have n0_ := zbl BK104.out hb; have n1_ := zbl BK105.out hb; have n2_ := zbl BK106.out hb; have n3_ := zQ (below_step (by repeat (first | (with_reducible first | exact HB.out | apply below_alloc | apply pw_below_drewN | apply below_drew1 | refine below_set ?_ GE104.out | refine below_set ?_ GE105.out | refine below_set ?_ GE106.out) | exact HB.out)) hb); clear BK104; clear BK105; clear BK106; clear HB; have BK104 := n0_; have BK105 := n1_; have BK106 := n2_; have HB := n3_; clear n0_ n1_ n2_ n3_
  (try clear hb)
  (try clear hb2)
  (try clear hk)
  (try clear hi)
  refine hK.out _ _ ⟨(blk_cell BK104.out 0).trans rfl, (blk_cell BK104.out 1).trans rfl, (blk_cell BK105.out 0).trans rfl, (blk_cell BK105.out 1).trans rfl, (blk_cell BK106.out 0).trans rfl, (blk_cell BK106.out 1).trans rfl⟩ (fun hHeld => ?_)
  clear hK K
  refine zn 10 ?_
  refine zp 4 11 ?_
  refine zp 5 12 ?_
  refine zg 6 13 ?_
  refine zg 7 14 ?_
  refine zg 8 15 ?_
  refine zg 9 16 ?_
  refine zg 10 17 ?_
  refine zg 11 18 ?_
  refine zg 12 19 ?_
  refine zg 13 20 ?_
  refine zg 14 21 ?_
  refine zg 15 22 ?_
  refine zg 16 23 ?_
  refine zg 17 24 ?_
  refine zg 18 25 ?_
  refine zp 19 26 ?_
  refine zp 20 27 ?_
  refine zg 21 28 ?_
  refine zg 22 29 ?_
  refine zg 23 30 ?_
  refine zg 24 31 ?_
  refine zg 25 32 ?_
  refine zg 26 33 ?_
  refine zg 27 34 ?_
  refine zg 28 35 ?_
  refine zg 29 36 ?_
  refine zg 30 37 ?_
  refine zg 31 38 ?_
  refine zg 32 39 ?_
  refine zg 33 40 ?_
  refine zp 34 41 ?_
  refine zp 35 6 ?_
  refine done_ (done_of HT_.out (by kernel_rfl)) ?_
  try go_wp2
  go_ret
  exact ⟨zE, by repeat (first | (with_reducible first | exact HB.out | apply below_alloc | apply pw_below_drewN | apply below_drew1 | refine below_set ?_ GE104.out | refine below_set ?_ GE105.out | refine below_set ?_ GE106.out) | exact HB.out)⟩

end Go.Proofs.YtchngbjpjbahiaaDoor.PFnExactSailText
