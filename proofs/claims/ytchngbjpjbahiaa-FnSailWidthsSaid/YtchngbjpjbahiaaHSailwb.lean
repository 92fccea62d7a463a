import Derived.Test.YtchngbjpjbahiaaHSailw0
import Derived.Test.YtchngbjpjbahiaaHSailwa
namespace Go.Proofs.Ytchngbjpjbahiaa.PSailw
noncomputable section
open Go.RowKit Go.Proofs.YtchngbjpjbahiaaW.PrintWords Go.Proofs.YtchngbjpjbahiaaW.PrintLast Go.Proofs.YtchngbjpjbahiaaW.PrintMore
attribute [local go_sem] max2_int min2_int max_two min_two max_three min_three max_four min_four   -- for this text's walks alone
set_option linter.unusedVariables false
set_option linter.unusedSimpArgs false
set_option maxHeartbeats 8000000
set_option maxRecDepth 100000

def spec_l13On.f (a0_0 : Int) (a0_1 : Int) (a1_0 : Int) (a1_1 : Int) (a2_0 : Int) (a2_1 : Int) : Option (Bool) := (spec_l13Cross.f a0_0 a0_1 a1_0 a1_1 a2_0 a2_1).bind fun lA => (if lA = 0 then ((spec_l00Min.f a0_0 a1_0).bind fun tA => ((spec_l00Max.f a0_0 a1_0).bind fun sA => ((spec_l00In.f a2_0 tA sA).bind fun AA => (if AA = true then ((spec_l00Min.f a0_1 a1_1).bind fun xA => ((spec_l00Max.f a0_1 a1_1).bind fun wA => ((spec_l00In.f a2_1 xA wA).bind fun zA => (some zA)))) else (some false))))) else (some false))
def spec_l13On.T1 : Bool × List (List Nat × List Nat) := (true, [([], []), ([], []), ([], []), ([0, 1, 2], [0, 1, 2]), ([3], [3]), ([4, 3], [4]), ([5], [5]), ([6, 5], [5, 6]), ([5], [5]), ([8, 5], [5, 8]), ([5], [5]), ([10, 5], [5, 10]), ([9, 11, 5, 5], [5, 9, 11]), ([5], [5]), ([13, 5], [5, 13]), ([5], [5]), ([15, 5], [5, 15]), ([14, 16, 12, 5], [5, 14, 16]), ([7, 12, 17, 17, 5], [5, 7, 12, 17]), ([5, 18], [5, 18]), ([19, 18], [19]), ([20], [20]), ([21, 20], [20, 21]), ([20], [20]), ([23, 20], [20, 23]), ([20], [20]), ([25, 20], [20, 25]), ([24, 26, 20, 20], [20, 24, 26]), ([20], [20]), ([28, 20], [20, 28]), ([20], [20]), ([30, 20], [20, 30]), ([29, 31, 27, 20], [20, 29, 31]), ([22, 27, 32, 32, 20], [20, 22, 27, 32]), ([20, 33], [20, 33]), ([34, 33, 0, 1, 2, 3, 4, 5, 6, 7, 8, 9, 10, 11, 12, 13, 14, 15, 16, 17, 18, 19, 20, 21, 22, 23, 24, 25, 26, 27, 28, 29, 30, 31, 32, 33, 34], [34])])
def spec_l13On.B1 : List Nat := [0, 0, 0, 7, 15, 31, 63, 127, 63, 319, 63, 1087, 3903, 63, 8255, 63, 32831, 130879, 262143, 524287, 1048575, 2097151, 4194303, 2097151, 10485759, 2097151, 35651583, 127926271, 2097151, 270532607, 2097151, 1075838975, 4288675839, 8589934591, 17179869183, 34359738367]
theorem spec_l13On.tab1 : rtab .any (opsOf Try.f66 1) = spec_l13On.T1 := by kernel_rfl
theorem spec_l13On.bits1 : waitsOk spec_l13On.T1.2 spec_l13On.B1 = true := by kernel_rfl
theorem spec_l13On.calls (a0_0 : Int) (a0_1 : Int) (a1_0 : Int) (a1_1 : Int) (a2_0 : Int) (a2_1 : Int) (r : Bool) (w : World) (h : spec_l13On.f a0_0 a0_1 a1_0 a1_1 a2_0 a2_1 = some r) :
  Calls Try.prog 66 #[.agg #[.int .i64 a0_0, .int .i64 a0_1], .agg #[.int .i64 a1_0, .int .i64 a1_1], .agg #[.int .i64 a2_0, .int .i64 a2_1]] w fun e w' => e = .returned (.bool r) ∧ Below w.heap.size w w' := by
 have HA := Try.underlying49
 have HB := zQ (Below.refl w.heap.size w)
 have H := h; unfold spec_l13On.f at H
 clear h
 replace H := zob H; obtain ⟨lA, A4, H⟩ := H
 by_cases c5 : lA = 0
 ·rw [if_pos c5] at H
  have CA : (lA == 0) = true := beq_iff_eq.mpr c5; have BA : (lA != 0) = false := bne_eq_false_iff_eq.mpr c5; clear c5; replace H := zob H; obtain ⟨tA, A6, H⟩ := H; replace H := zob H; obtain ⟨sA, A7, H⟩ := H; replace H := zob H; obtain ⟨AA, A8, H⟩ := H
  by_cases c9 : AA = true
  ·subst c9
   rw [if_pos rfl] at H; replace H := zob H; obtain ⟨xA, KA, H⟩ := H; replace H := zob H; obtain ⟨wA, JA, H⟩ := H; replace H := zob H; obtain ⟨zA, IA, H⟩ := H; obtain rfl := Option.some.inj H
   go_enter Try.func66, Try.ntmps66
   try go_wp2_with (first | ((with_reducible refine zd 3 ?_); refine zbx (N := 3) (cs := #[.int .i64 a0_0, .int .i64 a0_1]) (t := 49) ?_; intro jA hg WA fA hb; have aA := zQ (fA); have vA := zgz hg HB.out; have eA := vA; replace HB := zbs HB.out hb; clear hb fA hg) | ((with_reducible refine zd 4 ?_); refine zbx (N := 4) (cs := #[.int .i64 a1_0, .int .i64 a1_1]) (t := 49) ?_; intro iA hg VA fA hb; have bA := zQ (fA); have uA := zgz2 hg HB.out eA.out; have gA := uA; have rA := zn1 hg aA.out; have pA := zn2 hg aA.out; replace aA := zbl aA.out hb; replace HB := zbs2 HB.out eA.out hb; clear hb fA hg) | ((with_reducible refine zd 5 ?_); refine zbx (N := 5) (cs := #[.int .i64 a2_0, .int .i64 a2_1]) (t := 49) ?_; intro hA hg GA fA hb; have cA := zQ (fA); have yA := zQ ((by rw [hg]; exact (below_size (zB3 HB.out eA.out gA.out)) : w.heap.size ≤ hA)); have kA := zQ ((by rw [hg]; exact (below_size (zB3 HB.out eA.out gA.out)) : w.heap.size ≤ hA)); have qA := zn1 hg aA.out; have nA := zn2 hg aA.out; have oA := zn1 hg bA.out; have mA := zn2 hg bA.out; replace aA := zbl aA.out hb; replace bA := zbl bA.out hb; replace HB := zQ (below_step (zB3 HB.out eA.out gA.out) hb); clear hb fA hg))
   have n0_ := zQ (blk_drew aA.out); have n1_ := zQ (blk_drew bA.out); have n2_ := zQ (blk_drew cA.out); have n3_ := zQ (below_drew1 HB.out); clear aA; clear bA; clear cA; clear HB; have aA := n0_; have bA := n1_; have cA := n2_; have HB := n3_; clear n0_ n1_ n2_ n3_
   refine zs (fun w' => w'.cell? ⟨jA, 0, none⟩ = some (.int .i64 a0_0) ∧ w'.cell? ⟨jA, 1, none⟩ = some (.int .i64 a0_1) ∧ w'.cell? ⟨iA, 0, none⟩ = some (.int .i64 a1_0) ∧ w'.cell? ⟨iA, 1, none⟩ = some (.int .i64 a1_1) ∧ w'.cell? ⟨hA, 0, none⟩ = some (.int .i64 a2_0) ∧ w'.cell? ⟨hA, 1, none⟩ = some (.int .i64 a2_1)) [] 36 ⟨(blk_cell aA.out 0).trans rfl, (blk_cell aA.out 1).trans rfl, (blk_cell bA.out 0).trans rfl, (blk_cell bA.out 1).trans rfl, (blk_cell cA.out 0).trans rfl, (blk_cell cA.out 1).trans rfl⟩ (fun dA => ?_); refine with_tabW spec_l13On.tab1 spec_l13On.bits1 (fun HT_ HW_ => ?_)
   generalize GA.drew = UA at aA bA cA HB dA ⊢
   refine zt 0 7 dA ?_
   refine zt 1 8 dA ?_
   refine zt 2 9 dA ?_
   refine zo 3 (some 10) (fun K hK => ?_)
   refine goes_ Try.func50 (by kernel_rfl) rfl #[.agg #[.int .i64 a0_0, .int .i64 a0_1], .agg #[.int .i64 a1_0, .int .i64 a1_1], .agg #[.int .i64 a2_0, .int .i64 a2_1]] (by rfl) rfl rfl zM ?_
   with_reducible refine (spec_l13Cross.calls a0_0 a0_1 a1_0 a1_1 a2_0 a2_1 lA _ A4.out).mono ?_
   rintro e TA ⟨rfl, hb⟩
   refine ⟨_, rfl, ?_⟩
   have n0_ := zbl aA.out hb; have n1_ := zbl bA.out hb; have n2_ := zbl cA.out hb; have n3_ := zQ (below_step (by repeat (first | (with_reducible first | exact HB.out | apply below_alloc | apply pw_below_drewN | apply below_drew1 | refine below_set ?_ eA.out | refine below_set ?_ gA.out | refine below_set ?_ kA.out) | exact HB.out)) hb); clear aA; clear bA; clear cA; clear HB; have aA := n0_; have bA := n1_; have cA := n2_; have HB := n3_; clear n0_ n1_ n2_ n3_
   (try clear hb)
   (try clear DA)
   (try clear hk)
   (try clear hi)
   refine hK.out _ _ ⟨(blk_cell aA.out 0).trans rfl, (blk_cell aA.out 1).trans rfl, (blk_cell bA.out 0).trans rfl, (blk_cell bA.out 1).trans rfl, (blk_cell cA.out 0).trans rfl, (blk_cell cA.out 1).trans rfl⟩ (fun dA => ?_)
   clear hK K
   refine zn 10 ?_
   refine zp 4 11 ?_
   refine zp 5 12 ?_
   refine zp 6 13 ?_
   refine zp 8 15 ?_
   refine zp 10 17 ?_
   refine zp 13 20 ?_
   refine zp 15 22 ?_
   refine zt 7 14 dA ?_
   refine zt 9 16 dA ?_
   refine zt 11 18 dA ?_
   refine zt 14 21 dA ?_
   refine zt 16 23 dA ?_
   refine zo 12 (some 19) (fun K hK => ?_)
   refine goes_ Try.func43 (by kernel_rfl) rfl #[.int .i64 a0_0, .int .i64 a1_0] (by rfl) rfl rfl zM ?_
   with_reducible refine (spec_l00Min.calls a0_0 a1_0 tA _ A6.out).mono ?_
   rintro e w' ⟨rfl, ⟨nd, rfl⟩⟩
   refine ⟨_, rfl, ?_⟩
   refine hK.out _ _ ⟨(blk_cell aA.out 0).trans rfl, (blk_cell aA.out 1).trans rfl, (blk_cell bA.out 0).trans rfl, (blk_cell bA.out 1).trans rfl, (blk_cell cA.out 0).trans rfl, (blk_cell cA.out 1).trans rfl⟩ (fun dA => ?_)
   clear hK K
   refine zn 19 ?_
   refine zo 17 (some 24) (fun K hK => ?_)
   refine goes_ Try.func41 (by kernel_rfl) rfl #[.int .i64 a0_0, .int .i64 a1_0] (by rfl) rfl rfl zM ?_
   with_reducible refine (spec_l00Max.calls a0_0 a1_0 sA _ A7.out).mono ?_
   rintro e w' ⟨rfl, ⟨nd, rfl⟩⟩
   refine ⟨_, rfl, ?_⟩
   refine hK.out _ _ ⟨(blk_cell aA.out 0).trans rfl, (blk_cell aA.out 1).trans rfl, (blk_cell bA.out 0).trans rfl, (blk_cell bA.out 1).trans rfl, (blk_cell cA.out 0).trans rfl, (blk_cell cA.out 1).trans rfl⟩ (fun dA => ?_)
   clear hK K
   refine zn 24 ?_
   refine zo 18 (some 25) (fun K hK => ?_)
   refine goes_ Try.func27 (by kernel_rfl) rfl #[.int .i64 a2_0, .int .i64 tA, .int .i64 sA] (by rfl) rfl rfl zM ?_
   with_reducible refine (spec_l00In.calls a2_0 tA sA true _ A8.out).mono ?_
   rintro e w' ⟨rfl, ⟨nd, rfl⟩⟩
   refine ⟨_, rfl, ?_⟩
   refine hK.out _ _ ⟨(blk_cell aA.out 0).trans rfl, (blk_cell aA.out 1).trans rfl, (blk_cell bA.out 0).trans rfl, (blk_cell bA.out 1).trans rfl, (blk_cell cA.out 0).trans rfl, (blk_cell cA.out 1).trans rfl⟩ (fun dA => ?_)
   clear hK K
   refine zn 25 ?_
   refine zp 19 26 ?_
   refine zp 20 27 ?_
   refine zp 21 28 ?_
   refine zp 23 30 ?_
   refine zp 25 32 ?_
   refine zp 28 35 ?_
   refine zp 30 37 ?_
   refine zt 22 29 dA ?_
   refine zt 24 31 dA ?_
   refine zt 26 33 dA ?_
   refine zt 29 36 dA ?_
   refine zt 31 38 dA ?_
   refine zo 27 (some 34) (fun K hK => ?_)
   refine goes_ Try.func43 (by kernel_rfl) rfl #[.int .i64 a0_1, .int .i64 a1_1] (by rfl) rfl rfl zM ?_
   with_reducible refine (spec_l00Min.calls a0_1 a1_1 xA _ KA.out).mono ?_
   rintro e w' ⟨rfl, ⟨nd, rfl⟩⟩
   refine ⟨_, rfl, ?_⟩
   refine hK.out _ _ ⟨(blk_cell aA.out 0).trans rfl, (blk_cell aA.out 1).trans rfl, (blk_cell bA.out 0).trans rfl, (blk_cell bA.out 1).trans rfl, (blk_cell cA.out 0).trans rfl, (blk_cell cA.out 1).trans rfl⟩ (fun dA => ?_)
   clear hK K
   refine zn 34 ?_
   refine zo 32 (some 39) (fun K hK => ?_)
   refine goes_ Try.func41 (by kernel_rfl) rfl #[.int .i64 a0_1, .int .i64 a1_1] (by rfl) rfl rfl zM ?_
   with_reducible refine (spec_l00Max.calls a0_1 a1_1 wA _ JA.out).mono ?_
   rintro e w' ⟨rfl, ⟨nd, rfl⟩⟩
   refine ⟨_, rfl, ?_⟩
   refine hK.out _ _ ⟨(blk_cell aA.out 0).trans rfl, (blk_cell aA.out 1).trans rfl, (blk_cell bA.out 0).trans rfl, (blk_cell bA.out 1).trans rfl, (blk_cell cA.out 0).trans rfl, (blk_cell cA.out 1).trans rfl⟩ (fun dA => ?_)
   clear hK K
   refine zn 39 ?_
   refine zo 33 (some 40) (fun K hK => ?_)
   refine goes_ Try.func27 (by kernel_rfl) rfl #[.int .i64 a2_1, .int .i64 xA, .int .i64 wA] (by rfl) rfl rfl zM ?_
   with_reducible refine (spec_l00In.calls a2_1 xA wA zA _ IA.out).mono ?_
   rintro e w' ⟨rfl, ⟨nd, rfl⟩⟩
   refine ⟨_, rfl, ?_⟩
   refine hK.out _ _ ⟨(blk_cell aA.out 0).trans rfl, (blk_cell aA.out 1).trans rfl, (blk_cell bA.out 0).trans rfl, (blk_cell bA.out 1).trans rfl, (blk_cell cA.out 0).trans rfl, (blk_cell cA.out 1).trans rfl⟩ (fun dA => ?_)
   clear hK K
   refine zn 40 ?_
   refine zp 34 41 ?_
   refine zp 35 6 ?_
   refine done_ (done_of HT_.out (by kernel_rfl)) ?_
   try go_wp2
   go_ret
   exact ⟨zE, by repeat (first | (with_reducible first | exact HB.out | apply below_alloc | apply pw_below_drewN | apply below_drew1 | refine below_set ?_ eA.out | refine below_set ?_ gA.out | refine below_set ?_ kA.out) | exact HB.out)⟩
  ·replace c9 := Bool.eq_false_iff.mpr c9
   subst c9
   rw [if_neg Bool.false_ne_true] at H; obtain rfl := Option.some.inj H
   go_enter Try.func66, Try.ntmps66
   try go_wp2_with (first | ((with_reducible refine zd 3 ?_); refine zbx (N := 3) (cs := #[.int .i64 a0_0, .int .i64 a0_1]) (t := 49) ?_; intro jA hg SA fA hb; have aA := zQ (fA); have vA := zgz hg HB.out; have eA := vA; replace HB := zbs HB.out hb; clear hb fA hg) | ((with_reducible refine zd 4 ?_); refine zbx (N := 4) (cs := #[.int .i64 a1_0, .int .i64 a1_1]) (t := 49) ?_; intro iA hg RA fA hb; have bA := zQ (fA); have uA := zgz2 hg HB.out eA.out; have gA := uA; have rA := zn1 hg aA.out; have pA := zn2 hg aA.out; replace aA := zbl aA.out hb; replace HB := zbs2 HB.out eA.out hb; clear hb fA hg) | ((with_reducible refine zd 5 ?_); refine zbx (N := 5) (cs := #[.int .i64 a2_0, .int .i64 a2_1]) (t := 49) ?_; intro hA hg FA fA hb; have cA := zQ (fA); have yA := zQ ((by rw [hg]; exact (below_size (zB3 HB.out eA.out gA.out)) : w.heap.size ≤ hA)); have kA := zQ ((by rw [hg]; exact (below_size (zB3 HB.out eA.out gA.out)) : w.heap.size ≤ hA)); have qA := zn1 hg aA.out; have nA := zn2 hg aA.out; have oA := zn1 hg bA.out; have mA := zn2 hg bA.out; replace aA := zbl aA.out hb; replace bA := zbl bA.out hb; replace HB := zQ (below_step (zB3 HB.out eA.out gA.out) hb); clear hb fA hg))
   have n0_ := zQ (blk_drew aA.out); have n1_ := zQ (blk_drew bA.out); have n2_ := zQ (blk_drew cA.out); have n3_ := zQ (below_drew1 HB.out); clear aA; clear bA; clear cA; clear HB; have aA := n0_; have bA := n1_; have cA := n2_; have HB := n3_; clear n0_ n1_ n2_ n3_
   refine zs (fun w' => w'.cell? ⟨jA, 0, none⟩ = some (.int .i64 a0_0) ∧ w'.cell? ⟨jA, 1, none⟩ = some (.int .i64 a0_1) ∧ w'.cell? ⟨iA, 0, none⟩ = some (.int .i64 a1_0) ∧ w'.cell? ⟨iA, 1, none⟩ = some (.int .i64 a1_1) ∧ w'.cell? ⟨hA, 0, none⟩ = some (.int .i64 a2_0) ∧ w'.cell? ⟨hA, 1, none⟩ = some (.int .i64 a2_1)) [] 36 ⟨(blk_cell aA.out 0).trans rfl, (blk_cell aA.out 1).trans rfl, (blk_cell bA.out 0).trans rfl, (blk_cell bA.out 1).trans rfl, (blk_cell cA.out 0).trans rfl, (blk_cell cA.out 1).trans rfl⟩ (fun dA => ?_); refine with_tabW spec_l13On.tab1 spec_l13On.bits1 (fun HT_ HW_ => ?_)
   generalize FA.drew = QA at aA bA cA HB dA ⊢
   refine zt 0 7 dA ?_
   refine zt 1 8 dA ?_
   refine zt 2 9 dA ?_
   refine zo 3 (some 10) (fun K hK => ?_)
   refine goes_ Try.func50 (by kernel_rfl) rfl #[.agg #[.int .i64 a0_0, .int .i64 a0_1], .agg #[.int .i64 a1_0, .int .i64 a1_1], .agg #[.int .i64 a2_0, .int .i64 a2_1]] (by rfl) rfl rfl zM ?_
   with_reducible refine (spec_l13Cross.calls a0_0 a0_1 a1_0 a1_1 a2_0 a2_1 lA _ A4.out).mono ?_
   rintro e PA ⟨rfl, hb⟩
   refine ⟨_, rfl, ?_⟩
   have n0_ := zbl aA.out hb; have n1_ := zbl bA.out hb; have n2_ := zbl cA.out hb; have n3_ := zQ (below_step (by repeat (first | (with_reducible first | exact HB.out | apply below_alloc | apply pw_below_drewN | apply below_drew1 | refine below_set ?_ eA.out | refine below_set ?_ gA.out | refine below_set ?_ kA.out) | exact HB.out)) hb); clear aA; clear bA; clear cA; clear HB; have aA := n0_; have bA := n1_; have cA := n2_; have HB := n3_; clear n0_ n1_ n2_ n3_
   (try clear hb)
   (try clear DA)
   (try clear hk)
   (try clear hi)
   refine hK.out _ _ ⟨(blk_cell aA.out 0).trans rfl, (blk_cell aA.out 1).trans rfl, (blk_cell bA.out 0).trans rfl, (blk_cell bA.out 1).trans rfl, (blk_cell cA.out 0).trans rfl, (blk_cell cA.out 1).trans rfl⟩ (fun dA => ?_)
   clear hK K
   refine zn 10 ?_
   refine zp 4 11 ?_
   refine zp 5 12 ?_
   refine zp 6 13 ?_
   refine zp 8 15 ?_
   refine zp 10 17 ?_
   refine zp 13 20 ?_
   refine zp 15 22 ?_
   refine zt 7 14 dA ?_
   refine zt 9 16 dA ?_
   refine zt 11 18 dA ?_
   refine zt 14 21 dA ?_
   refine zt 16 23 dA ?_
   refine zo 12 (some 19) (fun K hK => ?_)
   refine goes_ Try.func43 (by kernel_rfl) rfl #[.int .i64 a0_0, .int .i64 a1_0] (by rfl) rfl rfl zM ?_
   with_reducible refine (spec_l00Min.calls a0_0 a1_0 tA _ A6.out).mono ?_
   rintro e w' ⟨rfl, ⟨nd, rfl⟩⟩
   refine ⟨_, rfl, ?_⟩
   refine hK.out _ _ ⟨(blk_cell aA.out 0).trans rfl, (blk_cell aA.out 1).trans rfl, (blk_cell bA.out 0).trans rfl, (blk_cell bA.out 1).trans rfl, (blk_cell cA.out 0).trans rfl, (blk_cell cA.out 1).trans rfl⟩ (fun dA => ?_)
   clear hK K
   refine zn 19 ?_
   refine zo 17 (some 24) (fun K hK => ?_)
   refine goes_ Try.func41 (by kernel_rfl) rfl #[.int .i64 a0_0, .int .i64 a1_0] (by rfl) rfl rfl zM ?_
   with_reducible refine (spec_l00Max.calls a0_0 a1_0 sA _ A7.out).mono ?_
   rintro e w' ⟨rfl, ⟨nd, rfl⟩⟩
   refine ⟨_, rfl, ?_⟩
   refine hK.out _ _ ⟨(blk_cell aA.out 0).trans rfl, (blk_cell aA.out 1).trans rfl, (blk_cell bA.out 0).trans rfl, (blk_cell bA.out 1).trans rfl, (blk_cell cA.out 0).trans rfl, (blk_cell cA.out 1).trans rfl⟩ (fun dA => ?_)
   clear hK K
   refine zn 24 ?_
   refine zo 18 (some 25) (fun K hK => ?_)
   refine goes_ Try.func27 (by kernel_rfl) rfl #[.int .i64 a2_0, .int .i64 tA, .int .i64 sA] (by rfl) rfl rfl zM ?_
   with_reducible refine (spec_l00In.calls a2_0 tA sA false _ A8.out).mono ?_
   rintro e w' ⟨rfl, ⟨nd, rfl⟩⟩
   refine ⟨_, rfl, ?_⟩
   refine hK.out _ _ ⟨(blk_cell aA.out 0).trans rfl, (blk_cell aA.out 1).trans rfl, (blk_cell bA.out 0).trans rfl, (blk_cell bA.out 1).trans rfl, (blk_cell cA.out 0).trans rfl, (blk_cell cA.out 1).trans rfl⟩ (fun dA => ?_)
   clear hK K
   refine zn 25 ?_
   refine zp 19 26 ?_
   refine zp 20 27 ?_
   refine zg 21 28 ?_
   refine zg 22 29 ?_
   refine zg 23 30 ?_
   refine zg 24 31 ?_
   refine zg 25 32 ?_
   refine zg 26 33 ?_
   refine zg 27 34 ?_
   refine zg 28 35 ?_
   refine zg 29 36 ?_
   refine zg 30 37 ?_
   refine zg 31 38 ?_
   refine zg 32 39 ?_
   refine zg 33 40 ?_
   refine zp 34 41 ?_
   refine zp 35 6 ?_
   refine done_ (done_of HT_.out (by kernel_rfl)) ?_
   try go_wp2
   go_ret
   exact ⟨zE, by repeat (first | (with_reducible first | exact HB.out | apply below_alloc | apply pw_below_drewN | apply below_drew1 | refine below_set ?_ eA.out | refine below_set ?_ gA.out | refine below_set ?_ kA.out) | exact HB.out)⟩
 ·rw [if_neg c5] at H
  have CA : (lA == 0) = false := beq_eq_false_iff_ne.mpr c5; have BA : (lA != 0) = true := bne_iff_ne.mpr c5; obtain rfl := Option.some.inj H
  go_enter Try.func66, Try.ntmps66
  try go_wp2_with (first | ((with_reducible refine zd 3 ?_); refine zbx (N := 3) (cs := #[.int .i64 a0_0, .int .i64 a0_1]) (t := 49) ?_; intro jA hg OA fA hb; have aA := zQ (fA); have vA := zgz hg HB.out; have eA := vA; replace HB := zbs HB.out hb; clear hb fA hg) | ((with_reducible refine zd 4 ?_); refine zbx (N := 4) (cs := #[.int .i64 a1_0, .int .i64 a1_1]) (t := 49) ?_; intro iA hg NA fA hb; have bA := zQ (fA); have uA := zgz2 hg HB.out eA.out; have gA := uA; have rA := zn1 hg aA.out; have pA := zn2 hg aA.out; replace aA := zbl aA.out hb; replace HB := zbs2 HB.out eA.out hb; clear hb fA hg) | ((with_reducible refine zd 5 ?_); refine zbx (N := 5) (cs := #[.int .i64 a2_0, .int .i64 a2_1]) (t := 49) ?_; intro hA hg EA fA hb; have cA := zQ (fA); have yA := zQ ((by rw [hg]; exact (below_size (zB3 HB.out eA.out gA.out)) : w.heap.size ≤ hA)); have kA := zQ ((by rw [hg]; exact (below_size (zB3 HB.out eA.out gA.out)) : w.heap.size ≤ hA)); have qA := zn1 hg aA.out; have nA := zn2 hg aA.out; have oA := zn1 hg bA.out; have mA := zn2 hg bA.out; replace aA := zbl aA.out hb; replace bA := zbl bA.out hb; replace HB := zQ (below_step (zB3 HB.out eA.out gA.out) hb); clear hb fA hg))
  have n0_ := zQ (blk_drew aA.out); have n1_ := zQ (blk_drew bA.out); have n2_ := zQ (blk_drew cA.out); have n3_ := zQ (below_drew1 HB.out); clear aA; clear bA; clear cA; clear HB; have aA := n0_; have bA := n1_; have cA := n2_; have HB := n3_; clear n0_ n1_ n2_ n3_
  refine zs (fun w' => w'.cell? ⟨jA, 0, none⟩ = some (.int .i64 a0_0) ∧ w'.cell? ⟨jA, 1, none⟩ = some (.int .i64 a0_1) ∧ w'.cell? ⟨iA, 0, none⟩ = some (.int .i64 a1_0) ∧ w'.cell? ⟨iA, 1, none⟩ = some (.int .i64 a1_1) ∧ w'.cell? ⟨hA, 0, none⟩ = some (.int .i64 a2_0) ∧ w'.cell? ⟨hA, 1, none⟩ = some (.int .i64 a2_1)) [] 36 ⟨(blk_cell aA.out 0).trans rfl, (blk_cell aA.out 1).trans rfl, (blk_cell bA.out 0).trans rfl, (blk_cell bA.out 1).trans rfl, (blk_cell cA.out 0).trans rfl, (blk_cell cA.out 1).trans rfl⟩ (fun dA => ?_); refine with_tabW spec_l13On.tab1 spec_l13On.bits1 (fun HT_ HW_ => ?_)
  generalize EA.drew = MA at aA bA cA HB dA ⊢
  refine zt 0 7 dA ?_
  refine zt 1 8 dA ?_
  refine zt 2 9 dA ?_
  refine zo 3 (some 10) (fun K hK => ?_)
  refine goes_ Try.func50 (by kernel_rfl) rfl #[.agg #[.int .i64 a0_0, .int .i64 a0_1], .agg #[.int .i64 a1_0, .int .i64 a1_1], .agg #[.int .i64 a2_0, .int .i64 a2_1]] (by rfl) rfl rfl zM ?_
  with_reducible refine (spec_l13Cross.calls a0_0 a0_1 a1_0 a1_1 a2_0 a2_1 lA _ A4.out).mono ?_
  rintro e LA ⟨rfl, hb⟩
  refine ⟨_, rfl, ?_⟩
  have n0_ := zbl aA.out hb; have n1_ := zbl bA.out hb; have n2_ := zbl cA.out hb; have n3_ := zQ (below_step (by repeat (first | (with_reducible first | exact HB.out | apply below_alloc | apply pw_below_drewN | apply below_drew1 | refine below_set ?_ eA.out | refine below_set ?_ gA.out | refine below_set ?_ kA.out) | exact HB.out)) hb); clear aA; clear bA; clear cA; clear HB; have aA := n0_; have bA := n1_; have cA := n2_; have HB := n3_; clear n0_ n1_ n2_ n3_
  (try clear hb)
  (try clear DA)
  (try clear hk)
  (try clear hi)
  refine hK.out _ _ ⟨(blk_cell aA.out 0).trans rfl, (blk_cell aA.out 1).trans rfl, (blk_cell bA.out 0).trans rfl, (blk_cell bA.out 1).trans rfl, (blk_cell cA.out 0).trans rfl, (blk_cell cA.out 1).trans rfl⟩ (fun dA => ?_)
  clear hK K
  refine zn 10 ?_
  refine zp 4 11 ?_
  refine zp 5 12 ?_
  refine zg 6 13 ?_
  refine zg 7 14 ?_
  refine zg 8 15 ?_
  refine zg 9 16 ?_
  refine zg 10 17 ?_
  refine zg 11 18 ?_
  refine zg 12 19 ?_
  refine zg 13 20 ?_
  refine zg 14 21 ?_
  refine zg 15 22 ?_
  refine zg 16 23 ?_
  refine zg 17 24 ?_
  refine zg 18 25 ?_
  refine zp 19 26 ?_
  refine zp 20 27 ?_
  refine zg 21 28 ?_
  refine zg 22 29 ?_
  refine zg 23 30 ?_
  refine zg 24 31 ?_
  refine zg 25 32 ?_
  refine zg 26 33 ?_
  refine zg 27 34 ?_
  refine zg 28 35 ?_
  refine zg 29 36 ?_
  refine zg 30 37 ?_
  refine zg 31 38 ?_
  refine zg 32 39 ?_
  refine zg 33 40 ?_
  refine zp 34 41 ?_
  refine zp 35 6 ?_
  refine done_ (done_of HT_.out (by kernel_rfl)) ?_
  try go_wp2
  go_ret
  exact ⟨zE, by repeat (first | (with_reducible first | exact HB.out | apply below_alloc | apply pw_below_drewN | apply below_drew1 | refine below_set ?_ eA.out | refine below_set ?_ gA.out | refine below_set ?_ kA.out) | exact HB.out)⟩

end
end Go.Proofs.Ytchngbjpjbahiaa.PSailw

