import Derived.Test.YtchngbjpjbahiaaHSailw0
import Derived.Test.YtchngbjpjbahiaaHSailwh
namespace Go.Proofs.Ytchngbjpjbahiaa.PSailw
noncomputable section
open Go.RowKit Go.Proofs.YtchngbjpjbahiaaW.PrintWords Go.Proofs.YtchngbjpjbahiaaW.PrintLast Go.Proofs.YtchngbjpjbahiaaW.PrintMore
attribute [local go_sem] max2_int min2_int max_two min_two max_three min_three max_four min_four   -- for this text's walks alone
set_option linter.unusedVariables false
set_option linter.unusedSimpArgs false
set_option maxHeartbeats 8000000
set_option maxRecDepth 100000

def impl_edgesMeet.j0 : Nat → Int → Int → Int → Int → Bool → Int → Int → Int → Int → Int → Int → Int → Int → Option (Bool)
 | 0, _, _, _, _, _, _, _, _, _, _, _, _, _ => none
 | k + 1, x9, x10, x11, x12, x42, GA, FA, AA, zA, yA, xA, wA, vA => if x42 = true then (some true) else (if x9 = 0 then ((impl_between.f GA FA AA zA yA xA).bind fun zB => (if zB = true then (some true) else (if x10 = 0 then ((impl_between.f GA FA AA zA wA vA).bind fun yB => (if yB = true then (some true) else (if x11 = 0 then ((impl_between.f yA xA wA vA GA FA).bind fun xB => (if xB = true then (some true) else (if x12 = 0 then ((impl_between.f yA xA wA vA AA zA).bind fun wB => (some wB)) else (some false)))) else (if x12 = 0 then ((impl_between.f yA xA wA vA AA zA).bind fun vB => (some vB)) else (some false))))) else (if x11 = 0 then ((impl_between.f yA xA wA vA GA FA).bind fun uB => (if uB = true then (some true) else (if x12 = 0 then ((impl_between.f yA xA wA vA AA zA).bind fun tB => (some tB)) else (some false)))) else (if x12 = 0 then ((impl_between.f yA xA wA vA AA zA).bind fun sB => (some sB)) else (some false)))))) else (if x10 = 0 then ((impl_between.f GA FA AA zA wA vA).bind fun rB => (if rB = true then (some true) else (if x11 = 0 then ((impl_between.f yA xA wA vA GA FA).bind fun qB => (if qB = true then (some true) else (if x12 = 0 then ((impl_between.f yA xA wA vA AA zA).bind fun pB => (some pB)) else (some false)))) else (if x12 = 0 then ((impl_between.f yA xA wA vA AA zA).bind fun oB => (some oB)) else (some false))))) else (if x11 = 0 then ((impl_between.f yA xA wA vA GA FA).bind fun nB => (if nB = true then (some true) else (if x12 = 0 then ((impl_between.f yA xA wA vA AA zA).bind fun mB => (some mB)) else (some false)))) else (if x12 = 0 then ((impl_between.f yA xA wA vA AA zA).bind fun lB => (some lB)) else (some false)))))
def impl_edgesMeet.f (k : Nat) (a0_0 : Int) (a0_1 : Int) (a1_0 : Int) (a1_1 : Int) (a2_0 : Int) (a2_1 : Int) (a3_0 : Int) (a3_1 : Int) : Option (Bool) := (impl_turnAt.f a0_0 a0_1 a1_0 a1_1 a2_0 a2_1).bind fun IA => ((impl_turnAt.f a0_0 a0_1 a1_0 a1_1 a3_0 a3_1).bind fun EA => ((impl_turnAt.f a2_0 a2_1 a3_0 a3_1 a0_0 a0_1).bind fun CA => ((impl_turnAt.f a2_0 a2_1 a3_0 a3_1 a1_0 a1_1).bind fun uA => ((impl_sign.f IA).bind fun eB => ((impl_sign.f EA).bind fun dB => (if (wrap64 (eB * dB)) < 0 then ((impl_sign.f CA).bind fun gB => ((impl_sign.f uA).bind fun fB => (impl_edgesMeet.j0 k IA EA CA uA (decide ((wrap64 (gB * fB)) < 0)) a0_0 a0_1 a1_0 a1_1 a2_0 a2_1 a3_0 a3_1))) else (impl_edgesMeet.j0 k IA EA CA uA false a0_0 a0_1 a1_0 a1_1 a2_0 a2_1 a3_0 a3_1)))))))
def impl_edgesMeet.T1 : Bool × List (List Nat × List Nat) := (true, [([], []), ([], []), ([], []), ([0, 1, 2], [0, 1, 2]), ([], []), ([], []), ([], []), ([4, 5, 6, 3], [4, 5, 6]), ([3, 7, 0, 1, 2, 3], [3]), ([7, 8, 0, 1, 2, 3, 4, 5, 6, 7, 8], [7])])
def impl_edgesMeet.B1 : List Nat := [0, 0, 0, 7, 0, 0, 0, 127, 255, 511]
theorem impl_edgesMeet.tab1 : rtab .any (opsOf Try.f57 1) = impl_edgesMeet.T1 := by kernel_rfl
theorem impl_edgesMeet.bits1 : waitsOk impl_edgesMeet.T1.2 impl_edgesMeet.B1 = true := by kernel_rfl
def impl_edgesMeet.T2 : Bool × List (List Nat × List Nat) := (true, [([], []), ([], []), ([], []), ([0, 1, 2], [0, 1, 2]), ([], []), ([], []), ([], []), ([4, 5, 6, 3], [4, 5, 6]), ([3, 7, 0, 1, 2, 3], [3]), ([7, 8, 0, 1, 2, 3, 4, 5, 6, 7, 8], [7])])
def impl_edgesMeet.B2 : List Nat := [0, 0, 0, 7, 0, 0, 0, 127, 255, 511]
theorem impl_edgesMeet.tab2 : rtab .any (opsOf Try.f57 2) = impl_edgesMeet.T2 := by kernel_rfl
theorem impl_edgesMeet.bits2 : waitsOk impl_edgesMeet.T2.2 impl_edgesMeet.B2 = true := by kernel_rfl
theorem impl_edgesMeet.calls (k : Nat) (a0_0 : Int) (a0_1 : Int) (a1_0 : Int) (a1_1 : Int) (a2_0 : Int) (a2_1 : Int) (a3_0 : Int) (a3_1 : Int) (r : Bool) (w : World) (h : impl_edgesMeet.f k a0_0 a0_1 a1_0 a1_1 a2_0 a2_1 a3_0 a3_1 = some r) :
  Calls Try.prog 57 #[.agg #[.int .i64 a0_0, .int .i64 a0_1], .agg #[.int .i64 a1_0, .int .i64 a1_1], .agg #[.int .i64 a2_0, .int .i64 a2_1], .agg #[.int .i64 a3_0, .int .i64 a3_1]] w fun e w' => e = .returned (.bool r) ∧ Below w.heap.size w w' := by
 have bT := Try.underlying49
 have HB := zQ (Below.refl w.heap.size w)
 have H := h; unfold impl_edgesMeet.f at H
 clear h
 replace H := zob H; obtain ⟨IA, A5, H⟩ := H
 replace H := zob H; obtain ⟨EA, A6, H⟩ := H
 replace H := zob H; obtain ⟨CA, A7, H⟩ := H
 replace H := zob H; obtain ⟨uA, A8, H⟩ := H
 have ZQ := zQ H
 clear H
 go_enter Try.func57, Try.ntmps57
 try go_wp2_with (first | ((with_reducible refine zd 4 ?_); refine zbx (N := 4) (cs := #[.int .i64 a0_0, .int .i64 a0_1]) (t := 49) ?_; intro OA hg vT JA hb; have aA := zQ (JA); have oK := zgz hg HB.out; have eA := oK; replace HB := zbs HB.out hb; clear hb JA hg) | ((with_reducible refine zd 5 ?_); refine zbx (N := 5) (cs := #[.int .i64 a1_0, .int .i64 a1_1]) (t := 49) ?_; intro NA hg uT JA hb; have bA := zQ (JA); have nK := zgz2 hg HB.out eA.out; have fA := nK; have tA := zn1 hg aA.out; have qA := zn2 hg aA.out; replace aA := zbl aA.out hb; replace HB := zbs2 HB.out eA.out hb; clear hb JA hg) | ((with_reducible refine zd 6 ?_); refine zbx (N := 6) (cs := #[.int .i64 a2_0, .int .i64 a2_1]) (t := 49) ?_; intro LA hg tT JA hb; have cA := zQ (JA); have jS := zQ ((by rw [hg]; exact (below_size (zB3 HB.out eA.out fA.out)) : w.heap.size ≤ LA)); have gA := zQ ((by rw [hg]; exact (below_size (zB3 HB.out eA.out fA.out)) : w.heap.size ≤ LA)); have sA := zn1 hg aA.out; have nA := zn2 hg aA.out; have pA := zn1 hg bA.out; have mA := zn2 hg bA.out; replace aA := zbl aA.out hb; replace bA := zbl bA.out hb; replace HB := zQ (below_step (zB3 HB.out eA.out fA.out) hb); clear hb JA hg) | ((with_reducible refine zd 7 ?_); refine zbx (N := 7) (cs := #[.int .i64 a3_0, .int .i64 a3_1]) (t := 49) ?_; intro KA hg US JA hb; have dA := zQ (JA); have hS := zQ ((by rw [hg]; exact (below_size (by repeat (first | (with_reducible first | exact HB.out | apply below_alloc | apply pw_below_drewN | apply below_drew1 | refine below_set ?_ eA.out | refine below_set ?_ fA.out | refine below_set ?_ gA.out) | exact HB.out))) : w.heap.size ≤ KA)); have hA := zQ ((by rw [hg]; exact (below_size (by repeat (first | (with_reducible first | exact HB.out | apply below_alloc | apply pw_below_drewN | apply below_drew1 | refine below_set ?_ eA.out | refine below_set ?_ fA.out | refine below_set ?_ gA.out) | exact HB.out))) : w.heap.size ≤ KA)); have rA := zn1 hg aA.out; have kA := zn2 hg aA.out; have oA := zn1 hg bA.out; have jA := zn2 hg bA.out; have lA := zn1 hg cA.out; have iA := zn2 hg cA.out; replace aA := zbl aA.out hb; replace bA := zbl bA.out hb; replace cA := zbl cA.out hb; replace HB := zQ (below_step (by repeat (first | (with_reducible first | exact HB.out | apply below_alloc | apply pw_below_drewN | apply below_drew1 | refine below_set ?_ eA.out | refine below_set ?_ fA.out | refine below_set ?_ gA.out) | exact HB.out)) hb); clear hb JA hg))
 have n0_ := zQ (blk_drew aA.out)
 have n1_ := zQ (blk_drew bA.out)
 have n2_ := zQ (blk_drew cA.out)
 have n3_ := zQ (blk_drew dA.out)
 have n4_ := zQ (below_drew1 HB.out)
 clear aA
 clear bA
 clear cA
 clear dA
 clear HB
 have aA := n0_
 have bA := n1_
 have cA := n2_
 have dA := n3_
 have HB := n4_
 clear n0_ n1_ n2_ n3_ n4_
 refine zs (fun w' => w'.cell? ⟨OA, 0, none⟩ = some (.int .i64 a0_0) ∧ w'.cell? ⟨OA, 1, none⟩ = some (.int .i64 a0_1) ∧ w'.cell? ⟨NA, 0, none⟩ = some (.int .i64 a1_0) ∧ w'.cell? ⟨NA, 1, none⟩ = some (.int .i64 a1_1) ∧ w'.cell? ⟨LA, 0, none⟩ = some (.int .i64 a2_0) ∧ w'.cell? ⟨LA, 1, none⟩ = some (.int .i64 a2_1) ∧ w'.cell? ⟨KA, 0, none⟩ = some (.int .i64 a3_0) ∧ w'.cell? ⟨KA, 1, none⟩ = some (.int .i64 a3_1)) [] 10 ⟨(blk_cell aA.out 0).trans rfl, (blk_cell aA.out 1).trans rfl, (blk_cell bA.out 0).trans rfl, (blk_cell bA.out 1).trans rfl, (blk_cell cA.out 0).trans rfl, (blk_cell cA.out 1).trans rfl, (blk_cell dA.out 0).trans rfl, (blk_cell dA.out 1).trans rfl⟩ (fun BA => ?_); refine with_tabW impl_edgesMeet.tab1 impl_edgesMeet.bits1 (fun HT_ HW_ => ?_)
 generalize US.drew = sT at aA bA cA dA HB BA ⊢
 refine zt 0 13 BA ?_
 refine zt 1 14 BA ?_
 refine zt 2 15 BA ?_
 refine zt 4 17 BA ?_
 refine zt 5 18 BA ?_
 refine zt 6 19 BA ?_
 refine zo 3 (some 16) (fun K hK => ?_)
 refine goes_ Try.func56 (by kernel_rfl) rfl #[.agg #[.int .i64 a0_0, .int .i64 a0_1], .agg #[.int .i64 a1_0, .int .i64 a1_1], .agg #[.int .i64 a2_0, .int .i64 a2_1]] (by rfl) rfl rfl zM ?_
 with_reducible refine (impl_turnAt.calls a0_0 a0_1 a1_0 a1_1 a2_0 a2_1 IA _ A5.out).mono ?_
 rintro e rT ⟨rfl, hb⟩
 refine ⟨_, rfl, ?_⟩
 have n0_ := zbl aA.out hb
 have n1_ := zbl bA.out hb
 have n2_ := zbl cA.out hb
 have n3_ := zbl dA.out hb
 have n4_ := zQ (below_step (by repeat (first | (with_reducible first | exact HB.out | apply below_alloc | apply pw_below_drewN | apply below_drew1 | refine below_set ?_ eA.out | refine below_set ?_ fA.out | refine below_set ?_ gA.out | refine below_set ?_ hA.out) | exact HB.out)) hb)
 clear aA
 clear bA
 clear cA
 clear dA
 clear HB
 have aA := n0_
 have bA := n1_
 have cA := n2_
 have dA := n3_
 have HB := n4_
 clear n0_ n1_ n2_ n3_ n4_
 (try clear hb)
 (try clear DA)
 (try clear hk)
 (try clear hi)
 refine hK.out _ _ ⟨(blk_cell aA.out 0).trans rfl, (blk_cell aA.out 1).trans rfl, (blk_cell bA.out 0).trans rfl, (blk_cell bA.out 1).trans rfl, (blk_cell cA.out 0).trans rfl, (blk_cell cA.out 1).trans rfl, (blk_cell dA.out 0).trans rfl, (blk_cell dA.out 1).trans rfl⟩ (fun BA => ?_)
 clear hK K
 refine zn 16 ?_
 refine zo 7 (some 20) (fun K hK => ?_)
 refine goes_ Try.func56 (by kernel_rfl) rfl #[.agg #[.int .i64 a0_0, .int .i64 a0_1], .agg #[.int .i64 a1_0, .int .i64 a1_1], .agg #[.int .i64 a3_0, .int .i64 a3_1]] (by rfl) rfl rfl zM ?_
 with_reducible refine (impl_turnAt.calls a0_0 a0_1 a1_0 a1_1 a3_0 a3_1 EA _ A6.out).mono ?_
 rintro e OS ⟨rfl, hb⟩
 refine ⟨_, rfl, ?_⟩
 have n0_ := zbl aA.out hb
 have n1_ := zbl bA.out hb
 have n2_ := zbl cA.out hb
 have n3_ := zbl dA.out hb
 have n4_ := zQ (below_step (by repeat (first | (with_reducible first | exact HB.out | apply below_alloc | apply pw_below_drewN | apply below_drew1 | refine below_set ?_ eA.out | refine below_set ?_ fA.out | refine below_set ?_ gA.out | refine below_set ?_ hA.out) | exact HB.out)) hb)
 clear aA
 clear bA
 clear cA
 clear dA
 clear HB
 have aA := n0_
 have bA := n1_
 have cA := n2_
 have dA := n3_
 have HB := n4_
 clear n0_ n1_ n2_ n3_ n4_
 (try clear hb)
 (try clear DA)
 (try clear hk)
 (try clear hi)
 refine hK.out _ _ ⟨(blk_cell aA.out 0).trans rfl, (blk_cell aA.out 1).trans rfl, (blk_cell bA.out 0).trans rfl, (blk_cell bA.out 1).trans rfl, (blk_cell cA.out 0).trans rfl, (blk_cell cA.out 1).trans rfl, (blk_cell dA.out 0).trans rfl, (blk_cell dA.out 1).trans rfl⟩ (fun BA => ?_)
 clear hK K
 refine zn 20 ?_
 refine zp 8 9 ?_
 refine zp 9 10 ?_
 refine done_ (done_of HT_.out (by kernel_rfl)) ?_
 try go_wp2
 have n0_ := zQ (blk_drew aA.out)
 have n1_ := zQ (blk_drew bA.out)
 have n2_ := zQ (blk_drew cA.out)
 have n3_ := zQ (blk_drew dA.out)
 have n4_ := zQ (below_drew1 HB.out)
 clear aA
 clear bA
 clear cA
 clear dA
 clear HB
 have aA := n0_
 have bA := n1_
 have cA := n2_
 have dA := n3_
 have HB := n4_
 clear n0_ n1_ n2_ n3_ n4_
 refine zs (fun w' => w'.cell? ⟨LA, 0, none⟩ = some (.int .i64 a2_0) ∧ w'.cell? ⟨LA, 1, none⟩ = some (.int .i64 a2_1) ∧ w'.cell? ⟨KA, 0, none⟩ = some (.int .i64 a3_0) ∧ w'.cell? ⟨KA, 1, none⟩ = some (.int .i64 a3_1) ∧ w'.cell? ⟨OA, 0, none⟩ = some (.int .i64 a0_0) ∧ w'.cell? ⟨OA, 1, none⟩ = some (.int .i64 a0_1) ∧ w'.cell? ⟨NA, 0, none⟩ = some (.int .i64 a1_0) ∧ w'.cell? ⟨NA, 1, none⟩ = some (.int .i64 a1_1)) [] 10 ⟨(blk_cell cA.out 0).trans rfl, (blk_cell cA.out 1).trans rfl, (blk_cell dA.out 0).trans rfl, (blk_cell dA.out 1).trans rfl, (blk_cell aA.out 0).trans rfl, (blk_cell aA.out 1).trans rfl, (blk_cell bA.out 0).trans rfl, (blk_cell bA.out 1).trans rfl⟩ (fun BA => ?_); refine with_tabW impl_edgesMeet.tab2 impl_edgesMeet.bits2 (fun HT_ HW_ => ?_)
 generalize OS.drew = qT at aA bA cA dA HB BA ⊢
 refine zt 0 21 BA ?_
 refine zt 1 22 BA ?_
 refine zt 2 23 BA ?_
 refine zt 4 25 BA ?_
 refine zt 5 26 BA ?_
 refine zt 6 27 BA ?_
 refine zo 3 (some 24) (fun K hK => ?_)
 refine goes_ Try.func56 (by kernel_rfl) rfl #[.agg #[.int .i64 a2_0, .int .i64 a2_1], .agg #[.int .i64 a3_0, .int .i64 a3_1], .agg #[.int .i64 a0_0, .int .i64 a0_1]] (by rfl) rfl rfl zM ?_
 with_reducible refine (impl_turnAt.calls a2_0 a2_1 a3_0 a3_1 a0_0 a0_1 CA _ A7.out).mono ?_
 rintro e pT ⟨rfl, hb⟩
 refine ⟨_, rfl, ?_⟩
 have n0_ := zbl aA.out hb
 have n1_ := zbl bA.out hb
 have n2_ := zbl cA.out hb
 have n3_ := zbl dA.out hb
 have n4_ := zQ (below_step (by repeat (first | (with_reducible first | exact HB.out | apply below_alloc | apply pw_below_drewN | apply below_drew1 | refine below_set ?_ eA.out | refine below_set ?_ fA.out | refine below_set ?_ gA.out | refine below_set ?_ hA.out) | exact HB.out)) hb)
 clear aA
 clear bA
 clear cA
 clear dA
 clear HB
 have aA := n0_
 have bA := n1_
 have cA := n2_
 have dA := n3_
 have HB := n4_
 clear n0_ n1_ n2_ n3_ n4_
 (try clear hb)
 (try clear DA)
 (try clear hk)
 (try clear hi)
 refine hK.out _ _ ⟨(blk_cell cA.out 0).trans rfl, (blk_cell cA.out 1).trans rfl, (blk_cell dA.out 0).trans rfl, (blk_cell dA.out 1).trans rfl, (blk_cell aA.out 0).trans rfl, (blk_cell aA.out 1).trans rfl, (blk_cell bA.out 0).trans rfl, (blk_cell bA.out 1).trans rfl⟩ (fun BA => ?_)
 clear hK K
 refine zn 24 ?_
 refine zo 7 (some 28) (fun K hK => ?_)
 refine goes_ Try.func56 (by kernel_rfl) rfl #[.agg #[.int .i64 a2_0, .int .i64 a2_1], .agg #[.int .i64 a3_0, .int .i64 a3_1], .agg #[.int .i64 a1_0, .int .i64 a1_1]] (by rfl) rfl rfl zM ?_
 with_reducible refine (impl_turnAt.calls a2_0 a2_1 a3_0 a3_1 a1_0 a1_1 uA _ A8.out).mono ?_
 rintro e oT ⟨rfl, hb⟩
 refine ⟨_, rfl, ?_⟩
 have n0_ := zbl aA.out hb
 have n1_ := zbl bA.out hb
 have n2_ := zbl cA.out hb
 have n3_ := zbl dA.out hb
 have n4_ := zQ (below_step (by repeat (first | (with_reducible first | exact HB.out | apply below_alloc | apply pw_below_drewN | apply below_drew1 | refine below_set ?_ eA.out | refine below_set ?_ fA.out | refine below_set ?_ gA.out | refine below_set ?_ hA.out) | exact HB.out)) hb)
 clear aA
 clear bA
 clear cA
 clear dA
 clear HB
 have aA := n0_
 have bA := n1_
 have cA := n2_
 have dA := n3_
 have HB := n4_
 clear n0_ n1_ n2_ n3_ n4_
 (try clear hb)
 (try clear DA)
 (try clear hk)
 (try clear hi)
 refine hK.out _ _ ⟨(blk_cell cA.out 0).trans rfl, (blk_cell cA.out 1).trans rfl, (blk_cell dA.out 0).trans rfl, (blk_cell dA.out 1).trans rfl, (blk_cell aA.out 0).trans rfl, (blk_cell aA.out 1).trans rfl, (blk_cell bA.out 0).trans rfl, (blk_cell bA.out 1).trans rfl⟩ (fun BA => ?_)
 clear hK K
 refine zn 28 ?_
 refine zp 8 11 ?_
 refine zp 9 12 ?_
 refine done_ (done_of HT_.out (by kernel_rfl)) ?_
 go_upto_region 3 with (fail)
 go_cut [42] (fun ZS wc => ∃ (kq : Nat) (aB : Bool), ZS = .bool aB ∧ Aside0 (impl_edgesMeet.j0 kq IA EA CA uA aB a0_0 a0_1 a1_0 a1_1 a2_0 a2_1 a3_0 a3_1 = some r) ∧ Aside0 (kq ≤ k) ∧ Aside0 (wc.heap[OA]? = some (.cells #[.int .i64 a0_0, .int .i64 a0_1] 49 (0, 0))) ∧ Aside0 (wc.heap[NA]? = some (.cells #[.int .i64 a1_0, .int .i64 a1_1] 49 (0, 0))) ∧ Aside0 (wc.heap[LA]? = some (.cells #[.int .i64 a2_0, .int .i64 a2_1] 49 (0, 0))) ∧ Aside0 (wc.heap[KA]? = some (.cells #[.int .i64 a3_0, .int .i64 a3_1] 49 (0, 0))) ∧ Aside0 (Below w.heap.size w wc))
 case first =>
  have H := ZQ.out; clear ZQ; replace H := zob H; obtain ⟨eB, lS, H⟩ := H; replace H := zob H; obtain ⟨dB, kS, H⟩ := H
  by_cases TB : (wrap64 (eB * dB)) < 0
  ·rw [if_pos TB] at H
   have MA := decide_eq_true TB; clear TB
   (first | rw [MA] | (simp only [i64_w, i32_w]; rw [MA]) | skip)
   replace H := zob H; obtain ⟨gB, eT, H⟩ := H; replace H := zob H; obtain ⟨fB, dT, H⟩ := H; have H' := zQ H; clear H
   go_wp2_with (first | ((with_reducible refine zgc 70 ?_); refine zgo (some 30) Try.func70 #[.int .i64 IA] ?_; (with_reducible refine (impl_sign.calls IA eB _ lS.out).mono ?_); rintro e w' ⟨rfl, ⟨nd, rfl⟩⟩; refine ⟨_, rfl, ?_⟩) | ((with_reducible refine zgc 70 ?_); refine zgo (some 32) Try.func70 #[.int .i64 EA] ?_; (with_reducible refine (impl_sign.calls EA dB _ kS.out).mono ?_); rintro e w' ⟨rfl, ⟨nd, rfl⟩⟩; refine ⟨_, rfl, ?_⟩) | (go_at_call 70; (with_reducible refine (impl_sign.calls CA gB _ eT.out).mono ?_); rintro e w' ⟨rfl, ⟨nd, rfl⟩⟩) | (go_at_call 70; (with_reducible refine (impl_sign.calls uA fB _ dT.out).mono ?_); rintro e w' ⟨rfl, ⟨nd, rfl⟩⟩))
   go_meet
   case rel => exact ⟨_, (decide ((wrap64 (gB * fB)) < 0)), (zF), H', ⟨by first | omega | exact Nat.le_refl _⟩, ⟨zb aA.out⟩, ⟨zb bA.out⟩, ⟨zb cA.out⟩, ⟨zb dA.out⟩, ⟨by repeat (first | (with_reducible first | exact HB.out | apply below_alloc | apply pw_below_drewN | apply below_drew1 | refine below_set ?_ eA.out | refine below_set ?_ fA.out | refine below_set ?_ gA.out | refine below_set ?_ hA.out) | exact HB.out)⟩⟩
  ·rw [if_neg TB] at H
   have MA := decide_eq_false TB; clear TB
   (first | rw [MA] | (simp only [i64_w, i32_w]; rw [MA]) | skip)
   have H' := zQ H; clear H
   go_wp2_with (first | ((with_reducible refine zgc 70 ?_); refine zgo (some 30) Try.func70 #[.int .i64 IA] ?_; (with_reducible refine (impl_sign.calls IA eB _ lS.out).mono ?_); rintro e w' ⟨rfl, ⟨nd, rfl⟩⟩; refine ⟨_, rfl, ?_⟩) | ((with_reducible refine zgc 70 ?_); refine zgo (some 32) Try.func70 #[.int .i64 EA] ?_; (with_reducible refine (impl_sign.calls EA dB _ kS.out).mono ?_); rintro e w' ⟨rfl, ⟨nd, rfl⟩⟩; refine ⟨_, rfl, ?_⟩))
   go_meet
   case rel => exact ⟨_, (false), (zF), H', ⟨by first | omega | exact Nat.le_refl _⟩, ⟨zb aA.out⟩, ⟨zb bA.out⟩, ⟨zb cA.out⟩, ⟨zb dA.out⟩, ⟨by repeat (first | (with_reducible first | exact HB.out | apply below_alloc | apply pw_below_drewN | apply below_drew1 | refine below_set ?_ eA.out | refine below_set ?_ fA.out | refine below_set ?_ gA.out | refine below_set ?_ hA.out) | exact HB.out)⟩⟩
 case rest =>
  clear ZQ; (try clear c2); (try clear p2); (try clear c5); (try clear p6); (try clear c7); (try clear TB); (try clear MA); obtain ⟨kq, aB, rfl, HA, xT, aA, bA, cA, dA, HB⟩ := hcut
  cases kq with
  | zero => exact absurd HA.out (by simp [impl_edgesMeet.j0])
  | succ wT =>
   have H := HA.out; clear HA
   simp only [impl_edgesMeet.j0] at H
   by_cases JM : aB = true
   ·subst JM
    rw [if_pos rfl] at H; obtain rfl := Option.some.inj H
    go_wp2
    go_ret
    exact ⟨zE, by repeat (first | (with_reducible first | exact HB.out | apply below_alloc | apply pw_below_drewN | apply below_drew1 | refine below_set ?_ eA.out | refine below_set ?_ fA.out | refine below_set ?_ gA.out | refine below_set ?_ hA.out) | exact HB.out)⟩
   ·replace JM := Bool.eq_false_iff.mpr JM
    subst JM
    rw [if_neg Bool.false_ne_true] at H
    by_cases OB : IA = 0
    ·rw [if_pos OB] at H
     have mK : (IA == 0) = true := beq_iff_eq.mpr OB; have lK : (IA != 0) = false := bne_eq_false_iff_eq.mpr OB; clear OB; replace H := zob H; obtain ⟨zB, cB, H⟩ := H
     by_cases IM : zB = true
     ·subst IM
      rw [if_pos rfl] at H; obtain rfl := Option.some.inj H; have gS := tA.out; have GR := qA.out; have fS := sA.out; have FR := nA.out; have eS := rA.out; have ER := kA.out; obtain ⟨FM, EM, wL, vL⟩ := zy2 aA.out; have dS := pA.out; have DR := mA.out; have cS := oA.out; have CR := jA.out; obtain ⟨DM, CM, uL, tL⟩ := zy2 bA.out; have bS := lA.out; have BR := iA.out; obtain ⟨BM, AM, sL, rL⟩ := zy2 cA.out
      go_wp2_with (first | (go_at_call 71; (with_reducible refine (impl_between.calls a0_0 a0_1 a1_0 a1_1 a2_0 a2_1 true _ cB.out).mono ?_); rintro e nT ⟨rfl, hb⟩; replace aA := zbl aA.out hb; replace bA := zbl bA.out hb; replace cA := zbl cA.out hb; replace dA := zbl dA.out hb; replace HB := zQ (below_step (by repeat (first | (with_reducible first | exact HB.out | apply below_alloc | apply pw_below_drewN | apply below_drew1 | refine below_set ?_ eA.out | refine below_set ?_ fA.out | refine below_set ?_ gA.out | refine below_set ?_ hA.out) | exact HB.out)) hb); (try clear hb); (try clear DA); (try clear hk); (try clear hi)))
      go_ret
      exact ⟨zE, by repeat (first | (with_reducible first | exact HB.out | apply below_alloc | apply pw_below_drewN | apply below_drew1 | refine below_set ?_ eA.out | refine below_set ?_ fA.out | refine below_set ?_ gA.out | refine below_set ?_ hA.out) | exact HB.out)⟩
     ·replace IM := Bool.eq_false_iff.mpr IM
      subst IM
      rw [if_neg Bool.false_ne_true] at H
      by_cases CB : EA = 0
      ·rw [if_pos CB] at H
       have kK : (EA == 0) = true := beq_iff_eq.mpr CB; have jK : (EA != 0) = false := bne_eq_false_iff_eq.mpr CB; clear CB; replace H := zob H; obtain ⟨yB, fC, H⟩ := H
       by_cases HM : yB = true
       ·subst HM
        rw [if_pos rfl] at H; obtain rfl := Option.some.inj H; have ZR := tA.out; have AR := qA.out; have YR := sA.out; have zR := nA.out; have XR := rA.out; have yR := kA.out; obtain ⟨yM, xM, qL, pL⟩ := zy2 aA.out; have WR := pA.out; have xR := mA.out; have VR := oA.out; have wR := jA.out; obtain ⟨wM, vM, oL, nL⟩ := zy2 bA.out; have UR := lA.out; have vR := iA.out; obtain ⟨uM, tM, mL, lL⟩ := zy2 cA.out
        go_wp2_with (first | (go_at_call 71; (with_reducible refine (impl_between.calls a0_0 a0_1 a1_0 a1_1 a2_0 a2_1 false _ cB.out).mono ?_); rintro e mT ⟨rfl, hb⟩; replace aA := zbl aA.out hb; replace bA := zbl bA.out hb; replace cA := zbl cA.out hb; replace dA := zbl dA.out hb; replace HB := zQ (below_step (by repeat (first | (with_reducible first | exact HB.out | apply below_alloc | apply pw_below_drewN | apply below_drew1 | refine below_set ?_ eA.out | refine below_set ?_ fA.out | refine below_set ?_ gA.out | refine below_set ?_ hA.out) | exact HB.out)) hb); (try clear hb); (try clear DA); (try clear hk); (try clear hi); obtain ⟨sM, rM, kL, jL⟩ := zy2 aA.out; obtain ⟨qM, pM, iL, hL⟩ := zy2 bA.out; obtain ⟨oM, nM, gL, fL⟩ := zy2 dA.out) | (go_at_call 71; (with_reducible refine (impl_between.calls a0_0 a0_1 a1_0 a1_1 a3_0 a3_1 true _ fC.out).mono ?_); rintro e lT ⟨rfl, hb⟩; replace aA := zbl aA.out hb; replace bA := zbl bA.out hb; replace cA := zbl cA.out hb; replace dA := zbl dA.out hb; replace HB := zQ (below_step (by repeat (first | (with_reducible first | exact HB.out | apply below_alloc | apply pw_below_drewN | apply below_drew1 | refine below_set ?_ eA.out | refine below_set ?_ fA.out | refine below_set ?_ gA.out | refine below_set ?_ hA.out) | exact HB.out)) hb); (try clear hb); (try clear DA); (try clear hk); (try clear hi)))
        go_ret
        exact ⟨zE, by repeat (first | (with_reducible first | exact HB.out | apply below_alloc | apply pw_below_drewN | apply below_drew1 | refine below_set ?_ eA.out | refine below_set ?_ fA.out | refine below_set ?_ gA.out | refine below_set ?_ hA.out) | exact HB.out)⟩
       ·replace HM := Bool.eq_false_iff.mpr HM
        subst HM
        rw [if_neg Bool.false_ne_true] at H
        by_cases BB : CA = 0
        ·rw [if_pos BB] at H
         have iK : (CA == 0) = true := beq_iff_eq.mpr BB; have gK : (CA != 0) = false := bne_eq_false_iff_eq.mpr BB; clear BB; replace H := zob H; obtain ⟨xB, aR, H⟩ := H
         by_cases GM : xB = true
         ·subst GM
          rw [if_pos rfl] at H; obtain rfl := Option.some.inj H; have TR := tA.out; have uR := qA.out; have SR := sA.out; have tR := nA.out; have RR := rA.out; have sR := kA.out; obtain ⟨mM, lM, eL, dL⟩ := zy2 aA.out; have QR := pA.out; have rR := mA.out; have PR := oA.out; have qR := jA.out; obtain ⟨kM, jM, cL, bL⟩ := zy2 bA.out; have NR := lA.out; have pR := iA.out; obtain ⟨iM, hM, aL, ZK⟩ := zy2 cA.out
          go_wp2_with (first | (go_at_call 71; (with_reducible refine (impl_between.calls a0_0 a0_1 a1_0 a1_1 a2_0 a2_1 false _ cB.out).mono ?_); rintro e kT ⟨rfl, hb⟩; replace aA := zbl aA.out hb; replace bA := zbl bA.out hb; replace cA := zbl cA.out hb; replace dA := zbl dA.out hb; replace HB := zQ (below_step (by repeat (first | (with_reducible first | exact HB.out | apply below_alloc | apply pw_below_drewN | apply below_drew1 | refine below_set ?_ eA.out | refine below_set ?_ fA.out | refine below_set ?_ gA.out | refine below_set ?_ hA.out) | exact HB.out)) hb); (try clear hb); (try clear DA); (try clear hk); (try clear hi); obtain ⟨gM, fM, YK, XK⟩ := zy2 aA.out; obtain ⟨eM, dM, WK, VK⟩ := zy2 bA.out; obtain ⟨cM, bM, UK, TK⟩ := zy2 dA.out) | (go_at_call 71; (with_reducible refine (impl_between.calls a0_0 a0_1 a1_0 a1_1 a3_0 a3_1 false _ fC.out).mono ?_); rintro e jT ⟨rfl, hb⟩; replace aA := zbl aA.out hb; replace bA := zbl bA.out hb; replace cA := zbl cA.out hb; replace dA := zbl dA.out hb; replace HB := zQ (below_step (by repeat (first | (with_reducible first | exact HB.out | apply below_alloc | apply pw_below_drewN | apply below_drew1 | refine below_set ?_ eA.out | refine below_set ?_ fA.out | refine below_set ?_ gA.out | refine below_set ?_ hA.out) | exact HB.out)) hb); (try clear hb); (try clear DA); (try clear hk); (try clear hi); obtain ⟨aM, ZL, SK, RK⟩ := zy2 cA.out; obtain ⟨YL, XL, QK, PK⟩ := zy2 dA.out; obtain ⟨WL, VL, OK, NK⟩ := zy2 aA.out) | (go_at_call 71; (with_reducible refine (impl_between.calls a2_0 a2_1 a3_0 a3_1 a0_0 a0_1 true _ aR.out).mono ?_); rintro e iT ⟨rfl, hb⟩; replace aA := zbl aA.out hb; replace bA := zbl bA.out hb; replace cA := zbl cA.out hb; replace dA := zbl dA.out hb; replace HB := zQ (below_step (by repeat (first | (with_reducible first | exact HB.out | apply below_alloc | apply pw_below_drewN | apply below_drew1 | refine below_set ?_ eA.out | refine below_set ?_ fA.out | refine below_set ?_ gA.out | refine below_set ?_ hA.out) | exact HB.out)) hb); (try clear hb); (try clear DA); (try clear hk); (try clear hi)))
          go_ret
          exact ⟨zE, by repeat (first | (with_reducible first | exact HB.out | apply below_alloc | apply pw_below_drewN | apply below_drew1 | refine below_set ?_ eA.out | refine below_set ?_ fA.out | refine below_set ?_ gA.out | refine below_set ?_ hA.out) | exact HB.out)⟩
         ·replace GM := Bool.eq_false_iff.mpr GM
          subst GM
          rw [if_neg Bool.false_ne_true] at H
          by_cases AB : uA = 0
          ·rw [if_pos AB] at H
           have fK : (uA == 0) = true := beq_iff_eq.mpr AB; have eK : (uA != 0) = false := bne_eq_false_iff_eq.mpr AB; clear AB; replace H := zob H; obtain ⟨wB, cT, H⟩ := H; obtain rfl := Option.some.inj H; have MR := tA.out; have nR := qA.out; have LR := sA.out; have mR := nA.out; have KR := rA.out; have lR := kA.out; obtain ⟨UL, TL, MK, LK⟩ := zy2 aA.out; have JR := pA.out; have kR := mA.out; have IR := oA.out; have jR := jA.out; obtain ⟨SL, RL, KK, JK⟩ := zy2 bA.out; have HR := lA.out; have iR := iA.out; obtain ⟨QL, PL, IK, HK⟩ := zy2 cA.out
           go_wp2_with (first | (go_at_call 71; (with_reducible refine (impl_between.calls a0_0 a0_1 a1_0 a1_1 a2_0 a2_1 false _ cB.out).mono ?_); rintro e hT ⟨rfl, hb⟩; replace aA := zbl aA.out hb; replace bA := zbl bA.out hb; replace cA := zbl cA.out hb; replace dA := zbl dA.out hb; replace HB := zQ (below_step (by repeat (first | (with_reducible first | exact HB.out | apply below_alloc | apply pw_below_drewN | apply below_drew1 | refine below_set ?_ eA.out | refine below_set ?_ fA.out | refine below_set ?_ gA.out | refine below_set ?_ hA.out) | exact HB.out)) hb); (try clear hb); (try clear DA); (try clear hk); (try clear hi); obtain ⟨OL, NL, GK, FK⟩ := zy2 aA.out; obtain ⟨ML, LL, EK, DK⟩ := zy2 bA.out; obtain ⟨KL, JL, CK, BK⟩ := zy2 dA.out) | (go_at_call 71; (with_reducible refine (impl_between.calls a0_0 a0_1 a1_0 a1_1 a3_0 a3_1 false _ fC.out).mono ?_); rintro e gT ⟨rfl, hb⟩; replace aA := zbl aA.out hb; replace bA := zbl bA.out hb; replace cA := zbl cA.out hb; replace dA := zbl dA.out hb; replace HB := zQ (below_step (by repeat (first | (with_reducible first | exact HB.out | apply below_alloc | apply pw_below_drewN | apply below_drew1 | refine below_set ?_ eA.out | refine below_set ?_ fA.out | refine below_set ?_ gA.out | refine below_set ?_ hA.out) | exact HB.out)) hb); (try clear hb); (try clear DA); (try clear hk); (try clear hi); obtain ⟨IL, HL, AK, zK⟩ := zy2 cA.out; obtain ⟨GL, FL, yK, xK⟩ := zy2 dA.out; obtain ⟨EL, DL, wK, vK⟩ := zy2 aA.out) | (go_at_call 71; (with_reducible refine (impl_between.calls a2_0 a2_1 a3_0 a3_1 a0_0 a0_1 false _ aR.out).mono ?_); rintro e fT ⟨rfl, hb⟩; replace aA := zbl aA.out hb; replace bA := zbl bA.out hb; replace cA := zbl cA.out hb; replace dA := zbl dA.out hb; replace HB := zQ (below_step (by repeat (first | (with_reducible first | exact HB.out | apply below_alloc | apply pw_below_drewN | apply below_drew1 | refine below_set ?_ eA.out | refine below_set ?_ fA.out | refine below_set ?_ gA.out | refine below_set ?_ hA.out) | exact HB.out)) hb); (try clear hb); (try clear DA); (try clear hk); (try clear hi); obtain ⟨CL, BL, uK, tK⟩ := zy2 cA.out; obtain ⟨AL, zL, sK, rK⟩ := zy2 dA.out; obtain ⟨yL, xL, qK, pK⟩ := zy2 bA.out) | (go_at_call 71; (with_reducible refine (impl_between.calls a2_0 a2_1 a3_0 a3_1 a1_0 a1_1 wB _ cT.out).mono ?_); rintro e YS ⟨rfl, hb⟩; replace aA := zbl aA.out hb; replace bA := zbl bA.out hb; replace cA := zbl cA.out hb; replace dA := zbl dA.out hb; replace HB := zQ (below_step (by repeat (first | (with_reducible first | exact HB.out | apply below_alloc | apply pw_below_drewN | apply below_drew1 | refine below_set ?_ eA.out | refine below_set ?_ fA.out | refine below_set ?_ gA.out | refine below_set ?_ hA.out) | exact HB.out)) hb); (try clear hb); (try clear DA); (try clear hk); (try clear hi)))
           go_ret
           exact ⟨zE, by repeat (first | (with_reducible first | exact HB.out | apply below_alloc | apply pw_below_drewN | apply below_drew1 | refine below_set ?_ eA.out | refine below_set ?_ fA.out | refine below_set ?_ gA.out | refine below_set ?_ hA.out) | exact HB.out)⟩
          ·rw [if_neg AB] at H
           have fK : (uA == 0) = false := beq_eq_false_iff_ne.mpr AB; have eK : (uA != 0) = true := bne_iff_ne.mpr AB; obtain rfl := Option.some.inj H; have YQ := tA.out; have SO := qA.out; have XQ := sA.out; have RO := nA.out; have WQ := rA.out; have QO := kA.out; obtain ⟨dK, cK, hG, gG⟩ := zy2 aA.out; have VQ := pA.out; have PO := mA.out; have UQ := oA.out; have OO := jA.out; obtain ⟨bK, aK, fG, eG⟩ := zy2 bA.out; have TQ := lA.out; have NO := iA.out; obtain ⟨ZJ, YJ, dG, cG⟩ := zy2 cA.out
           go_wp2_with (first | (go_at_call 71; (with_reducible refine (impl_between.calls a0_0 a0_1 a1_0 a1_1 a2_0 a2_1 false _ cB.out).mono ?_); rintro e XS ⟨rfl, hb⟩; replace aA := zbl aA.out hb; replace bA := zbl bA.out hb; replace cA := zbl cA.out hb; replace dA := zbl dA.out hb; replace HB := zQ (below_step (by repeat (first | (with_reducible first | exact HB.out | apply below_alloc | apply pw_below_drewN | apply below_drew1 | refine below_set ?_ eA.out | refine below_set ?_ fA.out | refine below_set ?_ gA.out | refine below_set ?_ hA.out) | exact HB.out)) hb); (try clear hb); (try clear DA); (try clear hk); (try clear hi); obtain ⟨XJ, WJ, bG, aG⟩ := zy2 aA.out; obtain ⟨VJ, UJ, ZF, YF⟩ := zy2 bA.out; obtain ⟨TJ, SJ, XF, WF⟩ := zy2 dA.out) | (go_at_call 71; (with_reducible refine (impl_between.calls a0_0 a0_1 a1_0 a1_1 a3_0 a3_1 false _ fC.out).mono ?_); rintro e WS ⟨rfl, hb⟩; replace aA := zbl aA.out hb; replace bA := zbl bA.out hb; replace cA := zbl cA.out hb; replace dA := zbl dA.out hb; replace HB := zQ (below_step (by repeat (first | (with_reducible first | exact HB.out | apply below_alloc | apply pw_below_drewN | apply below_drew1 | refine below_set ?_ eA.out | refine below_set ?_ fA.out | refine below_set ?_ gA.out | refine below_set ?_ hA.out) | exact HB.out)) hb); (try clear hb); (try clear DA); (try clear hk); (try clear hi); obtain ⟨RJ, QJ, VF, UF⟩ := zy2 cA.out; obtain ⟨PJ, OJ, TF, SF⟩ := zy2 dA.out; obtain ⟨NJ, MJ, RF, QF⟩ := zy2 aA.out) | (go_at_call 71; (with_reducible refine (impl_between.calls a2_0 a2_1 a3_0 a3_1 a0_0 a0_1 false _ aR.out).mono ?_); rintro e VS ⟨rfl, hb⟩; replace aA := zbl aA.out hb; replace bA := zbl bA.out hb; replace cA := zbl cA.out hb; replace dA := zbl dA.out hb; replace HB := zQ (below_step (by repeat (first | (with_reducible first | exact HB.out | apply below_alloc | apply pw_below_drewN | apply below_drew1 | refine below_set ?_ eA.out | refine below_set ?_ fA.out | refine below_set ?_ gA.out | refine below_set ?_ hA.out) | exact HB.out)) hb); (try clear hb); (try clear DA); (try clear hk); (try clear hi)))
           go_ret
           exact ⟨zE, by repeat (first | (with_reducible first | exact HB.out | apply below_alloc | apply pw_below_drewN | apply below_drew1 | refine below_set ?_ eA.out | refine below_set ?_ fA.out | refine below_set ?_ gA.out | refine below_set ?_ hA.out) | exact HB.out)⟩
        ·rw [if_neg BB] at H
         have iK : (CA == 0) = false := beq_eq_false_iff_ne.mpr BB; have gK : (CA != 0) = true := bne_iff_ne.mpr BB
         by_cases ZA : uA = 0
         ·rw [if_pos ZA] at H
          have bC : (uA == 0) = true := beq_iff_eq.mpr ZA; have aC : (uA != 0) = false := bne_eq_false_iff_eq.mpr ZA; clear ZA; replace H := zob H; obtain ⟨vB, hR, H⟩ := H; obtain rfl := Option.some.inj H; have SQ := tA.out; have MO := qA.out; have RQ := sA.out; have LO := nA.out; have QQ := rA.out; have KO := kA.out; obtain ⟨LJ, KJ, PF, NF⟩ := zy2 aA.out; have PQ := pA.out; have JO := mA.out; have OQ := oA.out; have IO := jA.out; obtain ⟨JJ, IJ, MF, LF⟩ := zy2 bA.out; have NQ := lA.out; have HO := iA.out; obtain ⟨HJ, GJ, KF, JF⟩ := zy2 cA.out
          go_wp2_with (first | (go_at_call 71; (with_reducible refine (impl_between.calls a0_0 a0_1 a1_0 a1_1 a2_0 a2_1 false _ cB.out).mono ?_); rintro e TS ⟨rfl, hb⟩; replace aA := zbl aA.out hb; replace bA := zbl bA.out hb; replace cA := zbl cA.out hb; replace dA := zbl dA.out hb; replace HB := zQ (below_step (by repeat (first | (with_reducible first | exact HB.out | apply below_alloc | apply pw_below_drewN | apply below_drew1 | refine below_set ?_ eA.out | refine below_set ?_ fA.out | refine below_set ?_ gA.out | refine below_set ?_ hA.out) | exact HB.out)) hb); (try clear hb); (try clear DA); (try clear hk); (try clear hi); obtain ⟨FJ, EJ, HF, GF⟩ := zy2 aA.out; obtain ⟨DJ, CJ, FF, EF⟩ := zy2 bA.out; obtain ⟨BJ, AJ, DF, CF⟩ := zy2 dA.out) | (go_at_call 71; (with_reducible refine (impl_between.calls a0_0 a0_1 a1_0 a1_1 a3_0 a3_1 false _ fC.out).mono ?_); rintro e SS ⟨rfl, hb⟩; replace aA := zbl aA.out hb; replace bA := zbl bA.out hb; replace cA := zbl cA.out hb; replace dA := zbl dA.out hb; replace HB := zQ (below_step (by repeat (first | (with_reducible first | exact HB.out | apply below_alloc | apply pw_below_drewN | apply below_drew1 | refine below_set ?_ eA.out | refine below_set ?_ fA.out | refine below_set ?_ gA.out | refine below_set ?_ hA.out) | exact HB.out)) hb); (try clear hb); (try clear DA); (try clear hk); (try clear hi); obtain ⟨zJ, yJ, BF, AF⟩ := zy2 cA.out; obtain ⟨xJ, wJ, yF, xF⟩ := zy2 dA.out; obtain ⟨vJ, uJ, wF, vF⟩ := zy2 bA.out) | (go_at_call 71; (with_reducible refine (impl_between.calls a2_0 a2_1 a3_0 a3_1 a1_0 a1_1 vB _ hR.out).mono ?_); rintro e RS ⟨rfl, hb⟩; replace aA := zbl aA.out hb; replace bA := zbl bA.out hb; replace cA := zbl cA.out hb; replace dA := zbl dA.out hb; replace HB := zQ (below_step (by repeat (first | (with_reducible first | exact HB.out | apply below_alloc | apply pw_below_drewN | apply below_drew1 | refine below_set ?_ eA.out | refine below_set ?_ fA.out | refine below_set ?_ gA.out | refine below_set ?_ hA.out) | exact HB.out)) hb); (try clear hb); (try clear DA); (try clear hk); (try clear hi)))
          go_ret
          exact ⟨zE, by repeat (first | (with_reducible first | exact HB.out | apply below_alloc | apply pw_below_drewN | apply below_drew1 | refine below_set ?_ eA.out | refine below_set ?_ fA.out | refine below_set ?_ gA.out | refine below_set ?_ hA.out) | exact HB.out)⟩
         ·rw [if_neg ZA] at H
          have bC : (uA == 0) = false := beq_eq_false_iff_ne.mpr ZA; have aC : (uA != 0) = true := bne_iff_ne.mpr ZA; obtain rfl := Option.some.inj H; have MQ := tA.out; have GO := qA.out; have LQ := sA.out; have FO := nA.out; have KQ := rA.out; have EO := kA.out; obtain ⟨tJ, sJ, uF, tF⟩ := zy2 aA.out; have JQ := pA.out; have CO := mA.out; have IQ := oA.out; have BO := jA.out; obtain ⟨rJ, qJ, sF, rF⟩ := zy2 bA.out; have HQ := lA.out; have AO := iA.out; obtain ⟨pJ, oJ, qF, pF⟩ := zy2 cA.out
          go_wp2_with (first | (go_at_call 71; (with_reducible refine (impl_between.calls a0_0 a0_1 a1_0 a1_1 a2_0 a2_1 false _ cB.out).mono ?_); rintro e QS ⟨rfl, hb⟩; replace aA := zbl aA.out hb; replace bA := zbl bA.out hb; replace cA := zbl cA.out hb; replace dA := zbl dA.out hb; replace HB := zQ (below_step (by repeat (first | (with_reducible first | exact HB.out | apply below_alloc | apply pw_below_drewN | apply below_drew1 | refine below_set ?_ eA.out | refine below_set ?_ fA.out | refine below_set ?_ gA.out | refine below_set ?_ hA.out) | exact HB.out)) hb); (try clear hb); (try clear DA); (try clear hk); (try clear hi); obtain ⟨nJ, mJ, nF, mF⟩ := zy2 aA.out; obtain ⟨lJ, kJ, lF, kF⟩ := zy2 bA.out; obtain ⟨jJ, iJ, jF, hF⟩ := zy2 dA.out) | (go_at_call 71; (with_reducible refine (impl_between.calls a0_0 a0_1 a1_0 a1_1 a3_0 a3_1 false _ fC.out).mono ?_); rintro e PS ⟨rfl, hb⟩; replace aA := zbl aA.out hb; replace bA := zbl bA.out hb; replace cA := zbl cA.out hb; replace dA := zbl dA.out hb; replace HB := zQ (below_step (by repeat (first | (with_reducible first | exact HB.out | apply below_alloc | apply pw_below_drewN | apply below_drew1 | refine below_set ?_ eA.out | refine below_set ?_ fA.out | refine below_set ?_ gA.out | refine below_set ?_ hA.out) | exact HB.out)) hb); (try clear hb); (try clear DA); (try clear hk); (try clear hi)))
          go_ret
          exact ⟨zE, by repeat (first | (with_reducible first | exact HB.out | apply below_alloc | apply pw_below_drewN | apply below_drew1 | refine below_set ?_ eA.out | refine below_set ?_ fA.out | refine below_set ?_ gA.out | refine below_set ?_ hA.out) | exact HB.out)⟩
      ·rw [if_neg CB] at H
       have kK : (EA == 0) = false := beq_eq_false_iff_ne.mpr CB; have jK : (EA != 0) = true := bne_iff_ne.mpr CB
       by_cases YA : CA = 0
       ·rw [if_pos YA] at H
        have ZB : (CA == 0) = true := beq_iff_eq.mpr YA; have YB : (CA != 0) = false := bne_eq_false_iff_eq.mpr YA; clear YA; replace H := zob H; obtain ⟨uB, eC, H⟩ := H
        by_cases kB : uB = true
        ·subst kB
         rw [if_pos rfl] at H; obtain rfl := Option.some.inj H; have GQ := tA.out; have zO := qA.out; have FQ := sA.out; have yO := nA.out; have EQ := rA.out; have xO := kA.out; obtain ⟨hJ, gJ, gF, fF⟩ := zy2 aA.out; have DQ := pA.out; have wO := mA.out; have CQ := oA.out; have vO := jA.out; obtain ⟨fJ, eJ, eF, dF⟩ := zy2 bA.out; have BQ := lA.out; have uO := iA.out; obtain ⟨dJ, cJ, cF, bF⟩ := zy2 cA.out
         go_wp2_with (first | (go_at_call 71; (with_reducible refine (impl_between.calls a0_0 a0_1 a1_0 a1_1 a2_0 a2_1 false _ cB.out).mono ?_); rintro e NS ⟨rfl, hb⟩; replace aA := zbl aA.out hb; replace bA := zbl bA.out hb; replace cA := zbl cA.out hb; replace dA := zbl dA.out hb; replace HB := zQ (below_step (by repeat (first | (with_reducible first | exact HB.out | apply below_alloc | apply pw_below_drewN | apply below_drew1 | refine below_set ?_ eA.out | refine below_set ?_ fA.out | refine below_set ?_ gA.out | refine below_set ?_ hA.out) | exact HB.out)) hb); (try clear hb); (try clear DA); (try clear hk); (try clear hi); obtain ⟨bJ, aJ, aF, ZE⟩ := zy2 cA.out; obtain ⟨ZI, YI, YE, XE⟩ := zy2 dA.out; obtain ⟨XI, WI, WE, VE⟩ := zy2 aA.out) | (go_at_call 71; (with_reducible refine (impl_between.calls a2_0 a2_1 a3_0 a3_1 a0_0 a0_1 true _ eC.out).mono ?_); rintro e MS ⟨rfl, hb⟩; replace aA := zbl aA.out hb; replace bA := zbl bA.out hb; replace cA := zbl cA.out hb; replace dA := zbl dA.out hb; replace HB := zQ (below_step (by repeat (first | (with_reducible first | exact HB.out | apply below_alloc | apply pw_below_drewN | apply below_drew1 | refine below_set ?_ eA.out | refine below_set ?_ fA.out | refine below_set ?_ gA.out | refine below_set ?_ hA.out) | exact HB.out)) hb); (try clear hb); (try clear DA); (try clear hk); (try clear hi)))
         go_ret
         exact ⟨zE, by repeat (first | (with_reducible first | exact HB.out | apply below_alloc | apply pw_below_drewN | apply below_drew1 | refine below_set ?_ eA.out | refine below_set ?_ fA.out | refine below_set ?_ gA.out | refine below_set ?_ hA.out) | exact HB.out)⟩
        ·replace kB := Bool.eq_false_iff.mpr kB
         subst kB
         rw [if_neg Bool.false_ne_true] at H
         by_cases XA : uA = 0
         ·rw [if_pos XA] at H
          have XB : (uA == 0) = true := beq_iff_eq.mpr XA; have WB : (uA != 0) = false := bne_eq_false_iff_eq.mpr XA; clear XA; replace H := zob H; obtain ⟨tB, gR, H⟩ := H; obtain rfl := Option.some.inj H; have AQ := tA.out; have sO := qA.out; have yQ := sA.out; have rO := nA.out; have xQ := rA.out; have qO := kA.out; obtain ⟨VI, UI, UE, TE⟩ := zy2 aA.out; have wQ := pA.out; have pO := mA.out; have vQ := oA.out; have oO := jA.out; obtain ⟨TI, SI, SE, RE⟩ := zy2 bA.out; have uQ := lA.out; have nO := iA.out; obtain ⟨RI, QI, QE, PE⟩ := zy2 cA.out
          go_wp2_with (first | (go_at_call 71; (with_reducible refine (impl_between.calls a0_0 a0_1 a1_0 a1_1 a2_0 a2_1 false _ cB.out).mono ?_); rintro e LS ⟨rfl, hb⟩; replace aA := zbl aA.out hb; replace bA := zbl bA.out hb; replace cA := zbl cA.out hb; replace dA := zbl dA.out hb; replace HB := zQ (below_step (by repeat (first | (with_reducible first | exact HB.out | apply below_alloc | apply pw_below_drewN | apply below_drew1 | refine below_set ?_ eA.out | refine below_set ?_ fA.out | refine below_set ?_ gA.out | refine below_set ?_ hA.out) | exact HB.out)) hb); (try clear hb); (try clear DA); (try clear hk); (try clear hi); obtain ⟨PI, OI, OE, NE⟩ := zy2 cA.out; obtain ⟨NI, MI, ME, LE⟩ := zy2 dA.out; obtain ⟨LI, KI, KE, JE⟩ := zy2 aA.out) | (go_at_call 71; (with_reducible refine (impl_between.calls a2_0 a2_1 a3_0 a3_1 a0_0 a0_1 false _ eC.out).mono ?_); rintro e KS ⟨rfl, hb⟩; replace aA := zbl aA.out hb; replace bA := zbl bA.out hb; replace cA := zbl cA.out hb; replace dA := zbl dA.out hb; replace HB := zQ (below_step (by repeat (first | (with_reducible first | exact HB.out | apply below_alloc | apply pw_below_drewN | apply below_drew1 | refine below_set ?_ eA.out | refine below_set ?_ fA.out | refine below_set ?_ gA.out | refine below_set ?_ hA.out) | exact HB.out)) hb); (try clear hb); (try clear DA); (try clear hk); (try clear hi); obtain ⟨JI, II, IE, HE⟩ := zy2 cA.out; obtain ⟨HI, GI, GE, FE⟩ := zy2 dA.out; obtain ⟨FI, EI, EE, DE⟩ := zy2 bA.out) | (go_at_call 71; (with_reducible refine (impl_between.calls a2_0 a2_1 a3_0 a3_1 a1_0 a1_1 tB _ gR.out).mono ?_); rintro e JS ⟨rfl, hb⟩; replace aA := zbl aA.out hb; replace bA := zbl bA.out hb; replace cA := zbl cA.out hb; replace dA := zbl dA.out hb; replace HB := zQ (below_step (by repeat (first | (with_reducible first | exact HB.out | apply below_alloc | apply pw_below_drewN | apply below_drew1 | refine below_set ?_ eA.out | refine below_set ?_ fA.out | refine below_set ?_ gA.out | refine below_set ?_ hA.out) | exact HB.out)) hb); (try clear hb); (try clear DA); (try clear hk); (try clear hi)))
          go_ret
          exact ⟨zE, by repeat (first | (with_reducible first | exact HB.out | apply below_alloc | apply pw_below_drewN | apply below_drew1 | refine below_set ?_ eA.out | refine below_set ?_ fA.out | refine below_set ?_ gA.out | refine below_set ?_ hA.out) | exact HB.out)⟩
         ·rw [if_neg XA] at H
          have XB : (uA == 0) = false := beq_eq_false_iff_ne.mpr XA; have WB : (uA != 0) = true := bne_iff_ne.mpr XA; obtain rfl := Option.some.inj H; have tQ := tA.out; have mO := qA.out; have sQ := sA.out; have lO := nA.out; have rQ := rA.out; have kO := kA.out; obtain ⟨DI, CI, CE, BE⟩ := zy2 aA.out; have qQ := pA.out; have jO := mA.out; have pQ := oA.out; have iO := jA.out; obtain ⟨BI, AI, AE, yE⟩ := zy2 bA.out; have oQ := lA.out; have hO := iA.out; obtain ⟨zI, yI, xE, wE⟩ := zy2 cA.out
          go_wp2_with (first | (go_at_call 71; (with_reducible refine (impl_between.calls a0_0 a0_1 a1_0 a1_1 a2_0 a2_1 false _ cB.out).mono ?_); rintro e HS ⟨rfl, hb⟩; replace aA := zbl aA.out hb; replace bA := zbl bA.out hb; replace cA := zbl cA.out hb; replace dA := zbl dA.out hb; replace HB := zQ (below_step (by repeat (first | (with_reducible first | exact HB.out | apply below_alloc | apply pw_below_drewN | apply below_drew1 | refine below_set ?_ eA.out | refine below_set ?_ fA.out | refine below_set ?_ gA.out | refine below_set ?_ hA.out) | exact HB.out)) hb); (try clear hb); (try clear DA); (try clear hk); (try clear hi); obtain ⟨xI, wI, vE, uE⟩ := zy2 cA.out; obtain ⟨vI, uI, tE, sE⟩ := zy2 dA.out; obtain ⟨tI, sI, rE, qE⟩ := zy2 aA.out) | (go_at_call 71; (with_reducible refine (impl_between.calls a2_0 a2_1 a3_0 a3_1 a0_0 a0_1 false _ eC.out).mono ?_); rintro e GS ⟨rfl, hb⟩; replace aA := zbl aA.out hb; replace bA := zbl bA.out hb; replace cA := zbl cA.out hb; replace dA := zbl dA.out hb; replace HB := zQ (below_step (by repeat (first | (with_reducible first | exact HB.out | apply below_alloc | apply pw_below_drewN | apply below_drew1 | refine below_set ?_ eA.out | refine below_set ?_ fA.out | refine below_set ?_ gA.out | refine below_set ?_ hA.out) | exact HB.out)) hb); (try clear hb); (try clear DA); (try clear hk); (try clear hi)))
          go_ret
          exact ⟨zE, by repeat (first | (with_reducible first | exact HB.out | apply below_alloc | apply pw_below_drewN | apply below_drew1 | refine below_set ?_ eA.out | refine below_set ?_ fA.out | refine below_set ?_ gA.out | refine below_set ?_ hA.out) | exact HB.out)⟩
       ·rw [if_neg YA] at H
        have ZB : (CA == 0) = false := beq_eq_false_iff_ne.mpr YA; have YB : (CA != 0) = true := bne_iff_ne.mpr YA
        by_cases WA : uA = 0
        ·rw [if_pos WA] at H
         have VB : (uA == 0) = true := beq_iff_eq.mpr WA; have UB : (uA != 0) = false := bne_eq_false_iff_eq.mpr WA; clear WA; replace H := zob H; obtain ⟨sB, fR, H⟩ := H; obtain rfl := Option.some.inj H; have nQ := tA.out; have gO := qA.out; have mQ := sA.out; have fO := nA.out; have lQ := rA.out; have eO := kA.out; obtain ⟨rI, qI, pE, oE⟩ := zy2 aA.out; have kQ := pA.out; have cO := mA.out; have jQ := oA.out; have bO := jA.out; obtain ⟨pI, oI, nE, mE⟩ := zy2 bA.out; have iQ := lA.out; have aO := iA.out; obtain ⟨nI, mI, lE, kE⟩ := zy2 cA.out
         go_wp2_with (first | (go_at_call 71; (with_reducible refine (impl_between.calls a0_0 a0_1 a1_0 a1_1 a2_0 a2_1 false _ cB.out).mono ?_); rintro e FS ⟨rfl, hb⟩; replace aA := zbl aA.out hb; replace bA := zbl bA.out hb; replace cA := zbl cA.out hb; replace dA := zbl dA.out hb; replace HB := zQ (below_step (by repeat (first | (with_reducible first | exact HB.out | apply below_alloc | apply pw_below_drewN | apply below_drew1 | refine below_set ?_ eA.out | refine below_set ?_ fA.out | refine below_set ?_ gA.out | refine below_set ?_ hA.out) | exact HB.out)) hb); (try clear hb); (try clear DA); (try clear hk); (try clear hi); obtain ⟨lI, kI, jE, iE⟩ := zy2 cA.out; obtain ⟨jI, iI, hE, gE⟩ := zy2 dA.out; obtain ⟨hI, gI, fE, eE⟩ := zy2 bA.out) | (go_at_call 71; (with_reducible refine (impl_between.calls a2_0 a2_1 a3_0 a3_1 a1_0 a1_1 sB _ fR.out).mono ?_); rintro e ES ⟨rfl, hb⟩; replace aA := zbl aA.out hb; replace bA := zbl bA.out hb; replace cA := zbl cA.out hb; replace dA := zbl dA.out hb; replace HB := zQ (below_step (by repeat (first | (with_reducible first | exact HB.out | apply below_alloc | apply pw_below_drewN | apply below_drew1 | refine below_set ?_ eA.out | refine below_set ?_ fA.out | refine below_set ?_ gA.out | refine below_set ?_ hA.out) | exact HB.out)) hb); (try clear hb); (try clear DA); (try clear hk); (try clear hi)))
         go_ret
         exact ⟨zE, by repeat (first | (with_reducible first | exact HB.out | apply below_alloc | apply pw_below_drewN | apply below_drew1 | refine below_set ?_ eA.out | refine below_set ?_ fA.out | refine below_set ?_ gA.out | refine below_set ?_ hA.out) | exact HB.out)⟩
        ·rw [if_neg WA] at H
         have VB : (uA == 0) = false := beq_eq_false_iff_ne.mpr WA; have UB : (uA != 0) = true := bne_iff_ne.mpr WA; obtain rfl := Option.some.inj H; have hQ := tA.out; have ZN := qA.out; have gQ := sA.out; have YN := nA.out; have fQ := rA.out; have XN := kA.out; obtain ⟨fI, eI, dE, cE⟩ := zy2 aA.out; have eQ := pA.out; have WN := mA.out; have dQ := oA.out; have VN := jA.out; obtain ⟨dI, cI, bE, aE⟩ := zy2 bA.out; have cQ := lA.out; have UN := iA.out; obtain ⟨bI, aI, ZD, YD⟩ := zy2 cA.out
         go_wp2_with (first | (go_at_call 71; (with_reducible refine (impl_between.calls a0_0 a0_1 a1_0 a1_1 a2_0 a2_1 false _ cB.out).mono ?_); rintro e DS ⟨rfl, hb⟩; replace aA := zbl aA.out hb; replace bA := zbl bA.out hb; replace cA := zbl cA.out hb; replace dA := zbl dA.out hb; replace HB := zQ (below_step (by repeat (first | (with_reducible first | exact HB.out | apply below_alloc | apply pw_below_drewN | apply below_drew1 | refine below_set ?_ eA.out | refine below_set ?_ fA.out | refine below_set ?_ gA.out | refine below_set ?_ hA.out) | exact HB.out)) hb); (try clear hb); (try clear DA); (try clear hk); (try clear hi)))
         go_ret
         exact ⟨zE, by repeat (first | (with_reducible first | exact HB.out | apply below_alloc | apply pw_below_drewN | apply below_drew1 | refine below_set ?_ eA.out | refine below_set ?_ fA.out | refine below_set ?_ gA.out | refine below_set ?_ hA.out) | exact HB.out)⟩
    ·rw [if_neg OB] at H
     have mK : (IA == 0) = false := beq_eq_false_iff_ne.mpr OB; have lK : (IA != 0) = true := bne_iff_ne.mpr OB
     by_cases VA : EA = 0
     ·rw [if_pos VA] at H
      have SB : (EA == 0) = true := beq_iff_eq.mpr VA; have RB : (EA != 0) = false := bne_eq_false_iff_eq.mpr VA; clear VA; replace H := zob H; obtain ⟨rB, bB, H⟩ := H
      by_cases jB : rB = true
      ·subst jB
       rw [if_pos rfl] at H; obtain rfl := Option.some.inj H; have bQ := tA.out; have TN := qA.out; have aQ := sA.out; have SN := nA.out; have ZP := rA.out; have RN := kA.out; obtain ⟨ZH, YH, XD, WD⟩ := zy2 aA.out; have YP := pA.out; have QN := mA.out; have XP := oA.out; have PN := jA.out; obtain ⟨XH, WH, VD, UD⟩ := zy2 bA.out; have WP := iA.out; have ON := lA.out; obtain ⟨VH, UH, TD, SD⟩ := zy2 dA.out
       go_wp2_with (first | (go_at_call 71; (with_reducible refine (impl_between.calls a0_0 a0_1 a1_0 a1_1 a3_0 a3_1 true _ bB.out).mono ?_); rintro e CS ⟨rfl, hb⟩; replace aA := zbl aA.out hb; replace bA := zbl bA.out hb; replace cA := zbl cA.out hb; replace dA := zbl dA.out hb; replace HB := zQ (below_step (by repeat (first | (with_reducible first | exact HB.out | apply below_alloc | apply pw_below_drewN | apply below_drew1 | refine below_set ?_ eA.out | refine below_set ?_ fA.out | refine below_set ?_ gA.out | refine below_set ?_ hA.out) | exact HB.out)) hb); (try clear hb); (try clear DA); (try clear hk); (try clear hi)))
       go_ret
       exact ⟨zE, by repeat (first | (with_reducible first | exact HB.out | apply below_alloc | apply pw_below_drewN | apply below_drew1 | refine below_set ?_ eA.out | refine below_set ?_ fA.out | refine below_set ?_ gA.out | refine below_set ?_ hA.out) | exact HB.out)⟩
      ·replace jB := Bool.eq_false_iff.mpr jB
       subst jB
       rw [if_neg Bool.false_ne_true] at H
       by_cases UA : CA = 0
       ·rw [if_pos UA] at H
        have QB : (CA == 0) = true := beq_iff_eq.mpr UA; have PB : (CA != 0) = false := bne_eq_false_iff_eq.mpr UA; clear UA; replace H := zob H; obtain ⟨qB, dC, H⟩ := H
        by_cases iB : qB = true
        ·subst iB
         rw [if_pos rfl] at H; obtain rfl := Option.some.inj H; have VP := tA.out; have NN := qA.out; have UP := sA.out; have MN := nA.out; have TP := rA.out; have LN := kA.out; obtain ⟨TH, SH, RD, QD⟩ := zy2 aA.out; have SP := pA.out; have KN := mA.out; have RP := oA.out; have JN := jA.out; obtain ⟨RH, QH, PD, OD⟩ := zy2 bA.out; have QP := iA.out; have HN := lA.out; obtain ⟨PH, OH, ND, MD⟩ := zy2 dA.out
         go_wp2_with (first | (go_at_call 71; (with_reducible refine (impl_between.calls a0_0 a0_1 a1_0 a1_1 a3_0 a3_1 false _ bB.out).mono ?_); rintro e BS ⟨rfl, hb⟩; replace aA := zbl aA.out hb; replace bA := zbl bA.out hb; replace cA := zbl cA.out hb; replace dA := zbl dA.out hb; replace HB := zQ (below_step (by repeat (first | (with_reducible first | exact HB.out | apply below_alloc | apply pw_below_drewN | apply below_drew1 | refine below_set ?_ eA.out | refine below_set ?_ fA.out | refine below_set ?_ gA.out | refine below_set ?_ hA.out) | exact HB.out)) hb); (try clear hb); (try clear DA); (try clear hk); (try clear hi); obtain ⟨NH, MH, LD, KD⟩ := zy2 cA.out; obtain ⟨LH, KH, JD, ID⟩ := zy2 dA.out; obtain ⟨JH, IH, HD, GD⟩ := zy2 aA.out) | (go_at_call 71; (with_reducible refine (impl_between.calls a2_0 a2_1 a3_0 a3_1 a0_0 a0_1 true _ dC.out).mono ?_); rintro e zS ⟨rfl, hb⟩; replace aA := zbl aA.out hb; replace bA := zbl bA.out hb; replace cA := zbl cA.out hb; replace dA := zbl dA.out hb; replace HB := zQ (below_step (by repeat (first | (with_reducible first | exact HB.out | apply below_alloc | apply pw_below_drewN | apply below_drew1 | refine below_set ?_ eA.out | refine below_set ?_ fA.out | refine below_set ?_ gA.out | refine below_set ?_ hA.out) | exact HB.out)) hb); (try clear hb); (try clear DA); (try clear hk); (try clear hi)))
         go_ret
         exact ⟨zE, by repeat (first | (with_reducible first | exact HB.out | apply below_alloc | apply pw_below_drewN | apply below_drew1 | refine below_set ?_ eA.out | refine below_set ?_ fA.out | refine below_set ?_ gA.out | refine below_set ?_ hA.out) | exact HB.out)⟩
        ·replace iB := Bool.eq_false_iff.mpr iB
         subst iB
         rw [if_neg Bool.false_ne_true] at H
         by_cases TA : uA = 0
         ·rw [if_pos TA] at H
          have NB : (uA == 0) = true := beq_iff_eq.mpr TA; have MB : (uA != 0) = false := bne_eq_false_iff_eq.mpr TA; clear TA; replace H := zob H; obtain ⟨pB, eR, H⟩ := H; obtain rfl := Option.some.inj H; have PP := tA.out; have GN := qA.out; have OP := sA.out; have FN := nA.out; have NP := rA.out; have EN := kA.out; obtain ⟨HH, GH, FD, ED⟩ := zy2 aA.out; have MP := pA.out; have DN := mA.out; have LP := oA.out; have CN := jA.out; obtain ⟨FH, EH, DD, CD⟩ := zy2 bA.out; have KP := iA.out; have BN := lA.out; obtain ⟨DH, CH, BD, AD⟩ := zy2 dA.out
          go_wp2_with (first | (go_at_call 71; (with_reducible refine (impl_between.calls a0_0 a0_1 a1_0 a1_1 a3_0 a3_1 false _ bB.out).mono ?_); rintro e yS ⟨rfl, hb⟩; replace aA := zbl aA.out hb; replace bA := zbl bA.out hb; replace cA := zbl cA.out hb; replace dA := zbl dA.out hb; replace HB := zQ (below_step (by repeat (first | (with_reducible first | exact HB.out | apply below_alloc | apply pw_below_drewN | apply below_drew1 | refine below_set ?_ eA.out | refine below_set ?_ fA.out | refine below_set ?_ gA.out | refine below_set ?_ hA.out) | exact HB.out)) hb); (try clear hb); (try clear DA); (try clear hk); (try clear hi); obtain ⟨BH, AH, zD, yD⟩ := zy2 cA.out; obtain ⟨zH, yH, xD, wD⟩ := zy2 dA.out; obtain ⟨xH, wH, vD, uD⟩ := zy2 aA.out) | (go_at_call 71; (with_reducible refine (impl_between.calls a2_0 a2_1 a3_0 a3_1 a0_0 a0_1 false _ dC.out).mono ?_); rintro e xS ⟨rfl, hb⟩; replace aA := zbl aA.out hb; replace bA := zbl bA.out hb; replace cA := zbl cA.out hb; replace dA := zbl dA.out hb; replace HB := zQ (below_step (by repeat (first | (with_reducible first | exact HB.out | apply below_alloc | apply pw_below_drewN | apply below_drew1 | refine below_set ?_ eA.out | refine below_set ?_ fA.out | refine below_set ?_ gA.out | refine below_set ?_ hA.out) | exact HB.out)) hb); (try clear hb); (try clear DA); (try clear hk); (try clear hi); obtain ⟨vH, uH, tD, sD⟩ := zy2 cA.out; obtain ⟨tH, sH, rD, qD⟩ := zy2 dA.out; obtain ⟨rH, qH, pD, oD⟩ := zy2 bA.out) | (go_at_call 71; (with_reducible refine (impl_between.calls a2_0 a2_1 a3_0 a3_1 a1_0 a1_1 pB _ eR.out).mono ?_); rintro e wS ⟨rfl, hb⟩; replace aA := zbl aA.out hb; replace bA := zbl bA.out hb; replace cA := zbl cA.out hb; replace dA := zbl dA.out hb; replace HB := zQ (below_step (by repeat (first | (with_reducible first | exact HB.out | apply below_alloc | apply pw_below_drewN | apply below_drew1 | refine below_set ?_ eA.out | refine below_set ?_ fA.out | refine below_set ?_ gA.out | refine below_set ?_ hA.out) | exact HB.out)) hb); (try clear hb); (try clear DA); (try clear hk); (try clear hi)))
          go_ret
          exact ⟨zE, by repeat (first | (with_reducible first | exact HB.out | apply below_alloc | apply pw_below_drewN | apply below_drew1 | refine below_set ?_ eA.out | refine below_set ?_ fA.out | refine below_set ?_ gA.out | refine below_set ?_ hA.out) | exact HB.out)⟩
         ·rw [if_neg TA] at H
          have NB : (uA == 0) = false := beq_eq_false_iff_ne.mpr TA; have MB : (uA != 0) = true := bne_iff_ne.mpr TA; obtain rfl := Option.some.inj H; have JP := tA.out; have AN := qA.out; have IP := sA.out; have zN := nA.out; have HP := rA.out; have yN := kA.out; obtain ⟨pH, oH, nD, mD⟩ := zy2 aA.out; have GP := pA.out; have xN := mA.out; have FP := oA.out; have wN := jA.out; obtain ⟨nH, mH, lD, kD⟩ := zy2 bA.out; have EP := iA.out; have vN := lA.out; obtain ⟨lH, kH, jD, iD⟩ := zy2 dA.out
          go_wp2_with (first | (go_at_call 71; (with_reducible refine (impl_between.calls a0_0 a0_1 a1_0 a1_1 a3_0 a3_1 false _ bB.out).mono ?_); rintro e vS ⟨rfl, hb⟩; replace aA := zbl aA.out hb; replace bA := zbl bA.out hb; replace cA := zbl cA.out hb; replace dA := zbl dA.out hb; replace HB := zQ (below_step (by repeat (first | (with_reducible first | exact HB.out | apply below_alloc | apply pw_below_drewN | apply below_drew1 | refine below_set ?_ eA.out | refine below_set ?_ fA.out | refine below_set ?_ gA.out | refine below_set ?_ hA.out) | exact HB.out)) hb); (try clear hb); (try clear DA); (try clear hk); (try clear hi); obtain ⟨jH, iH, hD, gD⟩ := zy2 cA.out; obtain ⟨hH, gH, fD, eD⟩ := zy2 dA.out; obtain ⟨fH, eH, dD, cD⟩ := zy2 aA.out) | (go_at_call 71; (with_reducible refine (impl_between.calls a2_0 a2_1 a3_0 a3_1 a0_0 a0_1 false _ dC.out).mono ?_); rintro e uS ⟨rfl, hb⟩; replace aA := zbl aA.out hb; replace bA := zbl bA.out hb; replace cA := zbl cA.out hb; replace dA := zbl dA.out hb; replace HB := zQ (below_step (by repeat (first | (with_reducible first | exact HB.out | apply below_alloc | apply pw_below_drewN | apply below_drew1 | refine below_set ?_ eA.out | refine below_set ?_ fA.out | refine below_set ?_ gA.out | refine below_set ?_ hA.out) | exact HB.out)) hb); (try clear hb); (try clear DA); (try clear hk); (try clear hi)))
          go_ret
          exact ⟨zE, by repeat (first | (with_reducible first | exact HB.out | apply below_alloc | apply pw_below_drewN | apply below_drew1 | refine below_set ?_ eA.out | refine below_set ?_ fA.out | refine below_set ?_ gA.out | refine below_set ?_ hA.out) | exact HB.out)⟩
       ·rw [if_neg UA] at H
        have QB : (CA == 0) = false := beq_eq_false_iff_ne.mpr UA; have PB : (CA != 0) = true := bne_iff_ne.mpr UA
        by_cases SA : uA = 0
        ·rw [if_pos SA] at H
         have LB : (uA == 0) = true := beq_iff_eq.mpr SA; have KB : (uA != 0) = false := bne_eq_false_iff_eq.mpr SA; clear SA; replace H := zob H; obtain ⟨oB, dR, H⟩ := H; obtain rfl := Option.some.inj H; have DP := tA.out; have uN := qA.out; have CP := sA.out; have tN := nA.out; have BP := rA.out; have sN := kA.out; obtain ⟨dH, cH, bD, aD⟩ := zy2 aA.out; have AP := pA.out; have rN := mA.out; have zP := oA.out; have qN := jA.out; obtain ⟨bH, aH, ZC, YC⟩ := zy2 bA.out; have yP := iA.out; have pN := lA.out; obtain ⟨ZG, YG, XC, WC⟩ := zy2 dA.out
         go_wp2_with (first | (go_at_call 71; (with_reducible refine (impl_between.calls a0_0 a0_1 a1_0 a1_1 a3_0 a3_1 false _ bB.out).mono ?_); rintro e tS ⟨rfl, hb⟩; replace aA := zbl aA.out hb; replace bA := zbl bA.out hb; replace cA := zbl cA.out hb; replace dA := zbl dA.out hb; replace HB := zQ (below_step (by repeat (first | (with_reducible first | exact HB.out | apply below_alloc | apply pw_below_drewN | apply below_drew1 | refine below_set ?_ eA.out | refine below_set ?_ fA.out | refine below_set ?_ gA.out | refine below_set ?_ hA.out) | exact HB.out)) hb); (try clear hb); (try clear DA); (try clear hk); (try clear hi); obtain ⟨XG, WG, VC, UC⟩ := zy2 cA.out; obtain ⟨VG, UG, TC, SC⟩ := zy2 dA.out; obtain ⟨TG, SG, RC, QC⟩ := zy2 bA.out) | (go_at_call 71; (with_reducible refine (impl_between.calls a2_0 a2_1 a3_0 a3_1 a1_0 a1_1 oB _ dR.out).mono ?_); rintro e sS ⟨rfl, hb⟩; replace aA := zbl aA.out hb; replace bA := zbl bA.out hb; replace cA := zbl cA.out hb; replace dA := zbl dA.out hb; replace HB := zQ (below_step (by repeat (first | (with_reducible first | exact HB.out | apply below_alloc | apply pw_below_drewN | apply below_drew1 | refine below_set ?_ eA.out | refine below_set ?_ fA.out | refine below_set ?_ gA.out | refine below_set ?_ hA.out) | exact HB.out)) hb); (try clear hb); (try clear DA); (try clear hk); (try clear hi)))
         go_ret
         exact ⟨zE, by repeat (first | (with_reducible first | exact HB.out | apply below_alloc | apply pw_below_drewN | apply below_drew1 | refine below_set ?_ eA.out | refine below_set ?_ fA.out | refine below_set ?_ gA.out | refine below_set ?_ hA.out) | exact HB.out)⟩
        ·rw [if_neg SA] at H
         have LB : (uA == 0) = false := beq_eq_false_iff_ne.mpr SA; have KB : (uA != 0) = true := bne_iff_ne.mpr SA; obtain rfl := Option.some.inj H; have xP := tA.out; have oN := qA.out; have wP := sA.out; have nN := nA.out; have vP := rA.out; have mN := kA.out; obtain ⟨RG, QG, PC, OC⟩ := zy2 aA.out; have uP := pA.out; have lN := mA.out; have tP := oA.out; have kN := jA.out; obtain ⟨PG, OG, NC, MC⟩ := zy2 bA.out; have sP := iA.out; have jN := lA.out; obtain ⟨NG, MG, LC, KC⟩ := zy2 dA.out
         go_wp2_with (first | (go_at_call 71; (with_reducible refine (impl_between.calls a0_0 a0_1 a1_0 a1_1 a3_0 a3_1 false _ bB.out).mono ?_); rintro e rS ⟨rfl, hb⟩; replace aA := zbl aA.out hb; replace bA := zbl bA.out hb; replace cA := zbl cA.out hb; replace dA := zbl dA.out hb; replace HB := zQ (below_step (by repeat (first | (with_reducible first | exact HB.out | apply below_alloc | apply pw_below_drewN | apply below_drew1 | refine below_set ?_ eA.out | refine below_set ?_ fA.out | refine below_set ?_ gA.out | refine below_set ?_ hA.out) | exact HB.out)) hb); (try clear hb); (try clear DA); (try clear hk); (try clear hi)))
         go_ret
         exact ⟨zE, by repeat (first | (with_reducible first | exact HB.out | apply below_alloc | apply pw_below_drewN | apply below_drew1 | refine below_set ?_ eA.out | refine below_set ?_ fA.out | refine below_set ?_ gA.out | refine below_set ?_ hA.out) | exact HB.out)⟩
     ·rw [if_neg VA] at H
      have SB : (EA == 0) = false := beq_eq_false_iff_ne.mpr VA; have RB : (EA != 0) = true := bne_iff_ne.mpr VA
      by_cases RA : CA = 0
      ·rw [if_pos RA] at H
       have JB : (CA == 0) = true := beq_iff_eq.mpr RA; have IB : (CA != 0) = false := bne_eq_false_iff_eq.mpr RA; clear RA; replace H := zob H; obtain ⟨nB, cC, H⟩ := H
       by_cases hB : nB = true
       ·subst hB
        rw [if_pos rfl] at H; obtain rfl := Option.some.inj H; have rP := nA.out; have hN := sA.out; have qP := mA.out; have gN := pA.out; have pP := lA.out; have fN := iA.out; obtain ⟨LG, KG, JC, IC⟩ := zy2 cA.out; have oP := kA.out; have eN := rA.out; have nP := jA.out; have dN := oA.out; obtain ⟨JG, IG, HC, GC⟩ := zy2 dA.out; have mP := tA.out; have cN := qA.out; obtain ⟨HG, GG, FC, EC⟩ := zy2 aA.out
        go_wp2_with (first | (go_at_call 71; (with_reducible refine (impl_between.calls a2_0 a2_1 a3_0 a3_1 a0_0 a0_1 true _ cC.out).mono ?_); rintro e qS ⟨rfl, hb⟩; replace aA := zbl aA.out hb; replace bA := zbl bA.out hb; replace cA := zbl cA.out hb; replace dA := zbl dA.out hb; replace HB := zQ (below_step (by repeat (first | (with_reducible first | exact HB.out | apply below_alloc | apply pw_below_drewN | apply below_drew1 | refine below_set ?_ eA.out | refine below_set ?_ fA.out | refine below_set ?_ gA.out | refine below_set ?_ hA.out) | exact HB.out)) hb); (try clear hb); (try clear DA); (try clear hk); (try clear hi)))
        go_ret
        exact ⟨zE, by repeat (first | (with_reducible first | exact HB.out | apply below_alloc | apply pw_below_drewN | apply below_drew1 | refine below_set ?_ eA.out | refine below_set ?_ fA.out | refine below_set ?_ gA.out | refine below_set ?_ hA.out) | exact HB.out)⟩
       ·replace hB := Bool.eq_false_iff.mpr hB
        subst hB
        rw [if_neg Bool.false_ne_true] at H
        by_cases QA : uA = 0
        ·rw [if_pos QA] at H
         have GB : (uA == 0) = true := beq_iff_eq.mpr QA; have FB : (uA != 0) = false := bne_eq_false_iff_eq.mpr QA; clear QA; replace H := zob H; obtain ⟨mB, cR, H⟩ := H; obtain rfl := Option.some.inj H; have lP := nA.out; have bN := sA.out; have kP := mA.out; have aN := pA.out; have jP := lA.out; have ZM := iA.out; obtain ⟨FG, EG, DC, CC⟩ := zy2 cA.out; have iP := kA.out; have YM := rA.out; have hP := jA.out; have XM := oA.out; obtain ⟨DG, CG, BC, AC⟩ := zy2 dA.out; have gP := tA.out; have WM := qA.out; obtain ⟨BG, AG, zC, yC⟩ := zy2 aA.out
         go_wp2_with (first | (go_at_call 71; (with_reducible refine (impl_between.calls a2_0 a2_1 a3_0 a3_1 a0_0 a0_1 false _ cC.out).mono ?_); rintro e pS ⟨rfl, hb⟩; replace aA := zbl aA.out hb; replace bA := zbl bA.out hb; replace cA := zbl cA.out hb; replace dA := zbl dA.out hb; replace HB := zQ (below_step (by repeat (first | (with_reducible first | exact HB.out | apply below_alloc | apply pw_below_drewN | apply below_drew1 | refine below_set ?_ eA.out | refine below_set ?_ fA.out | refine below_set ?_ gA.out | refine below_set ?_ hA.out) | exact HB.out)) hb); (try clear hb); (try clear DA); (try clear hk); (try clear hi); obtain ⟨zG, yG, xC, wC⟩ := zy2 cA.out; obtain ⟨xG, wG, vC, uC⟩ := zy2 dA.out; obtain ⟨vG, uG, tC, sC⟩ := zy2 bA.out) | (go_at_call 71; (with_reducible refine (impl_between.calls a2_0 a2_1 a3_0 a3_1 a1_0 a1_1 mB _ cR.out).mono ?_); rintro e oS ⟨rfl, hb⟩; replace aA := zbl aA.out hb; replace bA := zbl bA.out hb; replace cA := zbl cA.out hb; replace dA := zbl dA.out hb; replace HB := zQ (below_step (by repeat (first | (with_reducible first | exact HB.out | apply below_alloc | apply pw_below_drewN | apply below_drew1 | refine below_set ?_ eA.out | refine below_set ?_ fA.out | refine below_set ?_ gA.out | refine below_set ?_ hA.out) | exact HB.out)) hb); (try clear hb); (try clear DA); (try clear hk); (try clear hi)))
         go_ret
         exact ⟨zE, by repeat (first | (with_reducible first | exact HB.out | apply below_alloc | apply pw_below_drewN | apply below_drew1 | refine below_set ?_ eA.out | refine below_set ?_ fA.out | refine below_set ?_ gA.out | refine below_set ?_ hA.out) | exact HB.out)⟩
        ·rw [if_neg QA] at H
         have GB : (uA == 0) = false := beq_eq_false_iff_ne.mpr QA; have FB : (uA != 0) = true := bne_iff_ne.mpr QA; obtain rfl := Option.some.inj H; have fP := nA.out; have VM := sA.out; have eP := mA.out; have UM := pA.out; have dP := lA.out; have TM := iA.out; obtain ⟨tG, sG, rC, qC⟩ := zy2 cA.out; have cP := kA.out; have SM := rA.out; have bP := jA.out; have RM := oA.out; obtain ⟨rG, qG, pC, oC⟩ := zy2 dA.out; have aP := tA.out; have QM := qA.out; obtain ⟨pG, oG, nC, mC⟩ := zy2 aA.out
         go_wp2_with (first | (go_at_call 71; (with_reducible refine (impl_between.calls a2_0 a2_1 a3_0 a3_1 a0_0 a0_1 false _ cC.out).mono ?_); rintro e nS ⟨rfl, hb⟩; replace aA := zbl aA.out hb; replace bA := zbl bA.out hb; replace cA := zbl cA.out hb; replace dA := zbl dA.out hb; replace HB := zQ (below_step (by repeat (first | (with_reducible first | exact HB.out | apply below_alloc | apply pw_below_drewN | apply below_drew1 | refine below_set ?_ eA.out | refine below_set ?_ fA.out | refine below_set ?_ gA.out | refine below_set ?_ hA.out) | exact HB.out)) hb); (try clear hb); (try clear DA); (try clear hk); (try clear hi)))
         go_ret
         exact ⟨zE, by repeat (first | (with_reducible first | exact HB.out | apply below_alloc | apply pw_below_drewN | apply below_drew1 | refine below_set ?_ eA.out | refine below_set ?_ fA.out | refine below_set ?_ gA.out | refine below_set ?_ hA.out) | exact HB.out)⟩
      ·rw [if_neg RA] at H
       have JB : (CA == 0) = false := beq_eq_false_iff_ne.mpr RA; have IB : (CA != 0) = true := bne_iff_ne.mpr RA
       by_cases PA : uA = 0
       ·rw [if_pos PA] at H
        have EB : (uA == 0) = true := beq_iff_eq.mpr PA; have DB : (uA != 0) = false := bne_eq_false_iff_eq.mpr PA; clear PA; replace H := zob H; obtain ⟨lB, bR, H⟩ := H; obtain rfl := Option.some.inj H; have ZO := nA.out; have PM := sA.out; have YO := mA.out; have OM := pA.out; have XO := lA.out; have NM := iA.out; obtain ⟨nG, mG, lC, kC⟩ := zy2 cA.out; have WO := kA.out; have MM := rA.out; have VO := jA.out; have LM := oA.out; obtain ⟨lG, kG, jC, iC⟩ := zy2 dA.out; have UO := qA.out; have KM := tA.out; obtain ⟨jG, iG, hC, gC⟩ := zy2 bA.out
        go_wp2_with (first | (go_at_call 71; (with_reducible refine (impl_between.calls a2_0 a2_1 a3_0 a3_1 a1_0 a1_1 lB _ bR.out).mono ?_); rintro e mS ⟨rfl, hb⟩; replace aA := zbl aA.out hb; replace bA := zbl bA.out hb; replace cA := zbl cA.out hb; replace dA := zbl dA.out hb; replace HB := zQ (below_step (by repeat (first | (with_reducible first | exact HB.out | apply below_alloc | apply pw_below_drewN | apply below_drew1 | refine below_set ?_ eA.out | refine below_set ?_ fA.out | refine below_set ?_ gA.out | refine below_set ?_ hA.out) | exact HB.out)) hb); (try clear hb); (try clear DA); (try clear hk); (try clear hi)))
        go_ret
        exact ⟨zE, by repeat (first | (with_reducible first | exact HB.out | apply below_alloc | apply pw_below_drewN | apply below_drew1 | refine below_set ?_ eA.out | refine below_set ?_ fA.out | refine below_set ?_ gA.out | refine below_set ?_ hA.out) | exact HB.out)⟩
       ·rw [if_neg PA] at H
        have EB : (uA == 0) = false := beq_eq_false_iff_ne.mpr PA; have DB : (uA != 0) = true := bne_iff_ne.mpr PA; obtain rfl := Option.some.inj H
        go_wp2
        go_ret
        exact ⟨zE, by repeat (first | (with_reducible first | exact HB.out | apply below_alloc | apply pw_below_drewN | apply below_drew1 | refine below_set ?_ eA.out | refine below_set ?_ fA.out | refine below_set ?_ gA.out | refine below_set ?_ hA.out) | exact HB.out)⟩

end
end Go.Proofs.Ytchngbjpjbahiaa.PSailw

