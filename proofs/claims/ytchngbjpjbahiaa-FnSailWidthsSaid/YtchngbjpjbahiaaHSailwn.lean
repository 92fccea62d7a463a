import Derived.Test.YtchngbjpjbahiaaHSailw0
import Derived.Test.YtchngbjpjbahiaaHSailwh
import Derived.Test.YtchngbjpjbahiaaHSailwm
namespace Go.Proofs.Ytchngbjpjbahiaa.PSailw
noncomputable section
open Go.RowKit Go.Proofs.YtchngbjpjbahiaaW.PrintWords Go.Proofs.YtchngbjpjbahiaaW.PrintLast Go.Proofs.YtchngbjpjbahiaaW.PrintMore
attribute [local go_sem] max2_int min2_int max_two min_two max_three min_three max_four min_four   -- for this text's walks alone
set_option linter.unusedVariables false
set_option linter.unusedSimpArgs false
set_option maxHeartbeats 8000000
set_option maxRecDepth 100000
theorem goesT_ {P : Program} {ops : Array Oper} {Q : Exit → Act → World → Prop} {oi : Oper} {N : Option Tmp} {a : Act} {w : World} {K : Act → World → Prop} {i : Tmp} {f : FuncId} {fn : Func} {xs : Array Operand} {ts : Array TypeId} (hf : P.funcs[f]? = some fn) (hname : (fn.name == "runtime.NumGoroutine") = false) (hb : fn.body.isSome = true) (args : Array Value)
    (hw : Region.wanted oi (yielded ops a.tmps) = true) (hN : oi.dst = N) (hop : oi.op = .call { callee := .value (.tmp i), args := xs, argTypes := ts }) (hc : a.eval (.tmp i) = .func (.func f) #[] #[]) (hargs : xs.map a.eval = args)
    (h : Calls P f args w fun e w' => ∃ v, e = .returned v ∧ K (a.put N v) w') : if Region.wanted oi (yielded ops a.tmps) = true then Oper.wp P oi a w K Q else K (a.put N undef) w := by
  refine call_ f args hw hN ?_ h
  have he := enters_ hf hname hb args w
  unfold execOp
  simp only [hop, resolve, hc]
  simp [Deferred.ofValue, invoke, hargs, he]

def impl_size.f (a0 : Int) : Option (Int) := if a0 < 0 then (some (IntKind.u64.wrap (wrap64 (-a0)))) else (some (IntKind.u64.wrap (a0)))
theorem impl_size.calls (a0 : Int) (r : Int) (w : World) (h : impl_size.f a0 = some r) :
  Calls Try.prog 76 #[.int .i64 a0] w fun e w' => e = .returned (.int .u64 r) ∧ Drawn0 w w' := by
 have H := h; unfold impl_size.f at H
 clear h
 by_cases c2 : a0 < 0
 ·rw [if_pos c2] at H
  have LC := decide_eq_true c2; clear c2; obtain rfl := Option.some.inj H
  go_enter Try.func76, Try.ntmps76
  go_wp2
  go_ret
  exact ⟨zF, by repeat (first | exact Drawn0.refl _ | apply Drawn0.step)⟩
 ·rw [if_neg c2] at H
  have LC := decide_eq_false c2; clear c2; obtain rfl := Option.some.inj H
  go_enter Try.func76, Try.ntmps76
  go_wp2
  go_ret
  exact ⟨zF, by repeat (first | exact Drawn0.refl _ | apply Drawn0.step)⟩

def impl_compareFractions.f (k : Nat) (a0_0 : Int) (a0_1 : Int) (a1_0 : Int) (a1_1 : Int) : Option (Int) := (impl_sign.f a0_0).bind fun qB => ((impl_sign.f a1_0).bind fun pB => ((cmp_Compare_int64.f qB pB).bind fun RA => ((impl_sign.f a0_0).bind fun QA => ((impl_size.f a0_0).bind fun oB => ((impl_size.f a1_1).bind fun nB => ((impl_size.f a1_0).bind fun mB => ((impl_size.f a0_1).bind fun lB => ((impl_compareProducts.f k oB nB mB lB).bind fun PA => ((cmp_Or_int.f k (([RA, wrap64 (QA * PA)] : List Int))).bind fun kB => (some kB))))))))))
def impl_compareFractions.T1 : Bool × List (List Nat × List Nat) := (true, [([], []), ([0], [0]), ([1], [1]), ([], []), ([3], [3]), ([4, 2], [4]), ([2, 5, 5], [2, 5]), ([], []), ([7], [7]), ([8, 6], [8]), ([], []), ([10], [10]), ([11, 9], [11]), ([], []), ([13], [13]), ([14, 12], [14]), ([], []), ([16], [16]), ([17, 15], [17]), ([], []), ([19], [19]), ([20, 18], [20]), ([12, 15, 18, 21, 21], [12, 15, 18, 21]), ([9, 22], [9, 22]), ([6, 23], [6, 23]), ([24, 22], [24]), ([25, 25, 0, 1, 2, 3, 4, 5, 6, 7, 8, 9, 10, 11, 12, 13, 14, 15, 16, 17, 18, 19, 20, 21, 22, 23, 24, 25], [25])])
def impl_compareFractions.B1 : List Nat := [0, 1, 3, 0, 8, 31, 63, 0, 128, 511, 0, 1024, 4095, 0, 8192, 32767, 0, 65536, 262143, 0, 524288, 2097151, 4194303, 8388607, 16777215, 33554431, 67108863]
theorem impl_compareFractions.tab1 : rtab .any (opsOf Try.f62 1) = impl_compareFractions.T1 := by kernel_rfl
theorem impl_compareFractions.bits1 : waitsOk impl_compareFractions.T1.2 impl_compareFractions.B1 = true := by kernel_rfl
theorem impl_compareFractions.calls (k : Nat) (a0_0 : Int) (a0_1 : Int) (a1_0 : Int) (a1_1 : Int) (r : Int) (w : World) (h : impl_compareFractions.f k a0_0 a0_1 a1_0 a1_1 = some r) :
  Calls Try.prog 62 #[.agg #[.int .i64 a0_0, .int .i64 a0_1], .agg #[.int .i64 a1_0, .int .i64 a1_1]] w fun e w' => e = .returned (.int .i64 r) ∧ Below w.heap.size w w' := by
 have lC := Try.underlying25
 have HB := zQ (Below.refl w.heap.size w)
 have H := h; unfold impl_compareFractions.f at H
 clear h
 replace H := zob H; obtain ⟨qB, A3, H⟩ := H
 replace H := zob H; obtain ⟨pB, A4, H⟩ := H
 replace H := zob H; obtain ⟨RA, A5, H⟩ := H
 replace H := zob H; obtain ⟨QA, A6, H⟩ := H
 replace H := zob H; obtain ⟨oB, A7, H⟩ := H
 replace H := zob H; obtain ⟨nB, A8, H⟩ := H
 replace H := zob H; obtain ⟨mB, A9, H⟩ := H
 replace H := zob H; obtain ⟨lB, UC, H⟩ := H
 replace H := zob H; obtain ⟨PA, iC, H⟩ := H
 obtain ⟨WB, QB⟩ : ∃ y_ : List Int, y_ = (([RA, wrap64 (QA * PA)] : List Int)) := ⟨_, rfl⟩
 replace H : ((cmp_Or_int.f k WB).bind fun kB => (some kB)) = some r := zh H
 have VB := zQ QB
 clear QB
 replace H := zob H; obtain ⟨kB, TC, H⟩ := H
 obtain rfl := Option.some.inj H
 go_enter Try.func62, Try.ntmps62
 try go_wp2_with (first | ((with_reducible refine zd 2 ?_); refine zbx (N := 2) (cs := #[.int .i64 a0_0, .int .i64 a0_1]) (t := 25) ?_; intro UB hg OC wA hb; have cA := zQ (wA); have BC := zgz hg HB.out; have KA := BC; replace HB := zbs HB.out hb; clear hb wA hg) | ((with_reducible refine zd 3 ?_); refine zbx (N := 3) (cs := #[.int .i64 a1_0, .int .i64 a1_1]) (t := 25) ?_; intro TB hg DC wA hb; have dA := zQ (wA); have AC := zgz2 hg HB.out KA.out; have gB := AC; have kC := zn1 hg cA.out; have jC := zn2 hg cA.out; replace cA := zbl cA.out hb; replace HB := zbs2 HB.out KA.out hb; clear hb wA hg))
 have n0_ := zQ (blk_drew cA.out)
 have n1_ := zQ (blk_drew dA.out)
 have n2_ := zQ (below_drew1 HB.out)
 clear cA
 clear dA
 clear HB
 have cA := n0_
 have dA := n1_
 have HB := n2_
 clear n0_ n1_ n2_
 refine zs (fun w' => w'.cell? ⟨UB, 0, none⟩ = some (.int .i64 a0_0) ∧ w'.cell? ⟨UB, 1, none⟩ = some (.int .i64 a0_1) ∧ w'.cell? ⟨TB, 0, none⟩ = some (.int .i64 a1_0) ∧ w'.cell? ⟨TB, 1, none⟩ = some (.int .i64 a1_1)) [] 27 ⟨(blk_cell cA.out 0).trans rfl, (blk_cell cA.out 1).trans rfl, (blk_cell dA.out 0).trans rfl, (blk_cell dA.out 1).trans rfl⟩ (fun bA => ?_); refine with_tabW impl_compareFractions.tab1 impl_compareFractions.bits1 (fun HT_ HW_ => ?_)
 generalize DC.drew = WC at cA dA HB bA ⊢
 refine zp 0 5 ?_
 refine zp 3 8 ?_
 refine zp 7 12 ?_
 refine zp 10 15 ?_
 refine zp 13 18 ?_
 refine zp 16 21 ?_
 refine zp 19 24 ?_
 refine zt 1 6 bA ?_
 refine zt 4 9 bA ?_
 refine zt 8 13 bA ?_
 refine zt 11 16 bA ?_
 refine zt 14 19 bA ?_
 refine zt 17 22 bA ?_
 refine zt 20 25 bA ?_
 refine zo 2 (some 7) (fun K hK => ?_)
 refine goes_ Try.func70 (by kernel_rfl) rfl #[.int .i64 a0_0] (by rfl) rfl rfl zM ?_
 with_reducible refine (impl_sign.calls a0_0 qB _ A3.out).mono ?_
 rintro e w' ⟨rfl, ⟨nd, rfl⟩⟩
 refine ⟨_, rfl, ?_⟩
 refine hK.out _ _ ⟨(blk_cell cA.out 0).trans rfl, (blk_cell cA.out 1).trans rfl, (blk_cell dA.out 0).trans rfl, (blk_cell dA.out 1).trans rfl⟩ (fun bA => ?_)
 clear hK K
 refine zn 7 ?_
 refine zo 5 (some 10) (fun K hK => ?_)
 refine goes_ Try.func70 (by kernel_rfl) rfl #[.int .i64 a1_0] (by rfl) rfl rfl zM ?_
 with_reducible refine (impl_sign.calls a1_0 pB _ A4.out).mono ?_
 rintro e w' ⟨rfl, ⟨nd, rfl⟩⟩
 refine ⟨_, rfl, ?_⟩
 refine hK.out _ _ ⟨(blk_cell cA.out 0).trans rfl, (blk_cell cA.out 1).trans rfl, (blk_cell dA.out 0).trans rfl, (blk_cell dA.out 1).trans rfl⟩ (fun bA => ?_)
 clear hK K
 refine zn 10 ?_
 refine zo 6 (some 11) (fun K hK => ?_)
 refine goes_ Try.func74 (by kernel_rfl) rfl #[.int .i64 qB, .int .i64 pB] (by rfl) rfl rfl zM ?_
 with_reducible refine (cmp_Compare_int64.calls qB pB RA _ A5.out).mono ?_
 rintro e w' ⟨rfl, ⟨nd, rfl⟩⟩
 refine ⟨_, rfl, ?_⟩
 refine hK.out _ _ ⟨(blk_cell cA.out 0).trans rfl, (blk_cell cA.out 1).trans rfl, (blk_cell dA.out 0).trans rfl, (blk_cell dA.out 1).trans rfl⟩ (fun bA => ?_)
 clear hK K
 refine zn 11 ?_
 refine zo 9 (some 14) (fun K hK => ?_)
 refine goes_ Try.func70 (by kernel_rfl) rfl #[.int .i64 a0_0] (by rfl) rfl rfl zM ?_
 with_reducible refine (impl_sign.calls a0_0 QA _ A6.out).mono ?_
 rintro e w' ⟨rfl, ⟨nd, rfl⟩⟩
 refine ⟨_, rfl, ?_⟩
 refine hK.out _ _ ⟨(blk_cell cA.out 0).trans rfl, (blk_cell cA.out 1).trans rfl, (blk_cell dA.out 0).trans rfl, (blk_cell dA.out 1).trans rfl⟩ (fun bA => ?_)
 clear hK K
 refine zn 14 ?_
 refine zo 12 (some 17) (fun K hK => ?_)
 refine goes_ Try.func76 (by kernel_rfl) rfl #[.int .i64 a0_0] (by rfl) rfl rfl zM ?_
 with_reducible refine (impl_size.calls a0_0 oB _ A7.out).mono ?_
 rintro e w' ⟨rfl, ⟨nd, rfl⟩⟩
 refine ⟨_, rfl, ?_⟩
 refine hK.out _ _ ⟨(blk_cell cA.out 0).trans rfl, (blk_cell cA.out 1).trans rfl, (blk_cell dA.out 0).trans rfl, (blk_cell dA.out 1).trans rfl⟩ (fun bA => ?_)
 clear hK K
 refine zn 17 ?_
 refine zo 15 (some 20) (fun K hK => ?_)
 refine goes_ Try.func76 (by kernel_rfl) rfl #[.int .i64 a1_1] (by rfl) rfl rfl zM ?_
 with_reducible refine (impl_size.calls a1_1 nB _ A8.out).mono ?_
 rintro e w' ⟨rfl, ⟨nd, rfl⟩⟩
 refine ⟨_, rfl, ?_⟩
 refine hK.out _ _ ⟨(blk_cell cA.out 0).trans rfl, (blk_cell cA.out 1).trans rfl, (blk_cell dA.out 0).trans rfl, (blk_cell dA.out 1).trans rfl⟩ (fun bA => ?_)
 clear hK K
 refine zn 20 ?_
 refine zo 18 (some 23) (fun K hK => ?_)
 refine goes_ Try.func76 (by kernel_rfl) rfl #[.int .i64 a1_0] (by rfl) rfl rfl zM ?_
 with_reducible refine (impl_size.calls a1_0 mB _ A9.out).mono ?_
 rintro e w' ⟨rfl, ⟨nd, rfl⟩⟩
 refine ⟨_, rfl, ?_⟩
 refine hK.out _ _ ⟨(blk_cell cA.out 0).trans rfl, (blk_cell cA.out 1).trans rfl, (blk_cell dA.out 0).trans rfl, (blk_cell dA.out 1).trans rfl⟩ (fun bA => ?_)
 clear hK K
 refine zn 23 ?_
 refine zo 21 (some 26) (fun K hK => ?_)
 refine goes_ Try.func76 (by kernel_rfl) rfl #[.int .i64 a0_1] (by rfl) rfl rfl zM ?_
 with_reducible refine (impl_size.calls a0_1 lB _ UC.out).mono ?_
 rintro e w' ⟨rfl, ⟨nd, rfl⟩⟩
 refine ⟨_, rfl, ?_⟩
 refine hK.out _ _ ⟨(blk_cell cA.out 0).trans rfl, (blk_cell cA.out 1).trans rfl, (blk_cell dA.out 0).trans rfl, (blk_cell dA.out 1).trans rfl⟩ (fun bA => ?_)
 clear hK K
 refine zn 26 ?_
 refine zo 22 (some 27) (fun K hK => ?_)
 refine goes_ Try.func75 (by kernel_rfl) rfl #[.int .u64 oB, .int .u64 nB, .int .u64 mB, .int .u64 lB] (by rfl) rfl rfl zM ?_
 with_reducible refine (impl_compareProducts.calls k oB nB mB lB PA _ iC.out).mono ?_
 rintro e VC ⟨rfl, hb⟩
 refine ⟨_, rfl, ?_⟩
 have n0_ := zbl cA.out hb
 have n1_ := zbl dA.out hb
 have n2_ := zQ (below_step (zB3 HB.out KA.out gB.out) hb)
 clear cA
 clear dA
 clear HB
 have cA := n0_
 have dA := n1_
 have HB := n2_
 clear n0_ n1_ n2_
 (try clear hb)
 (try clear CC)
 (try clear hk)
 (try clear hi)
 refine hK.out _ _ ⟨(blk_cell cA.out 0).trans rfl, (blk_cell cA.out 1).trans rfl, (blk_cell dA.out 0).trans rfl, (blk_cell dA.out 1).trans rfl⟩ (fun bA => ?_)
 clear hK K
 refine zn 27 ?_
 refine zp 23 28 ?_
 refine zo 24 (some 29) (fun K hK => ?_)
 refine Kd.R_lit_step (Kd.int .i64) _ 3 ?hg (N := 29) ?hd (xs := ([RA, wrap64 (QA * PA)] : List Int)) (inner := [.int .i64 RA, .int .i64 (wrap64 (QA * PA))]) (ok := fun _ => True) (okp := fun _ => True) ?hr ?hp (fun _ hk => hk) trivial (Below.refl _ _) (Nat.le_refl _) (by simp) ?_; (case hd => rfl); (case hg => rfl); (case hr => first | (go_simp; done) | (go_simp; rfl)); (case hp => exact (Reps.one (show Kd.M (Kd.int .i64) _ _ _ RA [.int .i64 RA] from rfl) (Reps.one (show Kd.M (Kd.int .i64) _ _ _ (wrap64 (QA * PA)) [.int .i64 (wrap64 (QA * PA))] from rfl) (Reps.none _ _))))
 intro QC NC rB hb hg_ hnew_
 clear hg_ hnew_
 (first | rw [← VB.out] at rB | (simp only [Int.reduceToNat] at rB; rw [← VB.out] at rB))
 have n0_ := zQ (Kd.R_lower rB (below_size (zB3 HB.out KA.out gB.out)))
 have n1_ := zbl cA.out hb
 have n2_ := zbl dA.out hb
 have n3_ := zQ (below_step (zB3 HB.out KA.out gB.out) hb)
 clear cA
 clear dA
 clear HB
 have vB := n0_
 have cA := n1_
 have dA := n2_
 have HB := n3_
 clear n0_ n1_ n2_ n3_
 clear hb rB
 obtain ⟨MC, KC, sC⟩ := Kd.R_slice vB.out
 (first | subst sC | (injection sC with f1_ f2_ f3_; have f4_ := f1_.symm; have f5_ := f3_.symm; clear f1_ f2_ f3_; subst f4_; subst f5_))
 refine hK.out _ _ ⟨(blk_cell cA.out 0).trans rfl, (blk_cell cA.out 1).trans rfl, (blk_cell dA.out 0).trans rfl, (blk_cell dA.out 1).trans rfl⟩ (fun bA => ?_)
 clear hK K
 refine zn 29 ?_
 refine zo 25 (some 30) (fun K hK => ?_)
 refine goes_ Try.func73 (by kernel_rfl) rfl #[.slice MC WB.length KC] (by rfl) rfl rfl zM ?_
 with_reducible refine (cmp_Or_int.calls k _ _ WB kB _ ?side1 ?side2 TC.out).mono ?_
 (case side1 => exact zk (Kd.R_reads' vB.out).2.2)
 (case side2 => exact (Kd.R_reads' vB.out).2.1)
 rintro e w' ⟨rfl, ⟨nd, rfl⟩⟩
 refine ⟨_, rfl, ?_⟩
 refine hK.out _ _ ⟨(blk_cell cA.out 0).trans rfl, (blk_cell cA.out 1).trans rfl, (blk_cell dA.out 0).trans rfl, (blk_cell dA.out 1).trans rfl⟩ (fun bA => ?_)
 clear hK K
 refine zn 30 ?_
 refine zp 26 4 ?_
 refine done_ (done_of HT_.out (by kernel_rfl)) ?_
 try go_wp2
 go_ret
 exact ⟨zE, zB3 HB.out KA.out gB.out⟩

def impl_Fraction_61.l0 : Nat → List (S25) → Int → Int → Int → Option (Int × Int)
 | 0, _, _, _, _ => none
 | k + 1, x0, x6, OA, NA => if x6 < (x0.length : Int) then (if 0 ≤ x6 then ((impl_compareFractions.f k ((rd_T25 x0 x6).f0) ((rd_T25 x0 x6).f1) OA NA).bind fun jB => (if jB < 0 then (impl_Fraction_61.l0 k x0 (wrap64 (x6 + 1)) ((rd_T25 x0 x6).f0) ((rd_T25 x0 x6).f1)) else (impl_Fraction_61.l0 k x0 (wrap64 (x6 + 1)) OA NA))) else (none)) else (some (OA, NA))
def impl_Fraction_61.f (k : Nat) (l0 : List (S25))  : Option (Int × Int) := if (l0.length : Int) < 1 then (none) else (if 0 < (l0.length : Int) then (impl_Fraction_61.l0 k l0 1 ((rd_T25 l0 0).f0) ((rd_T25 l0 0).f1)) else (none))
def impl_Fraction_61.T7 : Bool × List (List Nat × List Nat) := (true, [([], []), ([], []), ([], []), ([1, 2], [1, 2]), ([3], [3]), ([], []), ([0, 4, 5], [0, 4, 5]), ([6], [6])])
def impl_Fraction_61.B7 : List Nat := [0, 0, 0, 6, 14, 0, 63, 127]
theorem impl_Fraction_61.tab7 : rtab .any (opsOf Try.f61 7) = impl_Fraction_61.T7 := by kernel_rfl
theorem impl_Fraction_61.bits7 : waitsOk impl_Fraction_61.T7.2 impl_Fraction_61.B7 = true := by kernel_rfl
theorem impl_Fraction_61.calls (k : Nat) (A0 : Option Addr) (c0 : Nat) (l0 : List (S25))  (r1 : Int) (r2 : Int) (w : World) (mC : Kd.C k25 w A0 l0.length l0) (rC : l0.length ≤ c0) (h : impl_Fraction_61.f k l0 = some (r1, r2)) :
  Calls Try.prog 61 #[.slice A0 l0.length c0, .func (.func 62) #[] #[]] w fun e w' => e = .returned (.agg #[.int .i64 r1, .int .i64 r2]) ∧ Below w.heap.size w w' := by
 have lC := Try.underlying25
 have OB := zQ mC
 have SC := zQ rC
 clear mC rC
 have HB := zQ (Below.refl w.heap.size w)
 have H := h; unfold impl_Fraction_61.f at H
 clear h
 by_cases c3 : (l0.length : Int) < 1
 ·rw [if_pos c3] at H
  exact absurd H (by simp)
 ·rw [if_neg c3] at H
  have hC := decide_eq_false c3; have gC : decide (l0.length < 1) = false := decide_eq_false (by omega); clear c3
  by_cases c4 : 0 < (l0.length : Int)
  ·rw [if_pos c4] at H
   have fC := decide_eq_true c4; have eC : decide (0 < l0.length) = true := decide_eq_true (by omega); clear c4; have H' := zQ H; clear H
   go_enter Try.func61, Try.ntmps61
   go_wp2_with (first | ((with_reducible refine zd 4 ?_); refine zbx (N := 4) (cs := #[.int .i64 0, .int .i64 0]) (t := 25) ?_; intro SB hg w5 wA hb; have lA := zQ (wA); have zC := zgz hg HB.out; have GA := zC; replace HB := zbs HB.out hb; clear hb wA hg; have zB : 0 ≤ (0 : Int) := (by omega); have xB : 0 < (l0.length : Int) := zD; obtain ⟨CA, JC, AA, zA⟩ := at_T25 OB.out 0 zB xB; cases JC; have qi308 : (0 < l0.length) = True := eq_true (by omega); (try rw [show ((0 : Int)).toNat = 0 from rfl] at AA); (try rw [show 0 * 2 = 0 from rfl] at AA); (try rw [Addr.add_zero'] at AA); (try rw [show ((0 : Int)).toNat = 0 from rfl] at zA); (try rw [show 0 * 2 = 0 from rfl] at zA); (try rw [Addr.add_zero'] at zA); replace AA := zw HB.out AA; replace zA := zw HB.out zA; replace zB := eq_true zB; replace xB := eq_true xB) | ((with_reducible refine zd 5 ?_); refine zbx (N := 5) (cs := #[.int .i64 0, .int .i64 0]) (t := 25) ?_; intro TA hg w6 wA hb; have jA := zQ (wA); have yC := zgz2 hg HB.out GA.out; have JA := yC; have nA := zn1 hg lA.out; have EA := zn2 hg lA.out; replace lA := zbl lA.out hb; replace HB := zbs2 HB.out GA.out hb; clear hb wA hg; have FC := EA.out; have EC := nA.out; obtain ⟨bB, aB, ZA, YA⟩ := zy2 jA.out))
   go_loopg [6] k (fun kq v6 w' => ∃ (aA : Int) (hA : Int) (gA : Int), v6 = .int .i64 aA ∧ Aside0 (impl_Fraction_61.l0 kq l0 aA hA gA = some (r1, r2)) ∧ Aside0 (kq ≤ k) ∧ Aside0 (w'.heap[SB]? = some (.cells #[.int .i64 0, .int .i64 0] 25 (0, 0))) ∧ Aside0 (w'.heap[TA]? = some (.cells #[.int .i64 hA, .int .i64 gA] 25 (0, 0))) ∧ Aside0 (Below w.heap.size w w'))
   case atStart => exact ⟨(1), ((rd_T25 l0 0).f0), ((rd_T25 l0 0).f1), (zF), H', ⟨Nat.le_refl _⟩, ⟨by refine zb ?_; refine blk_far ?_ nA.out _; refine zb ?_; refine blk_far ?_ nA.out _; refine zb ?_; exact lA.out⟩, ⟨by refine zb ?_; refine blk_put (cs := #[.int .i64 ((rd_T25 l0 0).f0), .int .i64 0]) ?_ 1 _ rfl; refine zb ?_; refine blk_put (cs := #[.int .i64 0, .int .i64 0]) ?_ 0 _ rfl; refine zb ?_; exact jA.out⟩, ⟨zB3 HB.out GA.out JA.out⟩⟩
   case round =>
    clear H'; (try clear p2); (try clear c3); (try clear hC); (try clear gC); (try clear p3); (try clear q3); (try clear RC); (try clear qi3); (try clear c4); (try clear fC); (try clear eC); (try clear c6); (try clear c7); (try clear bB aB ZA YA); (try clear AA); (try clear zA); (try clear zB); (try clear xB); obtain ⟨aA, hA, gA, rfl, HA, PB, lA, jA, HB⟩ := hrel
    cases gk with
    | zero => exact absurd HA.out (by simp [impl_Fraction_61.l0])
    | succ k1 =>
     have H := HA.out; clear HA
     simp only [impl_Fraction_61.l0] at H
     by_cases c9 : aA < (l0.length : Int)
     ·rw [if_pos c9] at H
      have dC := decide_eq_true c9; clear c9
      by_cases NB : 0 ≤ aA
      ·rw [if_pos NB] at H
       have tC := decide_eq_true NB; clear NB; replace H := zob H; obtain ⟨jB, iC, H⟩ := H
       by_cases hB : jB < 0
       ·rw [if_pos hB] at H
        have sB := decide_eq_true hB; clear hB; have H' := zQ H; clear H
        try go_wp2
        have n0_ := zQ (blk_drew lA.out); have n1_ := zQ (blk_drew jA.out); have n2_ := zQ (below_drew1 HB.out); clear lA; clear jA; clear HB; have lA := n0_; have jA := n1_; have HB := n2_; clear n0_ n1_ n2_; have XA : 0 ≤ (aA : Int) := zD; have VA : aA < (l0.length : Int) := zD; obtain ⟨uB, cC, rA, qA⟩ := at_T25 OB.out aA XA VA; have uA := qA; have vA := rA; obtain rfl : CA = uB := (by injection cC); replace rA := zw HB.out rA; replace qA := zw HB.out qA; replace XA := eq_true XA; replace VA := eq_true VA
        refine zs (fun w' => w'.cell? ⟨TA, 0, none⟩ = some (.int .i64 hA) ∧ w'.cell? ⟨TA, 1, none⟩ = some (.int .i64 gA) ∧ w'.cell? (CA.add ((aA).toNat * 2)) = some (.int .i64 ((rd_T25 l0 aA).f0)) ∧ w'.cell? ⟨(CA.add ((aA).toNat * 2)).block, (CA.add ((aA).toNat * 2)).off + 1, none⟩ = some (.int .i64 ((rd_T25 l0 aA).f1))) [] 8 ⟨(blk_cell jA.out 0).trans rfl, (blk_cell jA.out 1).trans rfl, ((HB.out.cell (World.block_lt_of_cell? w _ vA)).trans vA), ((HB.out.cell (World.block_lt_of_cell? w _ uA)).trans uA)⟩ (fun bA => ?_); refine with_tabW impl_Fraction_61.tab7 impl_Fraction_61.bits7 (fun HT_ HW_ => ?_)
        generalize wr.drew = OC at lA jA HB rA qA bA ⊢
        refine zp 0 20 ?_
        refine zp 1 21 ?_
        refine zp 2 22 ?_
        refine zp 3 23 ?_
        refine zt 4 24 bA ?_
        refine zt 5 25 bA ?_
        refine zo 6 (some 26) (fun K hK => ?_)
        refine goesT_ Try.func62 (by kernel_rfl) rfl #[.agg #[.int .i64 ((rd_T25 l0 aA).f0), .int .i64 ((rd_T25 l0 aA).f1)], .agg #[.int .i64 hA, .int .i64 gA]] (by rfl) rfl rfl (by rfl) zM ?_
        with_reducible refine (impl_compareFractions.calls k1 ((rd_T25 l0 aA).f0) ((rd_T25 l0 aA).f1) hA gA jB _ iC.out).mono ?_
        rintro e DC ⟨rfl, hb⟩
        refine ⟨_, rfl, ?_⟩
        have n0_ := zbl lA.out hb; have n1_ := zbl jA.out hb; have n2_ := zQ (below_step (zB3 HB.out GA.out JA.out) hb); clear lA; clear jA; clear HB; have lA := n0_; have jA := n1_; have HB := n2_; clear n0_ n1_ n2_
        (try clear hb)
        (try clear CC)
        (try clear hk)
        (try clear hi)
        refine hK.out _ _ ⟨(blk_cell jA.out 0).trans rfl, (blk_cell jA.out 1).trans rfl, ((HB.out.cell (World.block_lt_of_cell? w _ vA)).trans vA), ((HB.out.cell (World.block_lt_of_cell? w _ uA)).trans uA)⟩ (fun bA => ?_)
        clear hK K
        refine zn 26 ?_
        refine zp 7 27 ?_
        refine done_ (done_of HT_.out (by kernel_rfl)) ?_
        have aC : 0 ≤ (aA : Int) := zD; have YB : aA < (l0.length : Int) := zD; obtain ⟨vC, IC, fB, eB⟩ := at_T25 OB.out aA aC YB; obtain rfl : CA = vC := (by injection IC); replace fB := zw HB.out fB; replace eB := zw HB.out eB; replace aC := eq_true aC; replace YB := eq_true YB; have qC := EA.out; have oC := nA.out; obtain ⟨MB, LB, FB, EB⟩ := zy2 jA.out
        try go_wp2
        go_roundg k1
        case measure => have := PB.out; omega
        case rel => exact ⟨(wrap64 (aA + 1)), ((rd_T25 l0 aA).f0), ((rd_T25 l0 aA).f1), (zF), H', ⟨by have := PB.out; omega⟩, ⟨by refine zb ?_; refine blk_far ?_ nA.out _; refine zb ?_; refine blk_far ?_ nA.out _; refine zb ?_; exact lA.out⟩, ⟨by refine zb ?_; refine blk_put (cs := #[.int .i64 ((rd_T25 l0 aA).f0), .int .i64 gA]) ?_ 1 _ rfl; refine zb ?_; refine blk_put (cs := #[.int .i64 hA, .int .i64 gA]) ?_ 0 _ rfl; refine zb ?_; exact jA.out⟩, ⟨zB3 HB.out GA.out JA.out⟩⟩
       ·rw [if_neg hB] at H
        have sB := decide_eq_false hB; clear hB; have H' := zQ H; clear H
        try go_wp2
        have n0_ := zQ (blk_drew lA.out); have n1_ := zQ (blk_drew jA.out); have n2_ := zQ (below_drew1 HB.out); clear lA; clear jA; clear HB; have lA := n0_; have jA := n1_; have HB := n2_; clear n0_ n1_ n2_; have XA : 0 ≤ (aA : Int) := zD; have VA : aA < (l0.length : Int) := zD; obtain ⟨uB, cC, rA, qA⟩ := at_T25 OB.out aA XA VA; have uA := qA; have vA := rA; obtain rfl : CA = uB := (by injection cC); replace rA := zw HB.out rA; replace qA := zw HB.out qA; replace XA := eq_true XA; replace VA := eq_true VA
        refine zs (fun w' => w'.cell? ⟨TA, 0, none⟩ = some (.int .i64 hA) ∧ w'.cell? ⟨TA, 1, none⟩ = some (.int .i64 gA) ∧ w'.cell? (CA.add ((aA).toNat * 2)) = some (.int .i64 ((rd_T25 l0 aA).f0)) ∧ w'.cell? ⟨(CA.add ((aA).toNat * 2)).block, (CA.add ((aA).toNat * 2)).off + 1, none⟩ = some (.int .i64 ((rd_T25 l0 aA).f1))) [] 8 ⟨(blk_cell jA.out 0).trans rfl, (blk_cell jA.out 1).trans rfl, ((HB.out.cell (World.block_lt_of_cell? w _ vA)).trans vA), ((HB.out.cell (World.block_lt_of_cell? w _ uA)).trans uA)⟩ (fun bA => ?_); refine with_tabW impl_Fraction_61.tab7 impl_Fraction_61.bits7 (fun HT_ HW_ => ?_)
        generalize wr.drew = NC at lA jA HB rA qA bA ⊢
        refine zp 0 20 ?_
        refine zp 1 21 ?_
        refine zp 2 22 ?_
        refine zp 3 23 ?_
        refine zt 4 24 bA ?_
        refine zt 5 25 bA ?_
        refine zo 6 (some 26) (fun K hK => ?_)
        refine goesT_ Try.func62 (by kernel_rfl) rfl #[.agg #[.int .i64 ((rd_T25 l0 aA).f0), .int .i64 ((rd_T25 l0 aA).f1)], .agg #[.int .i64 hA, .int .i64 gA]] (by rfl) rfl rfl (by rfl) zM ?_
        with_reducible refine (impl_compareFractions.calls k1 ((rd_T25 l0 aA).f0) ((rd_T25 l0 aA).f1) hA gA jB _ iC.out).mono ?_
        rintro e PC ⟨rfl, hb⟩
        refine ⟨_, rfl, ?_⟩
        have n0_ := zbl lA.out hb; have n1_ := zbl jA.out hb; have n2_ := zQ (below_step (zB3 HB.out GA.out JA.out) hb); clear lA; clear jA; clear HB; have lA := n0_; have jA := n1_; have HB := n2_; clear n0_ n1_ n2_
        (try clear hb)
        (try clear CC)
        (try clear hk)
        (try clear hi)
        refine hK.out _ _ ⟨(blk_cell jA.out 0).trans rfl, (blk_cell jA.out 1).trans rfl, ((HB.out.cell (World.block_lt_of_cell? w _ vA)).trans vA), ((HB.out.cell (World.block_lt_of_cell? w _ uA)).trans uA)⟩ (fun bA => ?_)
        clear hK K
        refine zn 26 ?_
        refine zp 7 27 ?_
        refine done_ (done_of HT_.out (by kernel_rfl)) ?_
        try go_wp2
        go_roundg k1
        case measure => have := PB.out; omega
        case rel => exact ⟨(wrap64 (aA + 1)), (hA), (gA), (zF), H', ⟨by have := PB.out; omega⟩, ⟨zb lA.out⟩, ⟨zb jA.out⟩, ⟨zB3 HB.out GA.out JA.out⟩⟩
      ·rw [if_neg NB] at H
       exact absurd H (by simp)
     ·rw [if_neg c9] at H
      have dC := decide_eq_false c9; clear c9
      simp only [Option.some.injEq, Prod.mk.injEq] at H
      obtain ⟨rfl, rfl⟩ := H; have pC := EA.out; have nC := nA.out; obtain ⟨KB, JB, DB, CB⟩ := zy2 jA.out; obtain ⟨IB, GB, BB, AB⟩ := zy2 lA.out
      go_wp2
      refine bodyPost_ret (results_cell_row rfl _ _ SB 25 #[.int .i64 hA, .int .i64 gA] (0, 0) _ rfl (by refine zb ?_; refine blk_put (cs := #[.int .i64 hA, .int .i64 0]) ?_ 1 _ rfl; refine zb ?_; refine blk_put (cs := #[.int .i64 0, .int .i64 0]) ?_ 0 _ rfl; refine zb ?_; exact lA.out) Try.underlying25 rfl (by kernel_rfl)) rfl ?_
      exact ⟨zE, zB3 HB.out GA.out JA.out⟩
  ·rw [if_neg c4] at H
   exact absurd H (by simp)

def impl_Fraction_63.l0 : Nat → List (S25) → Int → Int → Int → Option (Int × Int)
 | 0, _, _, _, _ => none
 | k + 1, x0, x6, MA, LA => if x6 < (x0.length : Int) then (if 0 ≤ x6 then ((impl_compareFractions.f k ((rd_T25 x0 x6).f0) ((rd_T25 x0 x6).f1) MA LA).bind fun iB => (if iB > 0 then (impl_Fraction_63.l0 k x0 (wrap64 (x6 + 1)) ((rd_T25 x0 x6).f0) ((rd_T25 x0 x6).f1)) else (impl_Fraction_63.l0 k x0 (wrap64 (x6 + 1)) MA LA))) else (none)) else (some (MA, LA))
def impl_Fraction_63.f (k : Nat) (l0 : List (S25))  : Option (Int × Int) := if (l0.length : Int) < 1 then (none) else (if 0 < (l0.length : Int) then (impl_Fraction_63.l0 k l0 1 ((rd_T25 l0 0).f0) ((rd_T25 l0 0).f1)) else (none))
def impl_Fraction_63.T7 : Bool × List (List Nat × List Nat) := (true, [([], []), ([], []), ([], []), ([1, 2], [1, 2]), ([3], [3]), ([], []), ([0, 4, 5], [0, 4, 5]), ([6], [6])])
def impl_Fraction_63.B7 : List Nat := [0, 0, 0, 6, 14, 0, 63, 127]
theorem impl_Fraction_63.tab7 : rtab .any (opsOf Try.f63 7) = impl_Fraction_63.T7 := by kernel_rfl
theorem impl_Fraction_63.bits7 : waitsOk impl_Fraction_63.T7.2 impl_Fraction_63.B7 = true := by kernel_rfl
theorem impl_Fraction_63.calls (k : Nat) (A0 : Option Addr) (c0 : Nat) (l0 : List (S25))  (r1 : Int) (r2 : Int) (w : World) (mC : Kd.C k25 w A0 l0.length l0) (rC : l0.length ≤ c0) (h : impl_Fraction_63.f k l0 = some (r1, r2)) :
  Calls Try.prog 63 #[.slice A0 l0.length c0, .func (.func 62) #[] #[]] w fun e w' => e = .returned (.agg #[.int .i64 r1, .int .i64 r2]) ∧ Below w.heap.size w w' := by
 have lC := Try.underlying25
 have OB := zQ mC
 have SC := zQ rC
 clear mC rC
 have HB := zQ (Below.refl w.heap.size w)
 have H := h; unfold impl_Fraction_63.f at H
 clear h
 by_cases c3 : (l0.length : Int) < 1
 ·rw [if_pos c3] at H
  exact absurd H (by simp)
 ·rw [if_neg c3] at H
  have hC := decide_eq_false c3; have gC : decide (l0.length < 1) = false := decide_eq_false (by omega); clear c3
  by_cases c4 : 0 < (l0.length : Int)
  ·rw [if_pos c4] at H
   have fC := decide_eq_true c4; have eC : decide (0 < l0.length) = true := decide_eq_true (by omega); clear c4; have H' := zQ H; clear H
   go_enter Try.func63, Try.ntmps63
   go_wp2_with (first | ((with_reducible refine zd 4 ?_); refine zbx (N := 4) (cs := #[.int .i64 0, .int .i64 0]) (t := 25) ?_; intro RB hg w5 wA hb; have kA := zQ (wA); have xC := zgz hg HB.out; have FA := xC; replace HB := zbs HB.out hb; clear hb wA hg; have yB : 0 ≤ (0 : Int) := (by omega); have wB : 0 < (l0.length : Int) := zD; obtain ⟨BA, HC, yA, xA⟩ := at_T25 OB.out 0 yB wB; cases HC; have qi314 : (0 < l0.length) = True := eq_true (by omega); (try rw [show ((0 : Int)).toNat = 0 from rfl] at yA); (try rw [show 0 * 2 = 0 from rfl] at yA); (try rw [Addr.add_zero'] at yA); (try rw [show ((0 : Int)).toNat = 0 from rfl] at xA); (try rw [show 0 * 2 = 0 from rfl] at xA); (try rw [Addr.add_zero'] at xA); replace yA := zw HB.out yA; replace xA := zw HB.out xA; replace yB := eq_true yB; replace wB := eq_true wB) | ((with_reducible refine zd 5 ?_); refine zbx (N := 5) (cs := #[.int .i64 0, .int .i64 0]) (t := 25) ?_; intro SA hg w6 wA hb; have iA := zQ (wA); have wC := zgz2 hg HB.out FA.out; have IA := wC; have mA := zn1 hg kA.out; have DA := zn2 hg kA.out; replace kA := zbl kA.out hb; replace HB := zbs2 HB.out FA.out hb; clear hb wA hg; have FC := DA.out; have EC := mA.out; obtain ⟨bB, aB, ZA, YA⟩ := zy2 iA.out))
   go_loopg [6] k (fun kq v6 w' => ∃ (aA : Int) (fA : Int) (eA : Int), v6 = .int .i64 aA ∧ Aside0 (impl_Fraction_63.l0 kq l0 aA fA eA = some (r1, r2)) ∧ Aside0 (kq ≤ k) ∧ Aside0 (w'.heap[RB]? = some (.cells #[.int .i64 0, .int .i64 0] 25 (0, 0))) ∧ Aside0 (w'.heap[SA]? = some (.cells #[.int .i64 fA, .int .i64 eA] 25 (0, 0))) ∧ Aside0 (Below w.heap.size w w'))
   case atStart => exact ⟨(1), ((rd_T25 l0 0).f0), ((rd_T25 l0 0).f1), (zF), H', ⟨Nat.le_refl _⟩, ⟨by refine zb ?_; refine blk_far ?_ mA.out _; refine zb ?_; refine blk_far ?_ mA.out _; refine zb ?_; exact kA.out⟩, ⟨by refine zb ?_; refine blk_put (cs := #[.int .i64 ((rd_T25 l0 0).f0), .int .i64 0]) ?_ 1 _ rfl; refine zb ?_; refine blk_put (cs := #[.int .i64 0, .int .i64 0]) ?_ 0 _ rfl; refine zb ?_; exact iA.out⟩, ⟨zB3 HB.out FA.out IA.out⟩⟩
   case round =>
    clear H'; (try clear p2); (try clear c3); (try clear hC); (try clear gC); (try clear p3); (try clear q3); (try clear RC); (try clear qi3); (try clear c4); (try clear fC); (try clear eC); (try clear c6); (try clear c7); (try clear bB aB ZA YA); (try clear yA); (try clear xA); (try clear yB); (try clear wB); obtain ⟨aA, fA, eA, rfl, HA, PB, kA, iA, HB⟩ := hrel
    cases gk with
    | zero => exact absurd HA.out (by simp [impl_Fraction_63.l0])
    | succ k1 =>
     have H := HA.out; clear HA
     simp only [impl_Fraction_63.l0] at H
     by_cases c9 : aA < (l0.length : Int)
     ·rw [if_pos c9] at H
      have dC := decide_eq_true c9; clear c9
      by_cases NB : 0 ≤ aA
      ·rw [if_pos NB] at H
       have tC := decide_eq_true NB; clear NB; replace H := zob H; obtain ⟨iB, iC, H⟩ := H
       by_cases hB : iB > 0
       ·rw [if_pos hB] at H
        have sB := decide_eq_true hB; clear hB; have H' := zQ H; clear H
        try go_wp2
        have n0_ := zQ (blk_drew kA.out); have n1_ := zQ (blk_drew iA.out); have n2_ := zQ (below_drew1 HB.out); clear kA; clear iA; clear HB; have kA := n0_; have iA := n1_; have HB := n2_; clear n0_ n1_ n2_; have WA : 0 ≤ (aA : Int) := zD; have UA : aA < (l0.length : Int) := zD; obtain ⟨tB, bC, pA, oA⟩ := at_T25 OB.out aA WA UA; have sA := oA; have tA := pA; obtain rfl : BA = tB := (by injection bC); replace pA := zw HB.out pA; replace oA := zw HB.out oA; replace WA := eq_true WA; replace UA := eq_true UA
        refine zs (fun w' => w'.cell? ⟨SA, 0, none⟩ = some (.int .i64 fA) ∧ w'.cell? ⟨SA, 1, none⟩ = some (.int .i64 eA) ∧ w'.cell? (BA.add ((aA).toNat * 2)) = some (.int .i64 ((rd_T25 l0 aA).f0)) ∧ w'.cell? ⟨(BA.add ((aA).toNat * 2)).block, (BA.add ((aA).toNat * 2)).off + 1, none⟩ = some (.int .i64 ((rd_T25 l0 aA).f1))) [] 8 ⟨(blk_cell iA.out 0).trans rfl, (blk_cell iA.out 1).trans rfl, ((HB.out.cell (World.block_lt_of_cell? w _ tA)).trans tA), ((HB.out.cell (World.block_lt_of_cell? w _ sA)).trans sA)⟩ (fun bA => ?_); refine with_tabW impl_Fraction_63.tab7 impl_Fraction_63.bits7 (fun HT_ HW_ => ?_)
        generalize wr.drew = OC at kA iA HB pA oA bA ⊢
        refine zp 0 20 ?_
        refine zp 1 21 ?_
        refine zp 2 22 ?_
        refine zp 3 23 ?_
        refine zt 4 24 bA ?_
        refine zt 5 25 bA ?_
        refine zo 6 (some 26) (fun K hK => ?_)
        refine goesT_ Try.func62 (by kernel_rfl) rfl #[.agg #[.int .i64 ((rd_T25 l0 aA).f0), .int .i64 ((rd_T25 l0 aA).f1)], .agg #[.int .i64 fA, .int .i64 eA]] (by rfl) rfl rfl (by rfl) zM ?_
        with_reducible refine (impl_compareFractions.calls k1 ((rd_T25 l0 aA).f0) ((rd_T25 l0 aA).f1) fA eA iB _ iC.out).mono ?_
        rintro e DC ⟨rfl, hb⟩
        refine ⟨_, rfl, ?_⟩
        have n0_ := zbl kA.out hb; have n1_ := zbl iA.out hb; have n2_ := zQ (below_step (zB3 HB.out FA.out IA.out) hb); clear kA; clear iA; clear HB; have kA := n0_; have iA := n1_; have HB := n2_; clear n0_ n1_ n2_
        (try clear hb)
        (try clear CC)
        (try clear hk)
        (try clear hi)
        refine hK.out _ _ ⟨(blk_cell iA.out 0).trans rfl, (blk_cell iA.out 1).trans rfl, ((HB.out.cell (World.block_lt_of_cell? w _ tA)).trans tA), ((HB.out.cell (World.block_lt_of_cell? w _ sA)).trans sA)⟩ (fun bA => ?_)
        clear hK K
        refine zn 26 ?_
        refine zp 7 27 ?_
        refine done_ (done_of HT_.out (by kernel_rfl)) ?_
        have ZB : 0 ≤ (aA : Int) := zD; have XB : aA < (l0.length : Int) := zD; obtain ⟨uC, GC, dB, cB⟩ := at_T25 OB.out aA ZB XB; obtain rfl : BA = uC := (by injection GC); replace dB := zw HB.out dB; replace cB := zw HB.out cB; replace ZB := eq_true ZB; replace XB := eq_true XB; have qC := DA.out; have oC := mA.out; obtain ⟨MB, LB, FB, EB⟩ := zy2 iA.out
        try go_wp2
        go_roundg k1
        case measure => have := PB.out; omega
        case rel => exact ⟨(wrap64 (aA + 1)), ((rd_T25 l0 aA).f0), ((rd_T25 l0 aA).f1), (zF), H', ⟨by have := PB.out; omega⟩, ⟨by refine zb ?_; refine blk_far ?_ mA.out _; refine zb ?_; refine blk_far ?_ mA.out _; refine zb ?_; exact kA.out⟩, ⟨by refine zb ?_; refine blk_put (cs := #[.int .i64 ((rd_T25 l0 aA).f0), .int .i64 eA]) ?_ 1 _ rfl; refine zb ?_; refine blk_put (cs := #[.int .i64 fA, .int .i64 eA]) ?_ 0 _ rfl; refine zb ?_; exact iA.out⟩, ⟨zB3 HB.out FA.out IA.out⟩⟩
       ·rw [if_neg hB] at H
        have sB := decide_eq_false hB; clear hB; have H' := zQ H; clear H
        try go_wp2
        have n0_ := zQ (blk_drew kA.out); have n1_ := zQ (blk_drew iA.out); have n2_ := zQ (below_drew1 HB.out); clear kA; clear iA; clear HB; have kA := n0_; have iA := n1_; have HB := n2_; clear n0_ n1_ n2_; have WA : 0 ≤ (aA : Int) := zD; have UA : aA < (l0.length : Int) := zD; obtain ⟨tB, bC, pA, oA⟩ := at_T25 OB.out aA WA UA; have sA := oA; have tA := pA; obtain rfl : BA = tB := (by injection bC); replace pA := zw HB.out pA; replace oA := zw HB.out oA; replace WA := eq_true WA; replace UA := eq_true UA
        refine zs (fun w' => w'.cell? ⟨SA, 0, none⟩ = some (.int .i64 fA) ∧ w'.cell? ⟨SA, 1, none⟩ = some (.int .i64 eA) ∧ w'.cell? (BA.add ((aA).toNat * 2)) = some (.int .i64 ((rd_T25 l0 aA).f0)) ∧ w'.cell? ⟨(BA.add ((aA).toNat * 2)).block, (BA.add ((aA).toNat * 2)).off + 1, none⟩ = some (.int .i64 ((rd_T25 l0 aA).f1))) [] 8 ⟨(blk_cell iA.out 0).trans rfl, (blk_cell iA.out 1).trans rfl, ((HB.out.cell (World.block_lt_of_cell? w _ tA)).trans tA), ((HB.out.cell (World.block_lt_of_cell? w _ sA)).trans sA)⟩ (fun bA => ?_); refine with_tabW impl_Fraction_63.tab7 impl_Fraction_63.bits7 (fun HT_ HW_ => ?_)
        generalize wr.drew = NC at kA iA HB pA oA bA ⊢
        refine zp 0 20 ?_
        refine zp 1 21 ?_
        refine zp 2 22 ?_
        refine zp 3 23 ?_
        refine zt 4 24 bA ?_
        refine zt 5 25 bA ?_
        refine zo 6 (some 26) (fun K hK => ?_)
        refine goesT_ Try.func62 (by kernel_rfl) rfl #[.agg #[.int .i64 ((rd_T25 l0 aA).f0), .int .i64 ((rd_T25 l0 aA).f1)], .agg #[.int .i64 fA, .int .i64 eA]] (by rfl) rfl rfl (by rfl) zM ?_
        with_reducible refine (impl_compareFractions.calls k1 ((rd_T25 l0 aA).f0) ((rd_T25 l0 aA).f1) fA eA iB _ iC.out).mono ?_
        rintro e PC ⟨rfl, hb⟩
        refine ⟨_, rfl, ?_⟩
        have n0_ := zbl kA.out hb; have n1_ := zbl iA.out hb; have n2_ := zQ (below_step (zB3 HB.out FA.out IA.out) hb); clear kA; clear iA; clear HB; have kA := n0_; have iA := n1_; have HB := n2_; clear n0_ n1_ n2_
        (try clear hb)
        (try clear CC)
        (try clear hk)
        (try clear hi)
        refine hK.out _ _ ⟨(blk_cell iA.out 0).trans rfl, (blk_cell iA.out 1).trans rfl, ((HB.out.cell (World.block_lt_of_cell? w _ tA)).trans tA), ((HB.out.cell (World.block_lt_of_cell? w _ sA)).trans sA)⟩ (fun bA => ?_)
        clear hK K
        refine zn 26 ?_
        refine zp 7 27 ?_
        refine done_ (done_of HT_.out (by kernel_rfl)) ?_
        try go_wp2
        go_roundg k1
        case measure => have := PB.out; omega
        case rel => exact ⟨(wrap64 (aA + 1)), (fA), (eA), (zF), H', ⟨by have := PB.out; omega⟩, ⟨zb kA.out⟩, ⟨zb iA.out⟩, ⟨zB3 HB.out FA.out IA.out⟩⟩
      ·rw [if_neg NB] at H
       exact absurd H (by simp)
     ·rw [if_neg c9] at H
      have dC := decide_eq_false c9; clear c9
      simp only [Option.some.injEq, Prod.mk.injEq] at H
      obtain ⟨rfl, rfl⟩ := H; have pC := DA.out; have nC := mA.out; obtain ⟨KB, JB, DB, CB⟩ := zy2 iA.out; obtain ⟨IB, GB, BB, AB⟩ := zy2 kA.out
      go_wp2
      refine bodyPost_ret (results_cell_row rfl _ _ RB 25 #[.int .i64 fA, .int .i64 eA] (0, 0) _ rfl (by refine zb ?_; refine blk_put (cs := #[.int .i64 fA, .int .i64 0]) ?_ 1 _ rfl; refine zb ?_; refine blk_put (cs := #[.int .i64 0, .int .i64 0]) ?_ 0 _ rfl; refine zb ?_; exact kA.out) Try.underlying25 rfl (by kernel_rfl)) rfl ?_
      exact ⟨zE, zB3 HB.out FA.out IA.out⟩
  ·rw [if_neg c4] at H
   exact absurd H (by simp)

end
end Go.Proofs.Ytchngbjpjbahiaa.PSailw

