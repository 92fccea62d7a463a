import Derived.Test.YtcomncokgkeniaaHSailw0
import Derived.Test.YtcomncokgkeniaaHSailwh
import Derived.Test.YtcomncokgkeniaaHSailwm
namespace Go.Proofs.Ytcomncokgkeniaa.PSailw
noncomputable section
open Go.RowKit Go.Proofs.YtcomncokgkeniaaW.PrintWords Go.Proofs.YtcomncokgkeniaaW.PrintLast Go.Proofs.YtcomncokgkeniaaW.PrintMore
attribute [local go_sem] max2_int min2_int max_two min_two max_three min_three max_four min_four   -- for this text's walks alone
set_option linter.unusedVariables false
set_option linter.unusedSimpArgs false
set_option maxHeartbeats 8000000
set_option maxRecDepth 100000
theorem goesT_ {P : Program} {ops : Array Oper} {Q : Exit → Act → World → Prop} {oi : Oper} {N : Option Tmp} {a : Act} {w : World} {K : Act → World → Prop} {i : Tmp} {f : FuncId} {fn : Func} {xs : Array Operand} {ts : Array TypeId} (hf : P.funcs[f]? = some fn) (hname : (fn.name == "runtime.NumGoroutine") = false) (hb : fn.body.isSome = true) (args : Array Value)
    (hw : Region.wanted oi (yielded ops a.tmps) = true) (hN : oi.dst = N) (hop : oi.op = .call { callee := .value (.tmp i), args := xs, argTypes := ts }) (hc : a.eval (.tmp i) = .func (.func f) #[] #[]) (hargs : xs.map a.eval = args)
    (h : Calls P f args w fun e w' => ∃ v, e = .returned v ∧ K (a.put N v) w') : if Region.wanted oi (yielded ops a.tmps) = true then Oper.wp P oi a w K Q else K (a.put N undef) w := by
  refine call_ f args hw hN ?_ h
  have he := enters_ hf hname hb args w
  unfold execOp
  simp only [hop, resolve, hc]
  simp [Deferred.ofValue, invoke, hargs, he]

def impl_size.f (a0 : Int) : Option (Int) := if a0 < 0 then (some (IntKind.u64.wrap (wrap64 (-a0)))) else (some (IntKind.u64.wrap (a0)))
theorem impl_size.calls (a0 : Int) (r : Int) (w : World) (h : impl_size.f a0 = some r) :
  Calls Try.prog 76 #[.int .i64 a0] w fun e w' => e = .returned (.int .u64 r) ∧ Drawn0 w w' := by
 have H := h; unfold impl_size.f at H
 clear h
 by_cases c2 : a0 < 0
 ·rw [if_pos c2] at H
  have c2b0 := decide_eq_true c2; clear c2; obtain rfl := Option.some.inj H
  go_enter Try.func76, Try.ntmps76
  go_wp2
  go_ret
  exact ⟨zF, by repeat (first | exact Drawn0.refl _ | apply Drawn0.step)⟩
 ·rw [if_neg c2] at H
  have c2b0 := decide_eq_false c2; clear c2; obtain rfl := Option.some.inj H
  go_enter Try.func76, Try.ntmps76
  go_wp2
  go_ret
  exact ⟨zF, by repeat (first | exact Drawn0.refl _ | apply Drawn0.step)⟩

def impl_compareFractions.f (k : Nat) (a0_0 : Int) (a0_1 : Int) (a1_0 : Int) (a1_1 : Int) : Option (Int) := (impl_sign.f a0_0).bind fun t303 => ((impl_sign.f a1_0).bind fun t304 => ((cmp_Compare_int64.f t303 t304).bind fun t305 => ((impl_sign.f a0_0).bind fun t306 => ((impl_size.f a0_0).bind fun t307 => ((impl_size.f a1_1).bind fun t308 => ((impl_size.f a1_0).bind fun t309 => ((impl_size.f a0_1).bind fun t310 => ((impl_compareProducts.f k t307 t308 t309 t310).bind fun t311 => ((cmp_Or_int.f k (([t305, wrap64 (t306 * t311)] : List Int))).bind fun t315 => (some t315))))))))))
def impl_compareFractions.T1 : Bool × List (List Nat × List Nat) := (true, [([], []), ([0], [0]), ([1], [1]), ([], []), ([3], [3]), ([4, 2], [4]), ([2, 5, 5], [2, 5]), ([], []), ([7], [7]), ([8, 6], [8]), ([], []), ([10], [10]), ([11, 9], [11]), ([], []), ([13], [13]), ([14, 12], [14]), ([], []), ([16], [16]), ([17, 15], [17]), ([], []), ([19], [19]), ([20, 18], [20]), ([12, 15, 18, 21, 21], [12, 15, 18, 21]), ([9, 22], [9, 22]), ([6, 23], [6, 23]), ([24, 22], [24]), ([25, 25, 0, 1, 2, 3, 4, 5, 6, 7, 8, 9, 10, 11, 12, 13, 14, 15, 16, 17, 18, 19, 20, 21, 22, 23, 24, 25], [25])])
def impl_compareFractions.B1 : List Nat := [0, 1, 3, 0, 8, 31, 63, 0, 128, 511, 0, 1024, 4095, 0, 8192, 32767, 0, 65536, 262143, 0, 524288, 2097151, 4194303, 8388607, 16777215, 33554431, 67108863]
theorem impl_compareFractions.tab1 : rtab .any (opsOf Try.f62 1) = impl_compareFractions.T1 := by kernel_rfl
theorem impl_compareFractions.bits1 : waitsOk impl_compareFractions.T1.2 impl_compareFractions.B1 = true := by kernel_rfl
theorem impl_compareFractions.calls (k : Nat) (a0_0 : Int) (a0_1 : Int) (a1_0 : Int) (a1_1 : Int) (r : Int) (w : World) (h : impl_compareFractions.f k a0_0 a0_1 a1_0 a1_1 = some r) :
  Calls Try.prog 62 #[.agg #[.int .i64 a0_0, .int .i64 a0_1], .agg #[.int .i64 a1_0, .int .i64 a1_1]] w fun e w' => e = .returned (.int .i64 r) ∧ Below w.heap.size w w' := by
 have hu25 := Try.underlying25
 have HB := zQ (Below.refl w.heap.size w)
 have H := h; unfold impl_compareFractions.f at H
 clear h
 replace H := zob H; obtain ⟨t303, A3, H⟩ := H
 replace H := zob H; obtain ⟨t304, A4, H⟩ := H
 replace H := zob H; obtain ⟨t305, A5, H⟩ := H
 replace H := zob H; obtain ⟨t306, A6, H⟩ := H
 replace H := zob H; obtain ⟨t307, A7, H⟩ := H
 replace H := zob H; obtain ⟨t308, A8, H⟩ := H
 replace H := zob H; obtain ⟨t309, A9, H⟩ := H
 replace H := zob H; obtain ⟨t310, A10, H⟩ := H
 replace H := zob H; obtain ⟨t311, A11, H⟩ := H
 obtain ⟨y312, hy312⟩ : ∃ y_ : List Int, y_ = (([t305, wrap64 (t306 * t311)] : List Int)) := ⟨_, rfl⟩
 replace H : ((cmp_Or_int.f k y312).bind fun t315 => (some t315)) = some r := zh H
 have Ny312 := zQ hy312
 clear hy312
 replace H := zob H; obtain ⟨t315, A12, H⟩ := H
 obtain rfl := Option.some.inj H
 go_enter Try.func62, Try.ntmps62
 try go_wp2_with (first | ((with_reducible refine zd 2 ?_); refine zbx (N := 2) (cs := #[.int .i64 a0_0, .int .i64 a0_1]) (t := 25) ?_; intro gb301 hg w13 hbox hb; have BK301 := zQ (hbox); have GW301 := zgz hg HB.out; have GE301 := GW301; replace HB := zbs HB.out hb; clear hb hbox hg) | ((with_reducible refine zd 3 ?_); refine zbx (N := 3) (cs := #[.int .i64 a1_0, .int .i64 a1_1]) (t := 25) ?_; intro gb302 hg w14 hbox hb; have BK302 := zQ (hbox); have GW302 := zgz2 hg HB.out GE301.out; have GE302 := GW302; have NB301_302 := zn1 hg BK301.out; have NB302_301 := zn2 hg BK301.out; replace BK301 := zbl BK301.out hb; replace HB := zbs2 HB.out GE301.out hb; clear hb hbox hg))
 have n0_ := zQ (blk_drew BK301.out)
 have n1_ := zQ (blk_drew BK302.out)
 have n2_ := zQ (below_drew1 HB.out)
 clear BK301
 clear BK302
 clear HB
 have BK301 := n0_
 have BK302 := n1_
 have HB := n2_
 clear n0_ n1_ n2_
 refine zs (fun w' => w'.cell? ⟨gb301, 0, none⟩ = some (.int .i64 a0_0) ∧ w'.cell? ⟨gb301, 1, none⟩ = some (.int .i64 a0_1) ∧ w'.cell? ⟨gb302, 0, none⟩ = some (.int .i64 a1_0) ∧ w'.cell? ⟨gb302, 1, none⟩ = some (.int .i64 a1_1)) [] 27 ⟨(blk_cell BK301.out 0).trans rfl, (blk_cell BK301.out 1).trans rfl, (blk_cell BK302.out 0).trans rfl, (blk_cell BK302.out 1).trans rfl⟩ (fun hHeld => ?_); refine with_tabW impl_compareFractions.tab1 impl_compareFractions.bits1 (fun HT_ HW_ => ?_)
 generalize w14.drew = w15 at BK301 BK302 HB hHeld ⊢
 refine zp 0 5 ?_
 refine zp 3 8 ?_
 refine zp 7 12 ?_
 refine zp 10 15 ?_
 refine zp 13 18 ?_
 refine zp 16 21 ?_
 refine zp 19 24 ?_
 refine zt 1 6 hHeld ?_
 refine zt 4 9 hHeld ?_
 refine zt 8 13 hHeld ?_
 refine zt 11 16 hHeld ?_
 refine zt 14 19 hHeld ?_
 refine zt 17 22 hHeld ?_
 refine zt 20 25 hHeld ?_
 refine zo 2 (some 7) (fun K hK => ?_)
 refine goes_ Try.func70 (by kernel_rfl) rfl #[.int .i64 a0_0] (by rfl) rfl rfl zM ?_
 with_reducible refine (impl_sign.calls a0_0 t303 _ A3.out).mono ?_
 rintro e w' ⟨rfl, ⟨nd, rfl⟩⟩
 refine ⟨_, rfl, ?_⟩
 refine hK.out _ _ ⟨(blk_cell BK301.out 0).trans rfl, (blk_cell BK301.out 1).trans rfl, (blk_cell BK302.out 0).trans rfl, (blk_cell BK302.out 1).trans rfl⟩ (fun hHeld => ?_)
 clear hK K
 refine zn 7 ?_
 refine zo 5 (some 10) (fun K hK => ?_)
 refine goes_ Try.func70 (by kernel_rfl) rfl #[.int .i64 a1_0] (by rfl) rfl rfl zM ?_
 with_reducible refine (impl_sign.calls a1_0 t304 _ A4.out).mono ?_
 rintro e w' ⟨rfl, ⟨nd, rfl⟩⟩
 refine ⟨_, rfl, ?_⟩
 refine hK.out _ _ ⟨(blk_cell BK301.out 0).trans rfl, (blk_cell BK301.out 1).trans rfl, (blk_cell BK302.out 0).trans rfl, (blk_cell BK302.out 1).trans rfl⟩ (fun hHeld => ?_)
 clear hK K
 refine zn 10 ?_
 refine zo 6 (some 11) (fun K hK => ?_)
 refine goes_ Try.func74 (by kernel_rfl) rfl #[.int .i64 t303, .int .i64 t304] (by rfl) rfl rfl zM ?_
 with_reducible refine (cmp_Compare_int64.calls t303 t304 t305 _ A5.out).mono ?_
 rintro e w' ⟨rfl, ⟨nd, rfl⟩⟩
 refine ⟨_, rfl, ?_⟩
 refine hK.out _ _ ⟨(blk_cell BK301.out 0).trans rfl, (blk_cell BK301.out 1).trans rfl, (blk_cell BK302.out 0).trans rfl, (blk_cell BK302.out 1).trans rfl⟩ (fun hHeld => ?_)
 clear hK K
 refine zn 11 ?_
 refine zo 9 (some 14) (fun K hK => ?_)
 refine goes_ Try.func70 (by kernel_rfl) rfl #[.int .i64 a0_0] (by rfl) rfl rfl zM ?_
 with_reducible refine (impl_sign.calls a0_0 t306 _ A6.out).mono ?_
 rintro e w' ⟨rfl, ⟨nd, rfl⟩⟩
 refine ⟨_, rfl, ?_⟩
 refine hK.out _ _ ⟨(blk_cell BK301.out 0).trans rfl, (blk_cell BK301.out 1).trans rfl, (blk_cell BK302.out 0).trans rfl, (blk_cell BK302.out 1).trans rfl⟩ (fun hHeld => ?_)
 clear hK K
 refine zn 14 ?_
 refine zo 12 (some 17) (fun K hK => ?_)
 refine goes_ Try.func76 (by kernel_rfl) rfl #[.int .i64 a0_0] (by rfl) rfl rfl zM ?_
 with_reducible refine (impl_size.calls a0_0 t307 _ A7.out).mono ?_
 rintro e w' ⟨rfl, ⟨nd, rfl⟩⟩
 refine ⟨_, rfl, ?_⟩
 refine hK.out _ _ ⟨(blk_cell BK301.out 0).trans rfl, (blk_cell BK301.out 1).trans rfl, (blk_cell BK302.out 0).trans rfl, (blk_cell BK302.out 1).trans rfl⟩ (fun hHeld => ?_)
 clear hK K
 refine zn 17 ?_
 refine zo 15 (some 20) (fun K hK => ?_)
 refine goes_ Try.func76 (by kernel_rfl) rfl #[.int .i64 a1_1] (by rfl) rfl rfl zM ?_
 with_reducible refine (impl_size.calls a1_1 t308 _ A8.out).mono ?_
 rintro e w' ⟨rfl, ⟨nd, rfl⟩⟩
 refine ⟨_, rfl, ?_⟩
 refine hK.out _ _ ⟨(blk_cell BK301.out 0).trans rfl, (blk_cell BK301.out 1).trans rfl, (blk_cell BK302.out 0).trans rfl, (blk_cell BK302.out 1).trans rfl⟩ (fun hHeld => ?_)
 clear hK K
 refine zn 20 ?_
 refine zo 18 (some 23) (fun K hK => ?_)
 refine goes_ Try.func76 (by kernel_rfl) rfl #[.int .i64 a1_0] (by rfl) rfl rfl zM ?_
 with_reducible refine (impl_size.calls a1_0 t309 _ A9.out).mono ?_
 rintro e w' ⟨rfl, ⟨nd, rfl⟩⟩
 refine ⟨_, rfl, ?_⟩
 refine hK.out _ _ ⟨(blk_cell BK301.out 0).trans rfl, (blk_cell BK301.out 1).trans rfl, (blk_cell BK302.out 0).trans rfl, (blk_cell BK302.out 1).trans rfl⟩ (fun hHeld => ?_)
 clear hK K
 refine zn 23 ?_
 refine zo 21 (some 26) (fun K hK => ?_)
 refine goes_ Try.func76 (by kernel_rfl) rfl #[.int .i64 a0_1] (by rfl) rfl rfl zM ?_
 with_reducible refine (impl_size.calls a0_1 t310 _ A10.out).mono ?_
 rintro e w' ⟨rfl, ⟨nd, rfl⟩⟩
 refine ⟨_, rfl, ?_⟩
 refine hK.out _ _ ⟨(blk_cell BK301.out 0).trans rfl, (blk_cell BK301.out 1).trans rfl, (blk_cell BK302.out 0).trans rfl, (blk_cell BK302.out 1).trans rfl⟩ (fun hHeld => ?_)
 clear hK K
 refine zn 26 ?_
 refine zo 22 (some 27) (fun K hK => ?_)
 refine goes_ Try.func75 (by kernel_rfl) rfl #[.int .u64 t307, .int .u64 t308, .int .u64 t309, .int .u64 t310] (by rfl) rfl rfl zM ?_
 with_reducible refine (impl_compareProducts.calls k t307 t308 t309 t310 t311 _ A11.out).mono ?_
 rintro e w16 ⟨rfl, hb⟩
 refine ⟨_, rfl, ?_⟩
 have n0_ := zbl BK301.out hb
 have n1_ := zbl BK302.out hb
 have n2_ := zQ (below_step (zB3 HB.out GE301.out GE302.out) hb)
 clear BK301
 clear BK302
 clear HB
 have BK301 := n0_
 have BK302 := n1_
 have HB := n2_
 clear n0_ n1_ n2_
 (try clear hb)
 (try clear hb2)
 (try clear hk)
 (try clear hi)
 refine hK.out _ _ ⟨(blk_cell BK301.out 0).trans rfl, (blk_cell BK301.out 1).trans rfl, (blk_cell BK302.out 0).trans rfl, (blk_cell BK302.out 1).trans rfl⟩ (fun hHeld => ?_)
 clear hK K
 refine zn 27 ?_
 refine zp 23 28 ?_
 refine zo 24 (some 29) (fun K hK => ?_)
 refine Kd.R_lit_step (Kd.int .i64) _ 3 ?hg (N := 29) ?hd (xs := ([t305, wrap64 (t306 * t311)] : List Int)) (inner := [.int .i64 t305, .int .i64 (wrap64 (t306 * t311))]) (ok := fun _ => True) (okp := fun _ => True) ?hr ?hp (fun _ hk => hk) trivial (Below.refl _ _) (Nat.le_refl _) (by simp) ?_; (case hd => rfl); (case hg => rfl); (case hr => first | (go_simp; done) | (go_simp; rfl)); (case hp => exact (Reps.one (show Kd.M (Kd.int .i64) _ _ _ t305 [.int .i64 t305] from rfl) (Reps.one (show Kd.M (Kd.int .i64) _ _ _ (wrap64 (t306 * t311)) [.int .i64 (wrap64 (t306 * t311))] from rfl) (Reps.none _ _))))
 intro v313 w17 ho18 hb hg_ hnew_
 clear hg_ hnew_
 (first | rw [← Ny312.out] at ho18 | (simp only [Int.reduceToNat] at ho18; rw [← Ny312.out] at ho18))
 have n0_ := zQ (Kd.R_lower ho18 (below_size (zB3 HB.out GE301.out GE302.out)))
 have n1_ := zbl BK301.out hb
 have n2_ := zbl BK302.out hb
 have n3_ := zQ (below_step (zB3 HB.out GE301.out GE302.out) hb)
 clear BK301
 clear BK302
 clear HB
 have HO314 := n0_
 have BK301 := n1_
 have BK302 := n2_
 have HB := n3_
 clear n0_ n1_ n2_ n3_
 clear hb ho18
 obtain ⟨Ao19, co19, eo19⟩ := Kd.R_slice HO314.out
 (first | subst eo19 | (injection eo19 with f1_ f2_ f3_; have f4_ := f1_.symm; have f5_ := f3_.symm; clear f1_ f2_ f3_; subst f4_; subst f5_))
 refine hK.out _ _ ⟨(blk_cell BK301.out 0).trans rfl, (blk_cell BK301.out 1).trans rfl, (blk_cell BK302.out 0).trans rfl, (blk_cell BK302.out 1).trans rfl⟩ (fun hHeld => ?_)
 clear hK K
 refine zn 29 ?_
 refine zo 25 (some 30) (fun K hK => ?_)
 refine goes_ Try.func73 (by kernel_rfl) rfl #[.slice Ao19 y312.length co19] (by rfl) rfl rfl zM ?_
 with_reducible refine (cmp_Or_int.calls k _ _ y312 t315 _ ?side1 ?side2 A12.out).mono ?_
 (case side1 => exact zk (Kd.R_reads' HO314.out).2.2)
 (case side2 => exact (Kd.R_reads' HO314.out).2.1)
 rintro e w' ⟨rfl, ⟨nd, rfl⟩⟩
 refine ⟨_, rfl, ?_⟩
 refine hK.out _ _ ⟨(blk_cell BK301.out 0).trans rfl, (blk_cell BK301.out 1).trans rfl, (blk_cell BK302.out 0).trans rfl, (blk_cell BK302.out 1).trans rfl⟩ (fun hHeld => ?_)
 clear hK K
 refine zn 30 ?_
 refine zp 26 4 ?_
 refine done_ (done_of HT_.out (by kernel_rfl)) ?_
 try go_wp2
 go_ret
 exact ⟨zE, zB3 HB.out GE301.out GE302.out⟩

def impl_Fraction_61.l0 : Nat → List (S25) → Int → Int → Int → Option (Int × Int)
 | 0, _, _, _, _ => none
 | k + 1, x0, x6, x319000, x319001 => if x6 < (x0.length : Int) then (if 0 ≤ x6 then ((impl_compareFractions.f k ((rd_T25 x0 x6).f0) ((rd_T25 x0 x6).f1) x319000 x319001).bind fun t320 => (if t320 < 0 then (impl_Fraction_61.l0 k x0 (wrap64 (x6 + 1)) ((rd_T25 x0 x6).f0) ((rd_T25 x0 x6).f1)) else (impl_Fraction_61.l0 k x0 (wrap64 (x6 + 1)) x319000 x319001))) else (none)) else (some (x319000, x319001))
def impl_Fraction_61.f (k : Nat) (l0 : List (S25))  : Option (Int × Int) := if (l0.length : Int) < 1 then (none) else (if 0 < (l0.length : Int) then (impl_Fraction_61.l0 k l0 1 ((rd_T25 l0 0).f0) ((rd_T25 l0 0).f1)) else (none))
def impl_Fraction_61.T7 : Bool × List (List Nat × List Nat) := (true, [([], []), ([], []), ([], []), ([1, 2], [1, 2]), ([3], [3]), ([], []), ([0, 4, 5], [0, 4, 5]), ([6], [6])])
def impl_Fraction_61.B7 : List Nat := [0, 0, 0, 6, 14, 0, 63, 127]
theorem impl_Fraction_61.tab7 : rtab .any (opsOf Try.f61 7) = impl_Fraction_61.T7 := by kernel_rfl
theorem impl_Fraction_61.bits7 : waitsOk impl_Fraction_61.T7.2 impl_Fraction_61.B7 = true := by kernel_rfl
theorem impl_Fraction_61.calls (k : Nat) (A0 : Option Addr) (c0 : Nat) (l0 : List (S25))  (r1 : Int) (r2 : Int) (w : World) (hr0 : Kd.C k25 w A0 l0.length l0) (hc0 : l0.length ≤ c0) (h : impl_Fraction_61.f k l0 = some (r1, r2)) :
  Calls Try.prog 61 #[.slice A0 l0.length c0, .func (.func 62) #[] #[]] w fun e w' => e = .returned (.agg #[.int .i64 r1, .int .i64 r2]) ∧ Below w.heap.size w w' := by
 have hu25 := Try.underlying25
 have HR0 := zQ hr0
 have HC0 := zQ hc0
 clear hr0 hc0
 have HB := zQ (Below.refl w.heap.size w)
 have H := h; unfold impl_Fraction_61.f at H
 clear h
 by_cases c3 : (l0.length : Int) < 1
 ·rw [if_pos c3] at H
  exact absurd H (by simp)
 ·rw [if_neg c3] at H
  have c3b0 := decide_eq_false c3; have c3b1 : decide (l0.length < 1) = false := decide_eq_false (by omega); clear c3
  by_cases c4 : 0 < (l0.length : Int)
  ·rw [if_pos c4] at H
   have c4b0 := decide_eq_true c4; have c4b1 : decide (0 < l0.length) = true := decide_eq_true (by omega); clear c4; have H' := zQ H; clear H
   go_enter Try.func61, Try.ntmps61
   go_wp2_with (first | ((with_reducible refine zd 4 ?_); refine zbx (N := 4) (cs := #[.int .i64 0, .int .i64 0]) (t := 25) ?_; intro gb316 hg w5 hbox hb; have BK316 := zQ (hbox); have GW316 := zgz hg HB.out; have GE316 := GW316; replace HB := zbs HB.out hb; clear hb hbox hg; have p317 : 0 ≤ (0 : Int) := (by omega); have q317 : 0 < (l0.length : Int) := zD; obtain ⟨ad317, e317, hx317_0, hx317_1⟩ := at_T25 HR0.out 0 p317 q317; cases e317; have qi317 : (0 < l0.length) = True := eq_true (by omega); (try rw [show ((0 : Int)).toNat = 0 from rfl] at hx317_0); (try rw [show 0 * 2 = 0 from rfl] at hx317_0); (try rw [Addr.add_zero'] at hx317_0); (try rw [show ((0 : Int)).toNat = 0 from rfl] at hx317_1); (try rw [show 0 * 2 = 0 from rfl] at hx317_1); (try rw [Addr.add_zero'] at hx317_1); replace hx317_0 := zw HB.out hx317_0; replace hx317_1 := zw HB.out hx317_1; replace p317 := eq_true p317; replace q317 := eq_true q317) | ((with_reducible refine zd 5 ?_); refine zbx (N := 5) (cs := #[.int .i64 0, .int .i64 0]) (t := 25) ?_; intro gb318 hg w6 hbox hb; have BK318 := zQ (hbox); have GW318 := zgz2 hg HB.out GE316.out; have GE318 := GW318; have NB316_318 := zn1 hg BK316.out; have NB318_316 := zn2 hg BK316.out; replace BK316 := zbl BK316.out hb; replace HB := zbs2 HB.out GE316.out hb; clear hb hbox hg; have hnb7 := NB318_316.out; have hnc7 := NB316_318.out; obtain ⟨hcz8_0, hcz8_1, hfz8_0, hfz8_1⟩ := zy2 BK318.out))
   go_loopg [6] k (fun kq v6 w' => ∃ (x6_1 : Int) (x319000_1 : Int) (x319001_1 : Int), v6 = .int .i64 x6_1 ∧ Aside0 (impl_Fraction_61.l0 kq l0 x6_1 x319000_1 x319001_1 = some (r1, r2)) ∧ Aside0 (kq ≤ k) ∧ Aside0 (w'.heap[gb316]? = some (.cells #[.int .i64 0, .int .i64 0] 25 (0, 0))) ∧ Aside0 (w'.heap[gb318]? = some (.cells #[.int .i64 x319000_1, .int .i64 x319001_1] 25 (0, 0))) ∧ Aside0 (Below w.heap.size w w'))
   case atStart => exact ⟨(1), ((rd_T25 l0 0).f0), ((rd_T25 l0 0).f1), (zF), H', ⟨Nat.le_refl _⟩, ⟨by refine zb ?_; refine blk_far ?_ NB316_318.out _; refine zb ?_; refine blk_far ?_ NB316_318.out _; refine zb ?_; exact BK316.out⟩, ⟨by refine zb ?_; refine blk_put (cs := #[.int .i64 ((rd_T25 l0 0).f0), .int .i64 0]) ?_ 1 _ rfl; refine zb ?_; refine blk_put (cs := #[.int .i64 0, .int .i64 0]) ?_ 0 _ rfl; refine zb ?_; exact BK318.out⟩, ⟨zB3 HB.out GE316.out GE318.out⟩⟩
   case round =>
    clear H'; (try clear p2); (try clear c3); (try clear c3b0); (try clear c3b1); (try clear p3); (try clear q3); (try clear hx3); (try clear qi3); (try clear c4); (try clear c4b0); (try clear c4b1); (try clear c6); (try clear c7); (try clear hcz8_0 hcz8_1 hfz8_0 hfz8_1); (try clear hx317_0); (try clear hx317_1); (try clear p317); (try clear q317); obtain ⟨x6_1, x319000_1, x319001_1, rfl, HA, HK1, BK316, BK318, HB⟩ := hrel
    cases gk with
    | zero => exact absurd HA.out (by simp [impl_Fraction_61.l0])
    | succ k1 =>
     have H := HA.out; clear HA
     simp only [impl_Fraction_61.l0] at H
     by_cases c9 : x6_1 < (l0.length : Int)
     ·rw [if_pos c9] at H
      have c9b0 := decide_eq_true c9; clear c9
      by_cases c10 : 0 ≤ x6_1
      ·rw [if_pos c10] at H
       have c10b0 := decide_eq_true c10; clear c10; replace H := zob H; obtain ⟨t320, A11, H⟩ := H
       by_cases c12 : t320 < 0
       ·rw [if_pos c12] at H
        have c12b0 := decide_eq_true c12; clear c12; have H' := zQ H; clear H
        try go_wp2
        have n0_ := zQ (blk_drew BK316.out); have n1_ := zQ (blk_drew BK318.out); have n2_ := zQ (below_drew1 HB.out); clear BK316; clear BK318; clear HB; have BK316 := n0_; have BK318 := n1_; have HB := n2_; clear n0_ n1_ n2_; have p319 : 0 ≤ (x6_1 : Int) := zD; have q319 : x6_1 < (l0.length : Int) := zD; obtain ⟨ad319, e319, hx319_0, hx319_1⟩ := at_T25 HR0.out x6_1 p319 q319; have hw319_1 := hx319_1; have hw319_0 := hx319_0; obtain rfl : ad317 = ad319 := (by injection e319); replace hx319_0 := zw HB.out hx319_0; replace hx319_1 := zw HB.out hx319_1; replace p319 := eq_true p319; replace q319 := eq_true q319
        refine zs (fun w' => w'.cell? ⟨gb318, 0, none⟩ = some (.int .i64 x319000_1) ∧ w'.cell? ⟨gb318, 1, none⟩ = some (.int .i64 x319001_1) ∧ w'.cell? (ad317.add ((x6_1).toNat * 2)) = some (.int .i64 ((rd_T25 l0 x6_1).f0)) ∧ w'.cell? ⟨(ad317.add ((x6_1).toNat * 2)).block, (ad317.add ((x6_1).toNat * 2)).off + 1, none⟩ = some (.int .i64 ((rd_T25 l0 x6_1).f1))) [] 8 ⟨(blk_cell BK318.out 0).trans rfl, (blk_cell BK318.out 1).trans rfl, ((HB.out.cell (World.block_lt_of_cell? w _ hw319_0)).trans hw319_0), ((HB.out.cell (World.block_lt_of_cell? w _ hw319_1)).trans hw319_1)⟩ (fun hHeld => ?_); refine with_tabW impl_Fraction_61.tab7 impl_Fraction_61.bits7 (fun HT_ HW_ => ?_)
        generalize wr.drew = w13 at BK316 BK318 HB hx319_0 hx319_1 hHeld ⊢
        refine zp 0 20 ?_
        refine zp 1 21 ?_
        refine zp 2 22 ?_
        refine zp 3 23 ?_
        refine zt 4 24 hHeld ?_
        refine zt 5 25 hHeld ?_
        refine zo 6 (some 26) (fun K hK => ?_)
        refine goesT_ Try.func62 (by kernel_rfl) rfl #[.agg #[.int .i64 ((rd_T25 l0 x6_1).f0), .int .i64 ((rd_T25 l0 x6_1).f1)], .agg #[.int .i64 x319000_1, .int .i64 x319001_1]] (by rfl) rfl rfl (by rfl) zM ?_
        with_reducible refine (impl_compareFractions.calls k1 ((rd_T25 l0 x6_1).f0) ((rd_T25 l0 x6_1).f1) x319000_1 x319001_1 t320 _ A11.out).mono ?_
        rintro e w14 ⟨rfl, hb⟩
        refine ⟨_, rfl, ?_⟩
        have n0_ := zbl BK316.out hb; have n1_ := zbl BK318.out hb; have n2_ := zQ (below_step (zB3 HB.out GE316.out GE318.out) hb); clear BK316; clear BK318; clear HB; have BK316 := n0_; have BK318 := n1_; have HB := n2_; clear n0_ n1_ n2_
        (try clear hb)
        (try clear hb2)
        (try clear hk)
        (try clear hi)
        refine hK.out _ _ ⟨(blk_cell BK318.out 0).trans rfl, (blk_cell BK318.out 1).trans rfl, ((HB.out.cell (World.block_lt_of_cell? w _ hw319_0)).trans hw319_0), ((HB.out.cell (World.block_lt_of_cell? w _ hw319_1)).trans hw319_1)⟩ (fun hHeld => ?_)
        clear hK K
        refine zn 26 ?_
        refine zp 7 27 ?_
        refine done_ (done_of HT_.out (by kernel_rfl)) ?_
        have p321 : 0 ≤ (x6_1 : Int) := zD; have q321 : x6_1 < (l0.length : Int) := zD; obtain ⟨ad321, e321, hx321_0, hx321_1⟩ := at_T25 HR0.out x6_1 p321 q321; obtain rfl : ad317 = ad321 := (by injection e321); replace hx321_0 := zw HB.out hx321_0; replace hx321_1 := zw HB.out hx321_1; replace p321 := eq_true p321; replace q321 := eq_true q321; have hnb15 := NB318_316.out; have hnc15 := NB316_318.out; obtain ⟨hcz16_0, hcz16_1, hfz16_0, hfz16_1⟩ := zy2 BK318.out
        try go_wp2
        go_roundg k1
        case measure => have := HK1.out; omega
        case rel => exact ⟨(wrap64 (x6_1 + 1)), ((rd_T25 l0 x6_1).f0), ((rd_T25 l0 x6_1).f1), (zF), H', ⟨by have := HK1.out; omega⟩, ⟨by refine zb ?_; refine blk_far ?_ NB316_318.out _; refine zb ?_; refine blk_far ?_ NB316_318.out _; refine zb ?_; exact BK316.out⟩, ⟨by refine zb ?_; refine blk_put (cs := #[.int .i64 ((rd_T25 l0 x6_1).f0), .int .i64 x319001_1]) ?_ 1 _ rfl; refine zb ?_; refine blk_put (cs := #[.int .i64 x319000_1, .int .i64 x319001_1]) ?_ 0 _ rfl; refine zb ?_; exact BK318.out⟩, ⟨zB3 HB.out GE316.out GE318.out⟩⟩
       ·rw [if_neg c12] at H
        have c12b0 := decide_eq_false c12; clear c12; have H' := zQ H; clear H
        try go_wp2
        have n0_ := zQ (blk_drew BK316.out); have n1_ := zQ (blk_drew BK318.out); have n2_ := zQ (below_drew1 HB.out); clear BK316; clear BK318; clear HB; have BK316 := n0_; have BK318 := n1_; have HB := n2_; clear n0_ n1_ n2_; have p319 : 0 ≤ (x6_1 : Int) := zD; have q319 : x6_1 < (l0.length : Int) := zD; obtain ⟨ad319, e319, hx319_0, hx319_1⟩ := at_T25 HR0.out x6_1 p319 q319; have hw319_1 := hx319_1; have hw319_0 := hx319_0; obtain rfl : ad317 = ad319 := (by injection e319); replace hx319_0 := zw HB.out hx319_0; replace hx319_1 := zw HB.out hx319_1; replace p319 := eq_true p319; replace q319 := eq_true q319
        refine zs (fun w' => w'.cell? ⟨gb318, 0, none⟩ = some (.int .i64 x319000_1) ∧ w'.cell? ⟨gb318, 1, none⟩ = some (.int .i64 x319001_1) ∧ w'.cell? (ad317.add ((x6_1).toNat * 2)) = some (.int .i64 ((rd_T25 l0 x6_1).f0)) ∧ w'.cell? ⟨(ad317.add ((x6_1).toNat * 2)).block, (ad317.add ((x6_1).toNat * 2)).off + 1, none⟩ = some (.int .i64 ((rd_T25 l0 x6_1).f1))) [] 8 ⟨(blk_cell BK318.out 0).trans rfl, (blk_cell BK318.out 1).trans rfl, ((HB.out.cell (World.block_lt_of_cell? w _ hw319_0)).trans hw319_0), ((HB.out.cell (World.block_lt_of_cell? w _ hw319_1)).trans hw319_1)⟩ (fun hHeld => ?_); refine with_tabW impl_Fraction_61.tab7 impl_Fraction_61.bits7 (fun HT_ HW_ => ?_)
        generalize wr.drew = w17 at BK316 BK318 HB hx319_0 hx319_1 hHeld ⊢
        refine zp 0 20 ?_
        refine zp 1 21 ?_
        refine zp 2 22 ?_
        refine zp 3 23 ?_
        refine zt 4 24 hHeld ?_
        refine zt 5 25 hHeld ?_
        refine zo 6 (some 26) (fun K hK => ?_)
        refine goesT_ Try.func62 (by kernel_rfl) rfl #[.agg #[.int .i64 ((rd_T25 l0 x6_1).f0), .int .i64 ((rd_T25 l0 x6_1).f1)], .agg #[.int .i64 x319000_1, .int .i64 x319001_1]] (by rfl) rfl rfl (by rfl) zM ?_
        with_reducible refine (impl_compareFractions.calls k1 ((rd_T25 l0 x6_1).f0) ((rd_T25 l0 x6_1).f1) x319000_1 x319001_1 t320 _ A11.out).mono ?_
        rintro e w18 ⟨rfl, hb⟩
        refine ⟨_, rfl, ?_⟩
        have n0_ := zbl BK316.out hb; have n1_ := zbl BK318.out hb; have n2_ := zQ (below_step (zB3 HB.out GE316.out GE318.out) hb); clear BK316; clear BK318; clear HB; have BK316 := n0_; have BK318 := n1_; have HB := n2_; clear n0_ n1_ n2_
        (try clear hb)
        (try clear hb2)
        (try clear hk)
        (try clear hi)
        refine hK.out _ _ ⟨(blk_cell BK318.out 0).trans rfl, (blk_cell BK318.out 1).trans rfl, ((HB.out.cell (World.block_lt_of_cell? w _ hw319_0)).trans hw319_0), ((HB.out.cell (World.block_lt_of_cell? w _ hw319_1)).trans hw319_1)⟩ (fun hHeld => ?_)
        clear hK K
        refine zn 26 ?_
        refine zp 7 27 ?_
        refine done_ (done_of HT_.out (by kernel_rfl)) ?_
        try go_wp2
        go_roundg k1
        case measure => have := HK1.out; omega
        case rel => exact ⟨(wrap64 (x6_1 + 1)), (x319000_1), (x319001_1), (zF), H', ⟨by have := HK1.out; omega⟩, ⟨zb BK316.out⟩, ⟨zb BK318.out⟩, ⟨zB3 HB.out GE316.out GE318.out⟩⟩
      ·rw [if_neg c10] at H
       exact absurd H (by simp)
     ·rw [if_neg c9] at H
      have c9b0 := decide_eq_false c9; clear c9
      simp only [Option.some.injEq, Prod.mk.injEq] at H
      obtain ⟨rfl, rfl⟩ := H; have hnb19 := NB318_316.out; have hnc19 := NB316_318.out; obtain ⟨hcz20_0, hcz20_1, hfz20_0, hfz20_1⟩ := zy2 BK318.out; obtain ⟨hcz21_0, hcz21_1, hfz21_0, hfz21_1⟩ := zy2 BK316.out
      go_wp2
      refine bodyPost_ret (results_cell_row rfl _ _ gb316 25 #[.int .i64 x319000_1, .int .i64 x319001_1] (0, 0) _ rfl (by refine zb ?_; refine blk_put (cs := #[.int .i64 x319000_1, .int .i64 0]) ?_ 1 _ rfl; refine zb ?_; refine blk_put (cs := #[.int .i64 0, .int .i64 0]) ?_ 0 _ rfl; refine zb ?_; exact BK316.out) Try.underlying25 rfl (by kernel_rfl)) rfl ?_
      exact ⟨zE, zB3 HB.out GE316.out GE318.out⟩
  ·rw [if_neg c4] at H
   exact absurd H (by simp)

def impl_Fraction_63.l0 : Nat → List (S25) → Int → Int → Int → Option (Int × Int)
 | 0, _, _, _, _ => none
 | k + 1, x0, x6, x325000, x325001 => if x6 < (x0.length : Int) then (if 0 ≤ x6 then ((impl_compareFractions.f k ((rd_T25 x0 x6).f0) ((rd_T25 x0 x6).f1) x325000 x325001).bind fun t326 => (if t326 > 0 then (impl_Fraction_63.l0 k x0 (wrap64 (x6 + 1)) ((rd_T25 x0 x6).f0) ((rd_T25 x0 x6).f1)) else (impl_Fraction_63.l0 k x0 (wrap64 (x6 + 1)) x325000 x325001))) else (none)) else (some (x325000, x325001))
def impl_Fraction_63.f (k : Nat) (l0 : List (S25))  : Option (Int × Int) := if (l0.length : Int) < 1 then (none) else (if 0 < (l0.length : Int) then (impl_Fraction_63.l0 k l0 1 ((rd_T25 l0 0).f0) ((rd_T25 l0 0).f1)) else (none))
def impl_Fraction_63.T7 : Bool × List (List Nat × List Nat) := (true, [([], []), ([], []), ([], []), ([1, 2], [1, 2]), ([3], [3]), ([], []), ([0, 4, 5], [0, 4, 5]), ([6], [6])])
def impl_Fraction_63.B7 : List Nat := [0, 0, 0, 6, 14, 0, 63, 127]
theorem impl_Fraction_63.tab7 : rtab .any (opsOf Try.f63 7) = impl_Fraction_63.T7 := by kernel_rfl
theorem impl_Fraction_63.bits7 : waitsOk impl_Fraction_63.T7.2 impl_Fraction_63.B7 = true := by kernel_rfl
theorem impl_Fraction_63.calls (k : Nat) (A0 : Option Addr) (c0 : Nat) (l0 : List (S25))  (r1 : Int) (r2 : Int) (w : World) (hr0 : Kd.C k25 w A0 l0.length l0) (hc0 : l0.length ≤ c0) (h : impl_Fraction_63.f k l0 = some (r1, r2)) :
  Calls Try.prog 63 #[.slice A0 l0.length c0, .func (.func 62) #[] #[]] w fun e w' => e = .returned (.agg #[.int .i64 r1, .int .i64 r2]) ∧ Below w.heap.size w w' := by
 have hu25 := Try.underlying25
 have HR0 := zQ hr0
 have HC0 := zQ hc0
 clear hr0 hc0
 have HB := zQ (Below.refl w.heap.size w)
 have H := h; unfold impl_Fraction_63.f at H
 clear h
 by_cases c3 : (l0.length : Int) < 1
 ·rw [if_pos c3] at H
  exact absurd H (by simp)
 ·rw [if_neg c3] at H
  have c3b0 := decide_eq_false c3; have c3b1 : decide (l0.length < 1) = false := decide_eq_false (by omega); clear c3
  by_cases c4 : 0 < (l0.length : Int)
  ·rw [if_pos c4] at H
   have c4b0 := decide_eq_true c4; have c4b1 : decide (0 < l0.length) = true := decide_eq_true (by omega); clear c4; have H' := zQ H; clear H
   go_enter Try.func63, Try.ntmps63
   go_wp2_with (first | ((with_reducible refine zd 4 ?_); refine zbx (N := 4) (cs := #[.int .i64 0, .int .i64 0]) (t := 25) ?_; intro gb322 hg w5 hbox hb; have BK322 := zQ (hbox); have GW322 := zgz hg HB.out; have GE322 := GW322; replace HB := zbs HB.out hb; clear hb hbox hg; have p323 : 0 ≤ (0 : Int) := (by omega); have q323 : 0 < (l0.length : Int) := zD; obtain ⟨ad323, e323, hx323_0, hx323_1⟩ := at_T25 HR0.out 0 p323 q323; cases e323; have qi323 : (0 < l0.length) = True := eq_true (by omega); (try rw [show ((0 : Int)).toNat = 0 from rfl] at hx323_0); (try rw [show 0 * 2 = 0 from rfl] at hx323_0); (try rw [Addr.add_zero'] at hx323_0); (try rw [show ((0 : Int)).toNat = 0 from rfl] at hx323_1); (try rw [show 0 * 2 = 0 from rfl] at hx323_1); (try rw [Addr.add_zero'] at hx323_1); replace hx323_0 := zw HB.out hx323_0; replace hx323_1 := zw HB.out hx323_1; replace p323 := eq_true p323; replace q323 := eq_true q323) | ((with_reducible refine zd 5 ?_); refine zbx (N := 5) (cs := #[.int .i64 0, .int .i64 0]) (t := 25) ?_; intro gb324 hg w6 hbox hb; have BK324 := zQ (hbox); have GW324 := zgz2 hg HB.out GE322.out; have GE324 := GW324; have NB322_324 := zn1 hg BK322.out; have NB324_322 := zn2 hg BK322.out; replace BK322 := zbl BK322.out hb; replace HB := zbs2 HB.out GE322.out hb; clear hb hbox hg; have hnb7 := NB324_322.out; have hnc7 := NB322_324.out; obtain ⟨hcz8_0, hcz8_1, hfz8_0, hfz8_1⟩ := zy2 BK324.out))
   go_loopg [6] k (fun kq v6 w' => ∃ (x6_1 : Int) (x325000_1 : Int) (x325001_1 : Int), v6 = .int .i64 x6_1 ∧ Aside0 (impl_Fraction_63.l0 kq l0 x6_1 x325000_1 x325001_1 = some (r1, r2)) ∧ Aside0 (kq ≤ k) ∧ Aside0 (w'.heap[gb322]? = some (.cells #[.int .i64 0, .int .i64 0] 25 (0, 0))) ∧ Aside0 (w'.heap[gb324]? = some (.cells #[.int .i64 x325000_1, .int .i64 x325001_1] 25 (0, 0))) ∧ Aside0 (Below w.heap.size w w'))
   case atStart => exact ⟨(1), ((rd_T25 l0 0).f0), ((rd_T25 l0 0).f1), (zF), H', ⟨Nat.le_refl _⟩, ⟨by refine zb ?_; refine blk_far ?_ NB322_324.out _; refine zb ?_; refine blk_far ?_ NB322_324.out _; refine zb ?_; exact BK322.out⟩, ⟨by refine zb ?_; refine blk_put (cs := #[.int .i64 ((rd_T25 l0 0).f0), .int .i64 0]) ?_ 1 _ rfl; refine zb ?_; refine blk_put (cs := #[.int .i64 0, .int .i64 0]) ?_ 0 _ rfl; refine zb ?_; exact BK324.out⟩, ⟨zB3 HB.out GE322.out GE324.out⟩⟩
   case round =>
    clear H'; (try clear p2); (try clear c3); (try clear c3b0); (try clear c3b1); (try clear p3); (try clear q3); (try clear hx3); (try clear qi3); (try clear c4); (try clear c4b0); (try clear c4b1); (try clear c6); (try clear c7); (try clear hcz8_0 hcz8_1 hfz8_0 hfz8_1); (try clear hx323_0); (try clear hx323_1); (try clear p323); (try clear q323); obtain ⟨x6_1, x325000_1, x325001_1, rfl, HA, HK1, BK322, BK324, HB⟩ := hrel
    cases gk with
    | zero => exact absurd HA.out (by simp [impl_Fraction_63.l0])
    | succ k1 =>
     have H := HA.out; clear HA
     simp only [impl_Fraction_63.l0] at H
     by_cases c9 : x6_1 < (l0.length : Int)
     ·rw [if_pos c9] at H
      have c9b0 := decide_eq_true c9; clear c9
      by_cases c10 : 0 ≤ x6_1
      ·rw [if_pos c10] at H
       have c10b0 := decide_eq_true c10; clear c10; replace H := zob H; obtain ⟨t326, A11, H⟩ := H
       by_cases c12 : t326 > 0
       ·rw [if_pos c12] at H
        have c12b0 := decide_eq_true c12; clear c12; have H' := zQ H; clear H
        try go_wp2
        have n0_ := zQ (blk_drew BK322.out); have n1_ := zQ (blk_drew BK324.out); have n2_ := zQ (below_drew1 HB.out); clear BK322; clear BK324; clear HB; have BK322 := n0_; have BK324 := n1_; have HB := n2_; clear n0_ n1_ n2_; have p325 : 0 ≤ (x6_1 : Int) := zD; have q325 : x6_1 < (l0.length : Int) := zD; obtain ⟨ad325, e325, hx325_0, hx325_1⟩ := at_T25 HR0.out x6_1 p325 q325; have hw325_1 := hx325_1; have hw325_0 := hx325_0; obtain rfl : ad323 = ad325 := (by injection e325); replace hx325_0 := zw HB.out hx325_0; replace hx325_1 := zw HB.out hx325_1; replace p325 := eq_true p325; replace q325 := eq_true q325
        refine zs (fun w' => w'.cell? ⟨gb324, 0, none⟩ = some (.int .i64 x325000_1) ∧ w'.cell? ⟨gb324, 1, none⟩ = some (.int .i64 x325001_1) ∧ w'.cell? (ad323.add ((x6_1).toNat * 2)) = some (.int .i64 ((rd_T25 l0 x6_1).f0)) ∧ w'.cell? ⟨(ad323.add ((x6_1).toNat * 2)).block, (ad323.add ((x6_1).toNat * 2)).off + 1, none⟩ = some (.int .i64 ((rd_T25 l0 x6_1).f1))) [] 8 ⟨(blk_cell BK324.out 0).trans rfl, (blk_cell BK324.out 1).trans rfl, ((HB.out.cell (World.block_lt_of_cell? w _ hw325_0)).trans hw325_0), ((HB.out.cell (World.block_lt_of_cell? w _ hw325_1)).trans hw325_1)⟩ (fun hHeld => ?_); refine with_tabW impl_Fraction_63.tab7 impl_Fraction_63.bits7 (fun HT_ HW_ => ?_)
        generalize wr.drew = w13 at BK322 BK324 HB hx325_0 hx325_1 hHeld ⊢
        refine zp 0 20 ?_
        refine zp 1 21 ?_
        refine zp 2 22 ?_
        refine zp 3 23 ?_
        refine zt 4 24 hHeld ?_
        refine zt 5 25 hHeld ?_
        refine zo 6 (some 26) (fun K hK => ?_)
        refine goesT_ Try.func62 (by kernel_rfl) rfl #[.agg #[.int .i64 ((rd_T25 l0 x6_1).f0), .int .i64 ((rd_T25 l0 x6_1).f1)], .agg #[.int .i64 x325000_1, .int .i64 x325001_1]] (by rfl) rfl rfl (by rfl) zM ?_
        with_reducible refine (impl_compareFractions.calls k1 ((rd_T25 l0 x6_1).f0) ((rd_T25 l0 x6_1).f1) x325000_1 x325001_1 t326 _ A11.out).mono ?_
        rintro e w14 ⟨rfl, hb⟩
        refine ⟨_, rfl, ?_⟩
        have n0_ := zbl BK322.out hb; have n1_ := zbl BK324.out hb; have n2_ := zQ (below_step (zB3 HB.out GE322.out GE324.out) hb); clear BK322; clear BK324; clear HB; have BK322 := n0_; have BK324 := n1_; have HB := n2_; clear n0_ n1_ n2_
        (try clear hb)
        (try clear hb2)
        (try clear hk)
        (try clear hi)
        refine hK.out _ _ ⟨(blk_cell BK324.out 0).trans rfl, (blk_cell BK324.out 1).trans rfl, ((HB.out.cell (World.block_lt_of_cell? w _ hw325_0)).trans hw325_0), ((HB.out.cell (World.block_lt_of_cell? w _ hw325_1)).trans hw325_1)⟩ (fun hHeld => ?_)
        clear hK K
        refine zn 26 ?_
        refine zp 7 27 ?_
        refine done_ (done_of HT_.out (by kernel_rfl)) ?_
        have p327 : 0 ≤ (x6_1 : Int) := zD; have q327 : x6_1 < (l0.length : Int) := zD; obtain ⟨ad327, e327, hx327_0, hx327_1⟩ := at_T25 HR0.out x6_1 p327 q327; obtain rfl : ad323 = ad327 := (by injection e327); replace hx327_0 := zw HB.out hx327_0; replace hx327_1 := zw HB.out hx327_1; replace p327 := eq_true p327; replace q327 := eq_true q327; have hnb15 := NB324_322.out; have hnc15 := NB322_324.out; obtain ⟨hcz16_0, hcz16_1, hfz16_0, hfz16_1⟩ := zy2 BK324.out
        try go_wp2
        go_roundg k1
        case measure => have := HK1.out; omega
        case rel => exact ⟨(wrap64 (x6_1 + 1)), ((rd_T25 l0 x6_1).f0), ((rd_T25 l0 x6_1).f1), (zF), H', ⟨by have := HK1.out; omega⟩, ⟨by refine zb ?_; refine blk_far ?_ NB322_324.out _; refine zb ?_; refine blk_far ?_ NB322_324.out _; refine zb ?_; exact BK322.out⟩, ⟨by refine zb ?_; refine blk_put (cs := #[.int .i64 ((rd_T25 l0 x6_1).f0), .int .i64 x325001_1]) ?_ 1 _ rfl; refine zb ?_; refine blk_put (cs := #[.int .i64 x325000_1, .int .i64 x325001_1]) ?_ 0 _ rfl; refine zb ?_; exact BK324.out⟩, ⟨zB3 HB.out GE322.out GE324.out⟩⟩
       ·rw [if_neg c12] at H
        have c12b0 := decide_eq_false c12; clear c12; have H' := zQ H; clear H
        try go_wp2
        have n0_ := zQ (blk_drew BK322.out); have n1_ := zQ (blk_drew BK324.out); have n2_ := zQ (below_drew1 HB.out); clear BK322; clear BK324; clear HB; have BK322 := n0_; have BK324 := n1_; have HB := n2_; clear n0_ n1_ n2_; have p325 : 0 ≤ (x6_1 : Int) := zD; have q325 : x6_1 < (l0.length : Int) := zD; obtain ⟨ad325, e325, hx325_0, hx325_1⟩ := at_T25 HR0.out x6_1 p325 q325; have hw325_1 := hx325_1; have hw325_0 := hx325_0; obtain rfl : ad323 = ad325 := (by injection e325); replace hx325_0 := zw HB.out hx325_0; replace hx325_1 := zw HB.out hx325_1; replace p325 := eq_true p325; replace q325 := eq_true q325
        refine zs (fun w' => w'.cell? ⟨gb324, 0, none⟩ = some (.int .i64 x325000_1) ∧ w'.cell? ⟨gb324, 1, none⟩ = some (.int .i64 x325001_1) ∧ w'.cell? (ad323.add ((x6_1).toNat * 2)) = some (.int .i64 ((rd_T25 l0 x6_1).f0)) ∧ w'.cell? ⟨(ad323.add ((x6_1).toNat * 2)).block, (ad323.add ((x6_1).toNat * 2)).off + 1, none⟩ = some (.int .i64 ((rd_T25 l0 x6_1).f1))) [] 8 ⟨(blk_cell BK324.out 0).trans rfl, (blk_cell BK324.out 1).trans rfl, ((HB.out.cell (World.block_lt_of_cell? w _ hw325_0)).trans hw325_0), ((HB.out.cell (World.block_lt_of_cell? w _ hw325_1)).trans hw325_1)⟩ (fun hHeld => ?_); refine with_tabW impl_Fraction_63.tab7 impl_Fraction_63.bits7 (fun HT_ HW_ => ?_)
        generalize wr.drew = w17 at BK322 BK324 HB hx325_0 hx325_1 hHeld ⊢
        refine zp 0 20 ?_
        refine zp 1 21 ?_
        refine zp 2 22 ?_
        refine zp 3 23 ?_
        refine zt 4 24 hHeld ?_
        refine zt 5 25 hHeld ?_
        refine zo 6 (some 26) (fun K hK => ?_)
        refine goesT_ Try.func62 (by kernel_rfl) rfl #[.agg #[.int .i64 ((rd_T25 l0 x6_1).f0), .int .i64 ((rd_T25 l0 x6_1).f1)], .agg #[.int .i64 x325000_1, .int .i64 x325001_1]] (by rfl) rfl rfl (by rfl) zM ?_
        with_reducible refine (impl_compareFractions.calls k1 ((rd_T25 l0 x6_1).f0) ((rd_T25 l0 x6_1).f1) x325000_1 x325001_1 t326 _ A11.out).mono ?_
        rintro e w18 ⟨rfl, hb⟩
        refine ⟨_, rfl, ?_⟩
        have n0_ := zbl BK322.out hb; have n1_ := zbl BK324.out hb; have n2_ := zQ (below_step (zB3 HB.out GE322.out GE324.out) hb); clear BK322; clear BK324; clear HB; have BK322 := n0_; have BK324 := n1_; have HB := n2_; clear n0_ n1_ n2_
        (try clear hb)
        (try clear hb2)
        (try clear hk)
        (try clear hi)
        refine hK.out _ _ ⟨(blk_cell BK324.out 0).trans rfl, (blk_cell BK324.out 1).trans rfl, ((HB.out.cell (World.block_lt_of_cell? w _ hw325_0)).trans hw325_0), ((HB.out.cell (World.block_lt_of_cell? w _ hw325_1)).trans hw325_1)⟩ (fun hHeld => ?_)
        clear hK K
        refine zn 26 ?_
        refine zp 7 27 ?_
        refine done_ (done_of HT_.out (by kernel_rfl)) ?_
        try go_wp2
        go_roundg k1
        case measure => have := HK1.out; omega
        case rel => exact ⟨(wrap64 (x6_1 + 1)), (x325000_1), (x325001_1), (zF), H', ⟨by have := HK1.out; omega⟩, ⟨zb BK322.out⟩, ⟨zb BK324.out⟩, ⟨zB3 HB.out GE322.out GE324.out⟩⟩
      ·rw [if_neg c10] at H
       exact absurd H (by simp)
     ·rw [if_neg c9] at H
      have c9b0 := decide_eq_false c9; clear c9
      simp only [Option.some.injEq, Prod.mk.injEq] at H
      obtain ⟨rfl, rfl⟩ := H; have hnb19 := NB324_322.out; have hnc19 := NB322_324.out; obtain ⟨hcz20_0, hcz20_1, hfz20_0, hfz20_1⟩ := zy2 BK324.out; obtain ⟨hcz21_0, hcz21_1, hfz21_0, hfz21_1⟩ := zy2 BK322.out
      go_wp2
      refine bodyPost_ret (results_cell_row rfl _ _ gb322 25 #[.int .i64 x325000_1, .int .i64 x325001_1] (0, 0) _ rfl (by refine zb ?_; refine blk_put (cs := #[.int .i64 x325000_1, .int .i64 0]) ?_ 1 _ rfl; refine zb ?_; refine blk_put (cs := #[.int .i64 0, .int .i64 0]) ?_ 0 _ rfl; refine zb ?_; exact BK322.out) Try.underlying25 rfl (by kernel_rfl)) rfl ?_
      exact ⟨zE, zB3 HB.out GE322.out GE324.out⟩
  ·rw [if_neg c4] at H
   exact absurd H (by simp)

end
end Go.Proofs.Ytcomncokgkeniaa.PSailw

