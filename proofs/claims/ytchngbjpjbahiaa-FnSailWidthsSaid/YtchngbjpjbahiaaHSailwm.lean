import Derived.Test.YtchngbjpjbahiaaHSailw0
import Derived.Test.YtchngbjpjbahiaaHSailwl
namespace Go.Proofs.Ytchngbjpjbahiaa.PSailw
noncomputable section
open Go.RowKit Go.Proofs.YtchngbjpjbahiaaW.PrintWords Go.Proofs.YtchngbjpjbahiaaW.PrintLast Go.Proofs.YtchngbjpjbahiaaW.PrintMore
attribute [local go_sem] max2_int min2_int max_two min_two max_three min_three max_four min_four   -- for this text's walks alone
set_option linter.unusedVariables false
set_option linter.unusedSimpArgs false
set_option maxHeartbeats 8000000
set_option maxRecDepth 100000

def impl_fraction.f (k : Nat) (a0 : Int) (a1 : Int) : Option (Int × Int) := if a1 < 0 then ((impl_gcd.f k (wrap64 (-a0)) (wrap64 (-a1))).bind fun qA => (if qA = 0 then (none) else (some (wrap64 (Int.tdiv (wrap64 (-a0)) qA), wrap64 (Int.tdiv (wrap64 (-a1)) qA))))) else ((impl_gcd.f k a0 a1).bind fun pA => (if pA = 0 then (none) else (some (wrap64 (Int.tdiv a0 pA), wrap64 (Int.tdiv a1 pA)))))
def impl_fraction.T4 : Bool × List (List Nat × List Nat) := (true, [([], []), ([], []), ([0, 1], [0, 1]), ([], []), ([], []), ([3, 4], [3, 4]), ([2, 5], [2, 5]), ([6, 0, 1, 2, 3, 4, 5, 6], [6])])
def impl_fraction.B4 : List Nat := [0, 0, 3, 0, 0, 24, 63, 127]
theorem impl_fraction.tab4 : rtab .any (opsOf Try.f59 4) = impl_fraction.T4 := by kernel_rfl
theorem impl_fraction.bits4 : waitsOk impl_fraction.T4.2 impl_fraction.B4 = true := by kernel_rfl
theorem impl_fraction.calls (k : Nat) (a0 : Int) (a1 : Int) (r1 : Int) (r2 : Int) (w : World) (h : impl_fraction.f k a0 a1 = some (r1, r2)) :
  Calls Try.prog 59 #[.int .i64 a0, .int .i64 a1] w fun e w' => e = .returned (.agg #[.int .i64 r1, .int .i64 r2]) ∧ Below w.heap.size w w' := by
 have AB := Try.underlying25
 have HB := zQ (Below.refl w.heap.size w)
 have H := h; unfold impl_fraction.f at H
 clear h
 by_cases c3 : a1 < 0
 ·rw [if_pos c3] at H
  have eB := decide_eq_true c3; clear c3; replace H := zob H; obtain ⟨qA, A4, H⟩ := H
  by_cases c5 : qA = 0
  ·rw [if_pos c5] at H
   exact absurd H (by simp)
  ·rw [if_neg c5] at H
   have dB : (qA == 0) = false := beq_eq_false_iff_ne.mpr c5; have cB : (qA != 0) = true := bne_iff_ne.mpr c5
   simp only [Option.some.injEq, Prod.mk.injEq] at H
   obtain ⟨rfl, rfl⟩ := H
   go_enter Try.func59, Try.ntmps59
   try go_wp2_with (first | ((with_reducible refine zd 4 ?_); refine zbx (N := 4) (cs := #[.int .i64 0, .int .i64 0]) (t := 25) ?_; intro lA hg w6 kA hb; have aA := zQ (kA); have GA := zgz hg HB.out; have uA := GA; replace HB := zbs HB.out hb; clear hb kA hg) | ((with_reducible refine zgc 72 ?_); refine zgo (some 14) Try.func72 #[.int .i64 (wrap64 (-a0)), .int .i64 (wrap64 (-a1))] ?_; (with_reducible refine (impl_gcd.calls k (wrap64 (-a0)) (wrap64 (-a1)) qA _ A4.out).mono ?_); rintro e w' ⟨rfl, ⟨nd, rfl⟩⟩; refine ⟨_, rfl, ?_⟩; (try (rw [drewN_self w6]; generalize hq_ : World.drewN w6 _ = w6; have n0_ : Aside0 (w6.heap[lA]? = some (.cells #[.int .i64 0, .int .i64 0] 25 (0, 0))) := ⟨by rw [← hq_]; exact (zb aA.out)⟩; have n1_ : Aside0 (Below w.heap.size w w6) := ⟨by rw [← hq_]; exact (zB2 HB.out uA.out)⟩; clear aA HB hq_; have aA := n0_; have HB := n1_; clear n0_ n1_)); (try (have hczrw6_gb268_0 := zc0 aA.out)); (try (have hfzrw6_gb268_0 := zfz aA.out 0)); (try (have hczrw6_gb268_1 := zc1 aA.out)); (try (have hfzrw6_gb268_1 := zfz aA.out 1))))
   have n0_ := zQ (blk_drew aA.out); have n1_ := zQ (below_drew1 HB.out); clear aA; clear HB; have aA := n0_; have HB := n1_; clear n0_ n1_
   refine zs (fun w' => True) [] 8 trivial (fun dA => ?_); refine with_tabW impl_fraction.tab4 impl_fraction.bits4 (fun HT_ HW_ => ?_)
   generalize w6.drew = w7 at aA HB dA ⊢
   refine zp 0 15 ?_
   refine zp 1 16 ?_
   refine zp 2 17 ?_
   refine zp 3 18 ?_
   refine zp 4 19 ?_
   refine zp 5 20 ?_
   refine zp 6 21 ?_
   refine zo 7 none (fun K hK => ?_)
   have mC : w7.cell? ⟨lA, 0, none⟩ = some (.int .i64 0) := (blk_cell aA.out 0).trans rfl; have gC := zfz aA.out 0; have lC : w7.cell? ⟨lA, 1, none⟩ = some (.int .i64 0) := (blk_cell aA.out 1).trans rfl; have fC := zfz aA.out 1
   refine skip_ (w1 := ?_) (by rfl) rfl ?_ ?_
   rotate_left
   ·go_simp
    rfl
   refine hK.out _ _ trivial (fun dA => ?_)
   clear hK K
   refine done_ (done_of HT_.out (by kernel_rfl)) ?_
   try go_wp2
   refine bodyPost_ret (results_cell_row rfl _ _ lA 25 #[.int .i64 (wrap64 (Int.tdiv (wrap64 (-a0)) qA)), .int .i64 (wrap64 (Int.tdiv (wrap64 (-a1)) qA))] (0, 0) _ rfl (by refine zb ?_; refine blk_put (cs := #[.int .i64 (wrap64 (Int.tdiv (wrap64 (-a0)) qA)), .int .i64 0]) ?_ 1 _ rfl; refine zb ?_; refine blk_put (cs := #[.int .i64 0, .int .i64 0]) ?_ 0 _ rfl; refine zb ?_; exact aA.out) Try.underlying25 rfl (by kernel_rfl)) rfl ?_
   exact ⟨zE, zB2 HB.out uA.out⟩
 ·rw [if_neg c3] at H
  have eB := decide_eq_false c3; clear c3; replace H := zob H; obtain ⟨pA, iC, H⟩ := H
  by_cases yB : pA = 0
  ·rw [if_pos yB] at H
   exact absurd H (by simp)
  ·rw [if_neg yB] at H
   have UB : (pA == 0) = false := beq_eq_false_iff_ne.mpr yB; have TB : (pA != 0) = true := bne_iff_ne.mpr yB
   simp only [Option.some.injEq, Prod.mk.injEq] at H
   obtain ⟨rfl, rfl⟩ := H
   go_enter Try.func59, Try.ntmps59
   try go_wp2_with (first | ((with_reducible refine zd 4 ?_); refine zbx (N := 4) (cs := #[.int .i64 0, .int .i64 0]) (t := 25) ?_; intro lA hg aB kA hb; have aA := zQ (kA); have GA := zgz hg HB.out; have uA := GA; replace HB := zbs HB.out hb; clear hb kA hg) | ((with_reducible refine zgc 72 ?_); refine zgo (some 14) Try.func72 #[.int .i64 a0, .int .i64 a1] ?_; (with_reducible refine (impl_gcd.calls k a0 a1 pA _ iC.out).mono ?_); rintro e w' ⟨rfl, ⟨nd, rfl⟩⟩; refine ⟨_, rfl, ?_⟩; (try (rw [drewN_self aB]; generalize hq_ : World.drewN aB _ = aB; have n0_ : Aside0 (aB.heap[lA]? = some (.cells #[.int .i64 0, .int .i64 0] 25 (0, 0))) := ⟨by rw [← hq_]; exact (zb aA.out)⟩; have n1_ : Aside0 (Below w.heap.size w aB) := ⟨by rw [← hq_]; exact (zB2 HB.out uA.out)⟩; clear aA HB hq_; have aA := n0_; have HB := n1_; clear n0_ n1_)); (try (have hczrw12_gb268_0 := zc0 aA.out)); (try (have hfzrw12_gb268_0 := zfz aA.out 0)); (try (have hczrw12_gb268_1 := zc1 aA.out)); (try (have hfzrw12_gb268_1 := zfz aA.out 1))))
   have n0_ := zQ (blk_drew aA.out); have n1_ := zQ (below_drew1 HB.out); clear aA; clear HB; have aA := n0_; have HB := n1_; clear n0_ n1_
   refine zs (fun w' => True) [] 8 trivial (fun dA => ?_); refine with_tabW impl_fraction.tab4 impl_fraction.bits4 (fun HT_ HW_ => ?_)
   generalize aB.drew = IB at aA HB dA ⊢
   refine zp 0 15 ?_
   refine zp 1 16 ?_
   refine zp 2 17 ?_
   refine zp 3 18 ?_
   refine zp 4 19 ?_
   refine zp 5 20 ?_
   refine zp 6 21 ?_
   refine zo 7 none (fun K hK => ?_)
   have cC : IB.cell? ⟨lA, 0, none⟩ = some (.int .i64 0) := (blk_cell aA.out 0).trans rfl; have RB := zfz aA.out 0; have bC : IB.cell? ⟨lA, 1, none⟩ = some (.int .i64 0) := (blk_cell aA.out 1).trans rfl; have QB := zfz aA.out 1
   refine skip_ (w1 := ?_) (by rfl) rfl ?_ ?_
   rotate_left
   ·go_simp
    rfl
   refine hK.out _ _ trivial (fun dA => ?_)
   clear hK K
   refine done_ (done_of HT_.out (by kernel_rfl)) ?_
   try go_wp2
   refine bodyPost_ret (results_cell_row rfl _ _ lA 25 #[.int .i64 (wrap64 (Int.tdiv a0 pA)), .int .i64 (wrap64 (Int.tdiv a1 pA))] (0, 0) _ rfl (by refine zb ?_; refine blk_put (cs := #[.int .i64 (wrap64 (Int.tdiv a0 pA)), .int .i64 0]) ?_ 1 _ rfl; refine zb ?_; refine blk_put (cs := #[.int .i64 0, .int .i64 0]) ?_ 0 _ rfl; refine zb ?_; exact aA.out) Try.underlying25 rfl (by kernel_rfl)) rfl ?_
   exact ⟨zE, zB2 HB.out uA.out⟩

def impl_addFractions.f (k : Nat) (a0_0 : Int) (a0_1 : Int) (a1_0 : Int) (a1_1 : Int) : Option (Int × Int) := (impl_gcd.f k a0_1 a1_1).bind fun jA => (if jA = 0 then (none) else ((impl_fraction.f k (wrap64 ((wrap64 (a0_0 * (wrap64 (Int.tdiv a1_1 jA)))) + (wrap64 (a1_0 * (wrap64 (Int.tdiv a0_1 jA)))))) (wrap64 ((wrap64 (Int.tdiv a0_1 jA)) * a1_1))).bind fun NA => (some (NA.1, NA.2))))
def impl_addFractions.T2 : Bool × List (List Nat × List Nat) := (true, [([], []), ([0], [0]), ([], []), ([2], [2]), ([], []), ([3, 4], [3, 4]), ([1, 5], [1, 5]), ([], []), ([7], [7]), ([], []), ([9], [9]), ([], []), ([10, 11], [10, 11]), ([8, 12], [8, 12]), ([6, 13], [6, 13]), ([], []), ([15], [15]), ([], []), ([16, 17], [16, 17]), ([], []), ([19], [19]), ([18, 20], [18, 20]), ([14, 21], [14, 21]), ([22, 22, 0, 1, 2, 3, 4, 5, 6, 7, 8, 9, 10, 11, 12, 13, 14, 15, 16, 17, 18, 19, 20, 21, 22], [22])])
def impl_addFractions.B2 : List Nat := [0, 1, 0, 4, 0, 28, 63, 0, 128, 0, 512, 0, 3584, 8064, 16383, 0, 32768, 0, 229376, 0, 524288, 2064384, 4194303, 8388607]
theorem impl_addFractions.tab2 : rtab .any (opsOf Try.f60 2) = impl_addFractions.T2 := by kernel_rfl
theorem impl_addFractions.bits2 : waitsOk impl_addFractions.T2.2 impl_addFractions.B2 = true := by kernel_rfl
theorem impl_addFractions.calls (k : Nat) (a0_0 : Int) (a0_1 : Int) (a1_0 : Int) (a1_1 : Int) (r1 : Int) (r2 : Int) (w : World) (h : impl_addFractions.f k a0_0 a0_1 a1_0 a1_1 = some (r1, r2)) :
  Calls Try.prog 60 #[.agg #[.int .i64 a0_0, .int .i64 a0_1], .agg #[.int .i64 a1_0, .int .i64 a1_1]] w fun e w' => e = .returned (.agg #[.int .i64 r1, .int .i64 r2]) ∧ Below w.heap.size w w' := by
 have AB := Try.underlying25
 have HB := zQ (Below.refl w.heap.size w)
 have H := h; unfold impl_addFractions.f at H
 clear h
 replace H := zob H; obtain ⟨jA, A3, H⟩ := H
 by_cases c4 : jA = 0
 ·rw [if_pos c4] at H
  exact absurd H (by simp)
 ·rw [if_neg c4] at H
  have DB : (jA == 0) = false := beq_eq_false_iff_ne.mpr c4; have hC : (jA != 0) = true := bne_iff_ne.mpr c4; replace H := zob H; obtain ⟨⟨WA, bB⟩, A5, H⟩ := H
  simp only [Option.some.injEq, Prod.mk.injEq] at H
  obtain ⟨rfl, rfl⟩ := H
  go_enter Try.func60, Try.ntmps60
  try go_wp2_with (first | ((with_reducible refine zd 2 ?_); refine zbx (N := 2) (cs := #[.int .i64 a0_0, .int .i64 a0_1]) (t := 25) ?_; intro EA hg w6 kA hb; have bA := zQ (kA); have hB := zgz hg HB.out; have oA := hB; replace HB := zbs HB.out hb; clear hb kA hg) | ((with_reducible refine zd 3 ?_); refine zbx (N := 3) (cs := #[.int .i64 a1_0, .int .i64 a1_1]) (t := 25) ?_; intro DA hg w7 kA hb; have cA := zQ (kA); have gB := zgz2 hg HB.out oA.out; have rA := gB; have yA := zn1 hg bA.out; have xA := zn2 hg bA.out; replace bA := zbl bA.out hb; replace HB := zbs2 HB.out oA.out hb; clear hb kA hg) | ((with_reducible refine zd 4 ?_); refine zbx (N := 4) (cs := #[.int .i64 0, .int .i64 0]) (t := 25) ?_; intro hA hg w8 kA hb; have eA := zQ (kA); have XB := zQ ((by rw [hg]; exact (below_size (zB3 HB.out oA.out rA.out)) : w.heap.size ≤ hA)); have IA := zQ ((by rw [hg]; exact (below_size (zB3 HB.out oA.out rA.out)) : w.heap.size ≤ hA)); have gA := zn1 hg bA.out; have nA := zn2 hg bA.out; have fA := zn1 hg cA.out; have mA := zn2 hg cA.out; replace bA := zbl bA.out hb; replace cA := zbl cA.out hb; replace HB := zQ (below_step (zB3 HB.out oA.out rA.out) hb); clear hb kA hg; have eC := yA.out; have dC := xA.out; have NB := gA.out; have LB := nA.out; obtain ⟨xB, wB, tB, sB⟩ := zy2 bA.out; have MB := fA.out; have KB := mA.out; obtain ⟨vB, uB, rB, qB⟩ := zy2 cA.out) | ((with_reducible refine zgc 72 ?_); refine zgo (some 10) Try.func72 #[.int .i64 a0_1, .int .i64 a1_1] ?_; (with_reducible refine (impl_gcd.calls k a0_1 a1_1 jA _ A3.out).mono ?_); rintro e w' ⟨rfl, ⟨nd, rfl⟩⟩; refine ⟨_, rfl, ?_⟩; (try (rw [drewN_self w8]; generalize hq_ : World.drewN w8 _ = w8; have n0_ : Aside0 (w8.heap[EA]? = some (.cells #[.int .i64 a0_0, .int .i64 a0_1] 25 (0, 0))) := ⟨by rw [← hq_]; exact (zb bA.out)⟩; have n1_ : Aside0 (w8.heap[DA]? = some (.cells #[.int .i64 a1_0, .int .i64 a1_1] 25 (0, 0))) := ⟨by rw [← hq_]; exact (zb cA.out)⟩; have n2_ : Aside0 (w8.heap[hA]? = some (.cells #[.int .i64 0, .int .i64 0] 25 (0, 0))) := ⟨by rw [← hq_]; exact (zb eA.out)⟩; have n3_ : Aside0 (Below w.heap.size w w8) := ⟨by rw [← hq_]; exact (by repeat (first | (with_reducible first | exact HB.out | apply below_alloc | apply pw_below_drewN | apply below_drew1 | refine below_set ?_ oA.out | refine below_set ?_ rA.out | refine below_set ?_ IA.out) | exact HB.out))⟩; clear bA cA eA HB hq_; have bA := n0_; have cA := n1_; have eA := n2_; have HB := n3_; clear n0_ n1_ n2_ n3_)); (try (have hczrw8_gb271_0 := zc0 bA.out)); (try (have hfzrw8_gb271_0 := zfz bA.out 0)); (try (have hczrw8_gb271_1 := zc1 bA.out)); (try (have hfzrw8_gb271_1 := zfz bA.out 1)); (try (have hczrw8_gb272_0 := zc0 cA.out)); (try (have hfzrw8_gb272_0 := zfz cA.out 0)); (try (have hczrw8_gb272_1 := zc1 cA.out)); (try (have hfzrw8_gb272_1 := zfz cA.out 1)); (try (have hczrw8_gb273_0 := zc0 eA.out)); (try (have hfzrw8_gb273_0 := zfz eA.out 0)); (try (have hczrw8_gb273_1 := zc1 eA.out)); (try (have hfzrw8_gb273_1 := zfz eA.out 1))))
  have n0_ := zQ (blk_drew bA.out); have n1_ := zQ (blk_drew cA.out); have n2_ := zQ (blk_drew eA.out); have n3_ := zQ (below_drew1 HB.out); clear bA; clear cA; clear eA; clear HB; have bA := n0_; have cA := n1_; have eA := n2_; have HB := n3_; clear n0_ n1_ n2_ n3_
  refine zs (fun w' => w'.cell? ⟨EA, 0, none⟩ = some (.int .i64 a0_0) ∧ w'.cell? ⟨EA, 1, none⟩ = some (.int .i64 a0_1) ∧ w'.cell? ⟨DA, 0, none⟩ = some (.int .i64 a1_0) ∧ w'.cell? ⟨DA, 1, none⟩ = some (.int .i64 a1_1)) [] 24 ⟨(blk_cell bA.out 0).trans rfl, (blk_cell bA.out 1).trans rfl, (blk_cell cA.out 0).trans rfl, (blk_cell cA.out 1).trans rfl⟩ (fun dA => ?_); refine with_tabW impl_addFractions.tab2 impl_addFractions.bits2 (fun HT_ HW_ => ?_)
  generalize w8.drew = jC at bA cA eA HB dA ⊢
  refine zp 0 11 ?_
  refine zp 2 13 ?_
  refine zp 4 15 ?_
  refine zp 7 18 ?_
  refine zp 9 20 ?_
  refine zp 11 22 ?_
  refine zp 15 26 ?_
  refine zp 17 28 ?_
  refine zp 19 30 ?_
  refine zt 1 12 dA ?_
  refine zt 3 14 dA ?_
  refine zp 5 16 ?_
  refine zp 6 17 ?_
  refine zt 8 19 dA ?_
  refine zt 10 21 dA ?_
  refine zp 12 23 ?_
  refine zp 13 24 ?_
  refine zp 14 25 ?_
  refine zt 16 27 dA ?_
  refine zp 18 29 ?_
  refine zt 20 31 dA ?_
  refine zp 21 32 ?_
  refine zo 22 (some 33) (fun K hK => ?_)
  refine goes_ Try.func59 (by kernel_rfl) rfl #[.int .i64 (wrap64 ((wrap64 (a0_0 * (wrap64 (Int.tdiv a1_1 jA)))) + (wrap64 (a1_0 * (wrap64 (Int.tdiv a0_1 jA)))))), .int .i64 (wrap64 ((wrap64 (Int.tdiv a0_1 jA)) * a1_1))] (by rfl) rfl rfl zM ?_
  with_reducible refine (impl_fraction.calls k (wrap64 ((wrap64 (a0_0 * (wrap64 (Int.tdiv a1_1 jA)))) + (wrap64 (a1_0 * (wrap64 (Int.tdiv a0_1 jA)))))) (wrap64 ((wrap64 (Int.tdiv a0_1 jA)) * a1_1)) WA bB _ A5.out).mono ?_
  rintro e GB ⟨rfl, hb⟩
  refine ⟨_, rfl, ?_⟩
  have n0_ := zbl bA.out hb; have n1_ := zbl cA.out hb; have n2_ := zbl eA.out hb; have n3_ := zQ (below_step (by repeat (first | (with_reducible first | exact HB.out | apply below_alloc | apply pw_below_drewN | apply below_drew1 | refine below_set ?_ oA.out | refine below_set ?_ rA.out | refine below_set ?_ IA.out) | exact HB.out)) hb); clear bA; clear cA; clear eA; clear HB; have bA := n0_; have cA := n1_; have eA := n2_; have HB := n3_; clear n0_ n1_ n2_ n3_
  (try clear hb)
  (try clear nC)
  (try clear hk)
  (try clear hi)
  refine hK.out _ _ ⟨(blk_cell bA.out 0).trans rfl, (blk_cell bA.out 1).trans rfl, (blk_cell cA.out 0).trans rfl, (blk_cell cA.out 1).trans rfl⟩ (fun dA => ?_)
  clear hK K
  refine zn 33 ?_
  refine zo 23 none (fun K hK => ?_)
  have aC : GB.cell? ⟨hA, 0, none⟩ = some (.int .i64 0) := (blk_cell eA.out 0).trans rfl; have PB := zfz eA.out 0; have lB := gA.out; have kB := fA.out; have pB := nA.out; have oB := mA.out; have ZB : GB.cell? ⟨hA, 1, none⟩ = some (.int .i64 0) := (blk_cell eA.out 1).trans rfl; have OB := zfz eA.out 1; have jB := gA.out; have iB := fA.out; have nB := nA.out; have mB := mA.out
  refine skip_ (w1 := ?_) (by rfl) rfl ?_ ?_
  rotate_left
  ·go_simp
   rfl
  refine hK.out _ _ ⟨((cell_far (p := ⟨hA, _, none⟩) gA.out _).trans (((cell_far (p := ⟨hA, _, none⟩) gA.out _).trans (dA.1)))), ((cell_far (p := ⟨hA, _, none⟩) gA.out _).trans (((cell_far (p := ⟨hA, _, none⟩) gA.out _).trans (dA.2.1)))), ((cell_far (p := ⟨hA, _, none⟩) fA.out _).trans (((cell_far (p := ⟨hA, _, none⟩) fA.out _).trans (dA.2.2.1)))), ((cell_far (p := ⟨hA, _, none⟩) fA.out _).trans (((cell_far (p := ⟨hA, _, none⟩) fA.out _).trans (dA.2.2.2))))⟩ (fun dA => ?_)
  clear hK K
  refine done_ (done_of HT_.out (by kernel_rfl)) ?_
  try go_wp2
  refine bodyPost_ret (results_cell_row rfl _ _ hA 25 #[.int .i64 WA, .int .i64 bB] (0, 0) _ rfl (by refine zb ?_; refine blk_put (cs := #[.int .i64 WA, .int .i64 0]) ?_ 1 _ rfl; refine zb ?_; refine blk_put (cs := #[.int .i64 0, .int .i64 0]) ?_ 0 _ rfl; refine zb ?_; exact eA.out) Try.underlying25 rfl (by kernel_rfl)) rfl ?_
  exact ⟨zE, by repeat (first | (with_reducible first | exact HB.out | apply below_alloc | apply pw_below_drewN | apply below_drew1 | refine below_set ?_ oA.out | refine below_set ?_ rA.out | refine below_set ?_ IA.out) | exact HB.out)⟩

def cmp_Or_int.l0 : Nat → Int → List Int → Int → Int → Option (Int)
 | 0, _, _, _, _ => none
 | k + 1, x3, x6, x7, x8 => if x8 < x7 then (if 0 ≤ x8 then (if x8 < (x6.length : Int) then (if (rd x6 x8) = x3 then (cmp_Or_int.l0 k x3 x6 x7 (wrap64 (x8 + 1))) else (some (rd x6 x8))) else (none)) else (none)) else (some x3)
def cmp_Or_int.f (k : Nat) (l0 : List Int) : Option (Int) := cmp_Or_int.l0 k 0 l0 (l0.length : Int) 0
theorem cmp_Or_int.calls (k : Nat) (A0 : Option Addr) (c0 : Nat) (l0 : List Int) (r : Int) (w : World) (JB : Kd.C (Kd.int .i64) w A0 l0.length l0) (SB : l0.length ≤ c0) (h : cmp_Or_int.f k l0 = some r) :
  Calls Try.prog 73 #[.slice A0 l0.length c0] w fun e w' => e = .returned (.int .i64 r) ∧ Drawn0 w w' := by
 have VB := zQ JB
 have oC := zQ SB
 clear JB SB
 have H : (cmp_Or_int.l0 k 0 l0 (l0.length : Int) 0) = some r := h
 clear h
 have H' := zQ H
 clear H
 go_enter Try.func73, Try.ntmps73
 go_wp2
 go_loopg [8] k (fun kq v8 w' => ∃ (iA : Int), v8 = .int .i64 iA ∧ Aside0 (cmp_Or_int.l0 kq 0 l0 (l0.length : Int) iA = some r) ∧ Aside0 (kq ≤ k) ∧ Drawn0 w w')
 case atStart => exact ⟨(0), (zF), H', ⟨Nat.le_refl _⟩, by repeat (first | exact Drawn0.refl _ | apply Drawn0.step)⟩
 case round =>
  clear H'; obtain ⟨iA, rfl, HA, WB, ⟨m1, rfl⟩⟩ := hrel
  cases gk with
  | zero => exact absurd HA.out (by simp [cmp_Or_int.l0])
  | succ k1 =>
   have H := HA.out; clear HA
   simp only [cmp_Or_int.l0] at H
   by_cases c2 : iA < (l0.length : Int)
   ·rw [if_pos c2] at H
    have EB := decide_eq_true c2; clear c2
    by_cases c3 : 0 ≤ iA
    ·rw [if_pos c3] at H
     have eB := decide_eq_true c3; clear c3
     by_cases c4 : iA < (l0.length : Int)
     ·rw [if_pos c4] at H
      have DB := decide_eq_true c4; clear c4
      by_cases c5 : (rd l0 iA) = 0
      ·rw [if_pos c5] at H
       have dB : ((rd l0 iA) == 0) = true := beq_iff_eq.mpr c5; have cB : ((rd l0 iA) != 0) = false := bne_eq_false_iff_eq.mpr c5; clear c5; have H' := zQ H; clear H; have wA : 0 ≤ (iA : Int) := zD; have vA : iA < (l0.length : Int) := zD; obtain ⟨fB, XA, JA⟩ := Kd.at_int VB.out iA wA vA
       cases XA
       replace wA := eq_true wA; replace vA := eq_true vA
       go_wp2
       go_roundg k1
       case measure => have := WB.out; omega
       case rel => exact ⟨(wrap64 (iA + 1)), (zF), H', ⟨by have := WB.out; omega⟩, by repeat (first | exact Drawn0.refl _ | apply Drawn0.step)⟩
      ·rw [if_neg c5] at H
       have dB : ((rd l0 iA) == 0) = false := beq_eq_false_iff_ne.mpr c5; have cB : ((rd l0 iA) != 0) = true := bne_iff_ne.mpr c5; obtain rfl := Option.some.inj H; have wA : 0 ≤ (iA : Int) := zD; have vA : iA < (l0.length : Int) := zD; obtain ⟨fB, XA, JA⟩ := Kd.at_int VB.out iA wA vA
       cases XA
       replace wA := eq_true wA; replace vA := eq_true vA
       go_wp2
       go_ret
       exact ⟨zF, by repeat (first | exact Drawn0.refl _ | apply Drawn0.step)⟩
     ·rw [if_neg c4] at H
      exact absurd H (by simp)
    ·rw [if_neg c3] at H
     exact absurd H (by simp)
   ·rw [if_neg c2] at H
    have EB := decide_eq_false c2; clear c2; obtain rfl := Option.some.inj H
    go_wp2
    go_ret
    exact ⟨zF, by repeat (first | exact Drawn0.refl _ | apply Drawn0.step)⟩

def cmp_isNaN_int64.f (a0 : Int) : Option (Bool) := some (a0 != a0)
theorem cmp_isNaN_int64.calls (a0 : Int) (r : Bool) (w : World) (h : cmp_isNaN_int64.f a0 = some r) :
  Calls Try.prog 78 #[.int .i64 a0] w fun e w' => e = .returned (.bool r) ∧ Drawn0 w w' := by
 have H : (some (a0 != a0)) = some r := h
 clear h
 obtain rfl := Option.some.inj H
 go_enter Try.func78, Try.ntmps78
 go_wp2
 go_ret
 exact ⟨zF, by repeat (first | exact Drawn0.refl _ | apply Drawn0.step)⟩

def cmp_Compare_int64.f (a0 : Int) (a1 : Int) : Option (Int) := (cmp_isNaN_int64.f a0).bind fun VA => ((cmp_isNaN_int64.f a1).bind fun BA => (if VA = true then (if BA = true then (some 0) else (some (-1))) else (if BA = true then (some 1) else (if a0 < a1 then (some (-1)) else (if a0 > a1 then (some 1) else (some 0))))))
theorem cmp_Compare_int64.calls (a0 : Int) (a1 : Int) (r : Int) (w : World) (h : cmp_Compare_int64.f a0 a1 = some r) :
  Calls Try.prog 74 #[.int .i64 a0, .int .i64 a1] w fun e w' => e = .returned (.int .i64 r) ∧ Drawn0 w w' := by
 have H := h; unfold cmp_Compare_int64.f at H
 clear h
 replace H := zob H; obtain ⟨VA, A3, H⟩ := H
 replace H := zob H; obtain ⟨BA, A4, H⟩ := H
 by_cases c5 : VA = true
 ·subst c5
  rw [if_pos rfl] at H
  by_cases c6 : BA = true
  ·subst c6
   rw [if_pos rfl] at H; obtain rfl := Option.some.inj H
   go_enter Try.func74, Try.ntmps74
   go_wp2_with (first | ((with_reducible refine zgc 78 ?_); refine zgo (some 8) Try.func78 #[.int .i64 a0] ?_; (with_reducible refine (cmp_isNaN_int64.calls a0 true _ A3.out).mono ?_); rintro e w' ⟨rfl, ⟨nd, rfl⟩⟩; refine ⟨_, rfl, ?_⟩) | ((with_reducible refine zgc 78 ?_); refine zgo (some 10) Try.func78 #[.int .i64 a1] ?_; (with_reducible refine (cmp_isNaN_int64.calls a1 true _ A4.out).mono ?_); rintro e w' ⟨rfl, ⟨nd, rfl⟩⟩; refine ⟨_, rfl, ?_⟩))
   go_ret
   exact ⟨zF, by repeat (first | exact Drawn0.refl _ | apply Drawn0.step)⟩
  ·replace c6 := Bool.eq_false_iff.mpr c6
   subst c6
   rw [if_neg Bool.false_ne_true] at H; obtain rfl := Option.some.inj H
   go_enter Try.func74, Try.ntmps74
   go_wp2_with (first | ((with_reducible refine zgc 78 ?_); refine zgo (some 8) Try.func78 #[.int .i64 a0] ?_; (with_reducible refine (cmp_isNaN_int64.calls a0 true _ A3.out).mono ?_); rintro e w' ⟨rfl, ⟨nd, rfl⟩⟩; refine ⟨_, rfl, ?_⟩) | ((with_reducible refine zgc 78 ?_); refine zgo (some 10) Try.func78 #[.int .i64 a1] ?_; (with_reducible refine (cmp_isNaN_int64.calls a1 false _ A4.out).mono ?_); rintro e w' ⟨rfl, ⟨nd, rfl⟩⟩; refine ⟨_, rfl, ?_⟩))
   go_ret
   exact ⟨zF, by repeat (first | exact Drawn0.refl _ | apply Drawn0.step)⟩
 ·replace c5 := Bool.eq_false_iff.mpr c5
  subst c5
  rw [if_neg Bool.false_ne_true] at H
  by_cases c7 : BA = true
  ·subst c7
   rw [if_pos rfl] at H; obtain rfl := Option.some.inj H
   go_enter Try.func74, Try.ntmps74
   go_wp2_with (first | ((with_reducible refine zgc 78 ?_); refine zgo (some 8) Try.func78 #[.int .i64 a0] ?_; (with_reducible refine (cmp_isNaN_int64.calls a0 false _ A3.out).mono ?_); rintro e w' ⟨rfl, ⟨nd, rfl⟩⟩; refine ⟨_, rfl, ?_⟩) | ((with_reducible refine zgc 78 ?_); refine zgo (some 10) Try.func78 #[.int .i64 a1] ?_; (with_reducible refine (cmp_isNaN_int64.calls a1 true _ A4.out).mono ?_); rintro e w' ⟨rfl, ⟨nd, rfl⟩⟩; refine ⟨_, rfl, ?_⟩))
   go_ret
   exact ⟨zF, by repeat (first | exact Drawn0.refl _ | apply Drawn0.step)⟩
  ·replace c7 := Bool.eq_false_iff.mpr c7
   subst c7
   rw [if_neg Bool.false_ne_true] at H
   by_cases c8 : a0 < a1
   ·rw [if_pos c8] at H
    have ZA := decide_eq_true c8; clear c8; obtain rfl := Option.some.inj H
    go_enter Try.func74, Try.ntmps74
    go_wp2_with (first | ((with_reducible refine zgc 78 ?_); refine zgo (some 8) Try.func78 #[.int .i64 a0] ?_; (with_reducible refine (cmp_isNaN_int64.calls a0 false _ A3.out).mono ?_); rintro e w' ⟨rfl, ⟨nd, rfl⟩⟩; refine ⟨_, rfl, ?_⟩) | ((with_reducible refine zgc 78 ?_); refine zgo (some 10) Try.func78 #[.int .i64 a1] ?_; (with_reducible refine (cmp_isNaN_int64.calls a1 false _ A4.out).mono ?_); rintro e w' ⟨rfl, ⟨nd, rfl⟩⟩; refine ⟨_, rfl, ?_⟩))
    go_ret
    exact ⟨zF, by repeat (first | exact Drawn0.refl _ | apply Drawn0.step)⟩
   ·rw [if_neg c8] at H
    have ZA := decide_eq_false c8; clear c8
    by_cases c9 : a0 > a1
    ·rw [if_pos c9] at H
     have YA := decide_eq_true c9; clear c9; obtain rfl := Option.some.inj H
     go_enter Try.func74, Try.ntmps74
     go_wp2_with (first | ((with_reducible refine zgc 78 ?_); refine zgo (some 8) Try.func78 #[.int .i64 a0] ?_; (with_reducible refine (cmp_isNaN_int64.calls a0 false _ A3.out).mono ?_); rintro e w' ⟨rfl, ⟨nd, rfl⟩⟩; refine ⟨_, rfl, ?_⟩) | ((with_reducible refine zgc 78 ?_); refine zgo (some 10) Try.func78 #[.int .i64 a1] ?_; (with_reducible refine (cmp_isNaN_int64.calls a1 false _ A4.out).mono ?_); rintro e w' ⟨rfl, ⟨nd, rfl⟩⟩; refine ⟨_, rfl, ?_⟩))
     go_ret
     exact ⟨zF, by repeat (first | exact Drawn0.refl _ | apply Drawn0.step)⟩
    ·rw [if_neg c9] at H
     have YA := decide_eq_false c9; clear c9; obtain rfl := Option.some.inj H
     go_enter Try.func74, Try.ntmps74
     go_wp2_with (first | ((with_reducible refine zgc 78 ?_); refine zgo (some 8) Try.func78 #[.int .i64 a0] ?_; (with_reducible refine (cmp_isNaN_int64.calls a0 false _ A3.out).mono ?_); rintro e w' ⟨rfl, ⟨nd, rfl⟩⟩; refine ⟨_, rfl, ?_⟩) | ((with_reducible refine zgc 78 ?_); refine zgo (some 10) Try.func78 #[.int .i64 a1] ?_; (with_reducible refine (cmp_isNaN_int64.calls a1 false _ A4.out).mono ?_); rintro e w' ⟨rfl, ⟨nd, rfl⟩⟩; refine ⟨_, rfl, ?_⟩))
     go_ret
     exact ⟨zF, by repeat (first | exact Drawn0.refl _ | apply Drawn0.step)⟩

def bits_Mul64.f (a0 : Int) (a1 : Int) : Option (Int × Int) := some (IntKind.u64.wrap ((IntKind.u64.wrap ((IntKind.u64.wrap ((a0 / 4294967296) * (a1 / 4294967296))) + ((IntKind.u64.wrap ((IntKind.u64.wrap ((a0 / 4294967296) * (Go.bits .and .u64 a1 4294967295))) + ((IntKind.u64.wrap ((Go.bits .and .u64 a0 4294967295) * (Go.bits .and .u64 a1 4294967295))) / 4294967296))) / 4294967296))) + ((IntKind.u64.wrap ((Go.bits .and .u64 (IntKind.u64.wrap ((IntKind.u64.wrap ((a0 / 4294967296) * (Go.bits .and .u64 a1 4294967295))) + ((IntKind.u64.wrap ((Go.bits .and .u64 a0 4294967295) * (Go.bits .and .u64 a1 4294967295))) / 4294967296))) 4294967295) + (IntKind.u64.wrap ((Go.bits .and .u64 a0 4294967295) * (a1 / 4294967296))))) / 4294967296)), IntKind.u64.wrap (a0 * a1))
theorem bits_Mul64.calls (a0 : Int) (a1 : Int) (r1 : Int) (r2 : Int) (w : World) (h : bits_Mul64.f a0 a1 = some (r1, r2)) :
  Calls Try.prog 79 #[.int .u64 a0, .int .u64 a1] w fun e w' => e = .returned (.tuple #[.int .u64 r1, .int .u64 r2]) ∧ Drawn0 w w' := by
 have H := h; unfold bits_Mul64.f at H
 clear h
 simp only [Option.some.injEq, Prod.mk.injEq] at H
 obtain ⟨rfl, rfl⟩ := H
 go_enter Try.func79, Try.ntmps79
 go_wp2
 go_ret2
 exact ⟨zF, by repeat (first | exact Drawn0.refl _ | apply Drawn0.step)⟩

def cmp_isNaN_uint64.f (a0 : Int) : Option (Bool) := some (a0 != a0)
theorem cmp_isNaN_uint64.calls (a0 : Int) (r : Bool) (w : World) (h : cmp_isNaN_uint64.f a0 = some r) :
  Calls Try.prog 81 #[.int .u64 a0] w fun e w' => e = .returned (.bool r) ∧ Drawn0 w w' := by
 have H : (some (a0 != a0)) = some r := h
 clear h
 obtain rfl := Option.some.inj H
 go_enter Try.func81, Try.ntmps81
 go_wp2
 go_ret
 exact ⟨zF, by repeat (first | exact Drawn0.refl _ | apply Drawn0.step)⟩

def cmp_Compare_uint64.f (a0 : Int) (a1 : Int) : Option (Int) := (cmp_isNaN_uint64.f a0).bind fun UA => ((cmp_isNaN_uint64.f a1).bind fun AA => (if UA = true then (if AA = true then (some 0) else (some (-1))) else (if AA = true then (some 1) else (if a0 < a1 then (some (-1)) else (if a0 > a1 then (some 1) else (some 0))))))
theorem cmp_Compare_uint64.calls (a0 : Int) (a1 : Int) (r : Int) (w : World) (h : cmp_Compare_uint64.f a0 a1 = some r) :
  Calls Try.prog 80 #[.int .u64 a0, .int .u64 a1] w fun e w' => e = .returned (.int .i64 r) ∧ Drawn0 w w' := by
 have H := h; unfold cmp_Compare_uint64.f at H
 clear h
 replace H := zob H; obtain ⟨UA, A3, H⟩ := H
 replace H := zob H; obtain ⟨AA, A4, H⟩ := H
 by_cases c5 : UA = true
 ·subst c5
  rw [if_pos rfl] at H
  by_cases c6 : AA = true
  ·subst c6
   rw [if_pos rfl] at H; obtain rfl := Option.some.inj H
   go_enter Try.func80, Try.ntmps80
   go_wp2_with (first | ((with_reducible refine zgc 81 ?_); refine zgo (some 8) Try.func81 #[.int .u64 a0] ?_; (with_reducible refine (cmp_isNaN_uint64.calls a0 true _ A3.out).mono ?_); rintro e w' ⟨rfl, ⟨nd, rfl⟩⟩; refine ⟨_, rfl, ?_⟩) | ((with_reducible refine zgc 81 ?_); refine zgo (some 10) Try.func81 #[.int .u64 a1] ?_; (with_reducible refine (cmp_isNaN_uint64.calls a1 true _ A4.out).mono ?_); rintro e w' ⟨rfl, ⟨nd, rfl⟩⟩; refine ⟨_, rfl, ?_⟩))
   go_ret
   exact ⟨zF, by repeat (first | exact Drawn0.refl _ | apply Drawn0.step)⟩
  ·replace c6 := Bool.eq_false_iff.mpr c6
   subst c6
   rw [if_neg Bool.false_ne_true] at H; obtain rfl := Option.some.inj H
   go_enter Try.func80, Try.ntmps80
   go_wp2_with (first | ((with_reducible refine zgc 81 ?_); refine zgo (some 8) Try.func81 #[.int .u64 a0] ?_; (with_reducible refine (cmp_isNaN_uint64.calls a0 true _ A3.out).mono ?_); rintro e w' ⟨rfl, ⟨nd, rfl⟩⟩; refine ⟨_, rfl, ?_⟩) | ((with_reducible refine zgc 81 ?_); refine zgo (some 10) Try.func81 #[.int .u64 a1] ?_; (with_reducible refine (cmp_isNaN_uint64.calls a1 false _ A4.out).mono ?_); rintro e w' ⟨rfl, ⟨nd, rfl⟩⟩; refine ⟨_, rfl, ?_⟩))
   go_ret
   exact ⟨zF, by repeat (first | exact Drawn0.refl _ | apply Drawn0.step)⟩
 ·replace c5 := Bool.eq_false_iff.mpr c5
  subst c5
  rw [if_neg Bool.false_ne_true] at H
  by_cases c7 : AA = true
  ·subst c7
   rw [if_pos rfl] at H; obtain rfl := Option.some.inj H
   go_enter Try.func80, Try.ntmps80
   go_wp2_with (first | ((with_reducible refine zgc 81 ?_); refine zgo (some 8) Try.func81 #[.int .u64 a0] ?_; (with_reducible refine (cmp_isNaN_uint64.calls a0 false _ A3.out).mono ?_); rintro e w' ⟨rfl, ⟨nd, rfl⟩⟩; refine ⟨_, rfl, ?_⟩) | ((with_reducible refine zgc 81 ?_); refine zgo (some 10) Try.func81 #[.int .u64 a1] ?_; (with_reducible refine (cmp_isNaN_uint64.calls a1 true _ A4.out).mono ?_); rintro e w' ⟨rfl, ⟨nd, rfl⟩⟩; refine ⟨_, rfl, ?_⟩))
   go_ret
   exact ⟨zF, by repeat (first | exact Drawn0.refl _ | apply Drawn0.step)⟩
  ·replace c7 := Bool.eq_false_iff.mpr c7
   subst c7
   rw [if_neg Bool.false_ne_true] at H
   by_cases c8 : a0 < a1
   ·rw [if_pos c8] at H
    have ZA := decide_eq_true c8; clear c8; obtain rfl := Option.some.inj H
    go_enter Try.func80, Try.ntmps80
    go_wp2_with (first | ((with_reducible refine zgc 81 ?_); refine zgo (some 8) Try.func81 #[.int .u64 a0] ?_; (with_reducible refine (cmp_isNaN_uint64.calls a0 false _ A3.out).mono ?_); rintro e w' ⟨rfl, ⟨nd, rfl⟩⟩; refine ⟨_, rfl, ?_⟩) | ((with_reducible refine zgc 81 ?_); refine zgo (some 10) Try.func81 #[.int .u64 a1] ?_; (with_reducible refine (cmp_isNaN_uint64.calls a1 false _ A4.out).mono ?_); rintro e w' ⟨rfl, ⟨nd, rfl⟩⟩; refine ⟨_, rfl, ?_⟩))
    go_ret
    exact ⟨zF, by repeat (first | exact Drawn0.refl _ | apply Drawn0.step)⟩
   ·rw [if_neg c8] at H
    have ZA := decide_eq_false c8; clear c8
    by_cases c9 : a0 > a1
    ·rw [if_pos c9] at H
     have YA := decide_eq_true c9; clear c9; obtain rfl := Option.some.inj H
     go_enter Try.func80, Try.ntmps80
     go_wp2_with (first | ((with_reducible refine zgc 81 ?_); refine zgo (some 8) Try.func81 #[.int .u64 a0] ?_; (with_reducible refine (cmp_isNaN_uint64.calls a0 false _ A3.out).mono ?_); rintro e w' ⟨rfl, ⟨nd, rfl⟩⟩; refine ⟨_, rfl, ?_⟩) | ((with_reducible refine zgc 81 ?_); refine zgo (some 10) Try.func81 #[.int .u64 a1] ?_; (with_reducible refine (cmp_isNaN_uint64.calls a1 false _ A4.out).mono ?_); rintro e w' ⟨rfl, ⟨nd, rfl⟩⟩; refine ⟨_, rfl, ?_⟩))
     go_ret
     exact ⟨zF, by repeat (first | exact Drawn0.refl _ | apply Drawn0.step)⟩
    ·rw [if_neg c9] at H
     have YA := decide_eq_false c9; clear c9; obtain rfl := Option.some.inj H
     go_enter Try.func80, Try.ntmps80
     go_wp2_with (first | ((with_reducible refine zgc 81 ?_); refine zgo (some 8) Try.func81 #[.int .u64 a0] ?_; (with_reducible refine (cmp_isNaN_uint64.calls a0 false _ A3.out).mono ?_); rintro e w' ⟨rfl, ⟨nd, rfl⟩⟩; refine ⟨_, rfl, ?_⟩) | ((with_reducible refine zgc 81 ?_); refine zgo (some 10) Try.func81 #[.int .u64 a1] ?_; (with_reducible refine (cmp_isNaN_uint64.calls a1 false _ A4.out).mono ?_); rintro e w' ⟨rfl, ⟨nd, rfl⟩⟩; refine ⟨_, rfl, ?_⟩))
     go_ret
     exact ⟨zF, by repeat (first | exact Drawn0.refl _ | apply Drawn0.step)⟩

def impl_compareProducts.f (k : Nat) (a0 : Int) (a1 : Int) (a2 : Int) (a3 : Int) : Option (Int) := (bits_Mul64.f a0 a1).bind fun MA => ((bits_Mul64.f a2 a3).bind fun LA => ((cmp_Compare_uint64.f MA.1 LA.1).bind fun tA => ((cmp_Compare_uint64.f MA.2 LA.2).bind fun sA => ((cmp_Or_int.f k (([tA, sA] : List Int))).bind fun zA => (some zA)))))
theorem impl_compareProducts.calls (k : Nat) (a0 : Int) (a1 : Int) (a2 : Int) (a3 : Int) (r : Int) (w : World) (h : impl_compareProducts.f k a0 a1 a2 a3 = some r) :
  Calls Try.prog 75 #[.int .u64 a0, .int .u64 a1, .int .u64 a2, .int .u64 a3] w fun e w' => e = .returned (.int .i64 r) ∧ Below w.heap.size w w' := by
 have HB := zQ (Below.refl w.heap.size w)
 have H := h; unfold impl_compareProducts.f at H
 clear h
 replace H := zob H; obtain ⟨⟨TA, SA⟩, A5, H⟩ := H
 replace H := zob H; obtain ⟨⟨RA, QA⟩, A6, H⟩ := H
 replace H := zob H; obtain ⟨tA, A7, H⟩ := H
 replace H := zob H; obtain ⟨sA, A8, H⟩ := H
 obtain ⟨PA, KA⟩ : ∃ y_ : List Int, y_ = (([tA, sA] : List Int)) := ⟨_, rfl⟩
 replace H : ((cmp_Or_int.f k PA).bind fun zA => (some zA)) = some r := zh H
 have OA := zQ KA
 clear KA
 replace H := zob H; obtain ⟨zA, A9, H⟩ := H
 obtain rfl := Option.some.inj H
 go_enter Try.func75, Try.ntmps75
 go_wp2_with (first | ((with_reducible refine zgc 79 ?_); refine zgo (some 16) Try.func79 #[.int .u64 a0, .int .u64 a1] ?_; (with_reducible refine (bits_Mul64.calls a0 a1 TA SA _ A5.out).mono ?_); rintro e w' ⟨rfl, ⟨nd, rfl⟩⟩; refine ⟨_, rfl, ?_⟩) | ((with_reducible refine zgc 79 ?_); refine zgo (some 22) Try.func79 #[.int .u64 a2, .int .u64 a3] ?_; (with_reducible refine (bits_Mul64.calls a2 a3 RA QA _ A6.out).mono ?_); rintro e w' ⟨rfl, ⟨nd, rfl⟩⟩; refine ⟨_, rfl, ?_⟩) | ((with_reducible refine zgc 80 ?_); refine zgo (some 27) Try.func80 #[.int .u64 TA, .int .u64 RA] ?_; (with_reducible refine (cmp_Compare_uint64.calls TA RA tA _ A7.out).mono ?_); rintro e w' ⟨rfl, ⟨nd, rfl⟩⟩; refine ⟨_, rfl, ?_⟩) | ((with_reducible refine zgc 80 ?_); refine zgo (some 30) Try.func80 #[.int .u64 SA, .int .u64 QA] ?_; (with_reducible refine (cmp_Compare_uint64.calls SA QA sA _ A8.out).mono ?_); rintro e w' ⟨rfl, ⟨nd, rfl⟩⟩; refine ⟨_, rfl, ?_⟩) | ((with_reducible refine zd 31 ?_); refine Kd.R_lit (Kd.int .i64) _ 3 ?hg (N := 31) ?hd (xs := ([tA, sA] : List Int)) (inner := [.int .i64 tA, .int .i64 sA]) (ok := fun _ => True) (okp := fun _ => True) ?hr ?hp (fun _ hk => hk) trivial (Below.refl _ _) (Nat.le_refl _) (by simp) ?_; (case hd => rfl); (case hg => rfl); (case hr => first | (go_simp; done) | (go_simp; rfl)); (case hp => exact (Reps.one (show Kd.M (Kd.int .i64) _ _ _ tA [.int .i64 tA] from rfl) (Reps.one (show Kd.M (Kd.int .i64) _ _ _ sA [.int .i64 sA] from rfl) (Reps.none _ _)))); intro YB kC CA hb hg_ hnew_; clear hg_ hnew_; (first | rw [← OA.out] at CA | (simp only [Int.reduceToNat] at CA; rw [← OA.out] at CA)); have FA := zQ (Kd.R_lower CA (below_size (zB HB.out))); replace HB := zbs HB.out hb; clear hb CA; obtain ⟨FB, CB, BB⟩ := Kd.R_slice FA.out; subst BB) | ((with_reducible refine zgc 73 ?_); refine zgo (some 32) Try.func73 #[.slice FB PA.length CB] ?_; (with_reducible refine (cmp_Or_int.calls k _ _ PA zA _ ?side1 ((Kd.R_reads' FA.out).2.1) A9.out).mono ?_); (case side1 => exact zk (Kd.R_reads' FA.out).2.2); rintro e w' ⟨rfl, ⟨nd, rfl⟩⟩; refine ⟨_, rfl, ?_⟩))
 go_ret
 exact ⟨zE, zB HB.out⟩

end
end Go.Proofs.Ytchngbjpjbahiaa.PSailw

