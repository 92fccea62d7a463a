import Derived.Test.YtchngbjpjbahiaaHSailw0
import Derived.Test.YtchngbjpjbahiaaHSailwe
namespace Go.Proofs.Ytchngbjpjbahiaa.PSailw
noncomputable section
open Go.RowKit Go.Proofs.YtchngbjpjbahiaaW.PrintWords Go.Proofs.YtchngbjpjbahiaaW.PrintLast Go.Proofs.YtchngbjpjbahiaaW.PrintMore
attribute [local go_sem] max2_int min2_int max_two min_two max_three min_three max_four min_four   -- for this text's walks alone
set_option linter.unusedVariables false
set_option linter.unusedSimpArgs false
set_option maxHeartbeats 8000000
set_option maxRecDepth 100000

def spec_l01Make.f (k : Nat) (a0 : Int) (a1 : Int) : Option (Int × Int) := (spec_l00Size.f a0).bind fun IA => ((spec_l00Gcd.f k IA a1).bind fun yA => (if yA = 0 then (none) else (some (wrap64 (Int.tdiv a0 yA), wrap64 (Int.tdiv a1 yA)))))
def spec_l01Make.T2 : Bool × List (List Nat × List Nat) := (true, [([], []), ([], []), ([0, 1], [0, 1]), ([], []), ([], []), ([3, 4], [3, 4]), ([2, 5], [2, 5]), ([6, 0, 1, 2, 3, 4, 5, 6], [6])])
def spec_l01Make.B2 : List Nat := [0, 0, 3, 0, 0, 24, 63, 127]
theorem spec_l01Make.tab2 : rtab .any (opsOf Try.f68 2) = spec_l01Make.T2 := by kernel_rfl
theorem spec_l01Make.bits2 : waitsOk spec_l01Make.T2.2 spec_l01Make.B2 = true := by kernel_rfl
theorem spec_l01Make.calls (k : Nat) (a0 : Int) (a1 : Int) (r1 : Int) (r2 : Int) (w : World) (h : spec_l01Make.f k a0 a1 = some (r1, r2)) :
  Calls Try.prog 68 #[.int .i64 a0, .int .i64 a1] w fun e w' => e = .returned (.agg #[.int .i64 r1, .int .i64 r2]) ∧ Below w.heap.size w w' := by
 have eB := Try.underlying25
 have HB := zQ (Below.refl w.heap.size w)
 have H := h; unfold spec_l01Make.f at H
 clear h
 replace H := zob H; obtain ⟨IA, A3, H⟩ := H
 replace H := zob H; obtain ⟨yA, A4, H⟩ := H
 by_cases c5 : yA = 0
 ·rw [if_pos c5] at H
  exact absurd H (by simp)
 ·rw [if_neg c5] at H
  have BC : (yA == 0) = false := beq_eq_false_iff_ne.mpr c5; have AC : (yA != 0) = true := bne_iff_ne.mpr c5
  simp only [Option.some.injEq, Prod.mk.injEq] at H
  obtain ⟨rfl, rfl⟩ := H
  go_enter Try.func68, Try.ntmps68
  try go_wp2_with (first | ((with_reducible refine zd 4 ?_); refine zbx (N := 4) (cs := #[.int .i64 0, .int .i64 0]) (t := 25) ?_; intro BA hg w6 bA hb; have eA := zQ (bA); have uB := zgz hg HB.out; have PA := uB; replace HB := zbs HB.out hb; clear hb bA hg) | ((with_reducible refine zgc 77 ?_); refine zgo (some 7) Try.func77 #[.int .i64 a0] ?_; (with_reducible refine (spec_l00Size.calls a0 IA _ A3.out).mono ?_); rintro e w' ⟨rfl, ⟨nd, rfl⟩⟩; refine ⟨_, rfl, ?_⟩; (try (rw [drewN_self w6]; generalize hq_ : World.drewN w6 _ = w6; have n0_ : Aside0 (w6.heap[BA]? = some (.cells #[.int .i64 0, .int .i64 0] 25 (0, 0))) := ⟨by rw [← hq_]; exact (zb eA.out)⟩; have n1_ : Aside0 (Below w.heap.size w w6) := ⟨by rw [← hq_]; exact (zB2 HB.out PA.out)⟩; clear eA HB hq_; have eA := n0_; have HB := n1_; clear n0_ n1_)); (try (have hczrw6_gb161_0 := zc0 eA.out)); (try (have hfzrw6_gb161_0 := zfz eA.out 0)); (try (have hczrw6_gb161_1 := zc1 eA.out)); (try (have hfzrw6_gb161_1 := zfz eA.out 1))) | ((with_reducible refine zgc 69 ?_); refine zgo (some 9) Try.func69 #[.int .i64 IA, .int .i64 a1] ?_; (with_reducible refine (spec_l00Gcd.calls k IA a1 yA _ A4.out).mono ?_); rintro e w' ⟨rfl, ⟨nd, rfl⟩⟩; refine ⟨_, rfl, ?_⟩; (try (rw [drewN_self w6]; generalize hq_ : World.drewN w6 _ = w6; have n0_ : Aside0 (w6.heap[BA]? = some (.cells #[.int .i64 0, .int .i64 0] 25 (0, 0))) := ⟨by rw [← hq_]; exact (zb eA.out)⟩; have n1_ : Aside0 (Below w.heap.size w w6) := ⟨by rw [← hq_]; exact (zB2 HB.out PA.out)⟩; clear eA HB hq_; have eA := n0_; have HB := n1_; clear n0_ n1_)); (try (have hczrw6_gb161_0 := zc0 eA.out)); (try (have hfzrw6_gb161_0 := zfz eA.out 0)); (try (have hczrw6_gb161_1 := zc1 eA.out)); (try (have hfzrw6_gb161_1 := zfz eA.out 1))))
  have n0_ := zQ (blk_drew eA.out); have n1_ := zQ (below_drew1 HB.out); clear eA; clear HB; have eA := n0_; have HB := n1_; clear n0_ n1_
  refine zs (fun w' => True) [] 8 trivial (fun iA => ?_); refine with_tabW spec_l01Make.tab2 spec_l01Make.bits2 (fun HT_ HW_ => ?_)
  generalize w6.drew = w7 at eA HB iA ⊢
  refine zp 0 10 ?_
  refine zp 1 11 ?_
  refine zp 2 12 ?_
  refine zp 3 13 ?_
  refine zp 4 14 ?_
  refine zp 5 15 ?_
  refine zp 6 16 ?_
  refine zo 7 none (fun K hK => ?_)
  have JC : w7.cell? ⟨BA, 0, none⟩ = some (.int .i64 0) := (blk_cell eA.out 0).trans rfl; have zC := zfz eA.out 0; have IC : w7.cell? ⟨BA, 1, none⟩ = some (.int .i64 0) := (blk_cell eA.out 1).trans rfl; have yC := zfz eA.out 1
  refine skip_ (w1 := ?_) (by rfl) rfl ?_ ?_
  rotate_left
  ·go_simp
   rfl
  refine hK.out _ _ trivial (fun iA => ?_)
  clear hK K
  refine done_ (done_of HT_.out (by kernel_rfl)) ?_
  try go_wp2
  refine bodyPost_ret (results_cell_row rfl _ _ BA 25 #[.int .i64 (wrap64 (Int.tdiv a0 yA)), .int .i64 (wrap64 (Int.tdiv a1 yA))] (0, 0) _ rfl (by refine zb ?_; refine blk_put (cs := #[.int .i64 (wrap64 (Int.tdiv a0 yA)), .int .i64 0]) ?_ 1 _ rfl; refine zb ?_; refine blk_put (cs := #[.int .i64 0, .int .i64 0]) ?_ 0 _ rfl; refine zb ?_; exact eA.out) Try.underlying25 rfl (by kernel_rfl)) rfl ?_
  exact ⟨zE, zB2 HB.out PA.out⟩

def spec_l13At.f (k : Nat) (a0_0 : Int) (a0_1 : Int) (a1_0 : Int) (a1_1 : Int) (a2 : Int) : Option (Int × Int) := if (wrap64 (a1_1 - a0_1)) < 0 then ((spec_l01Make.f k (wrap64 (-(wrap64 ((wrap64 (a0_0 * (wrap64 (a1_1 - a2)))) + (wrap64 (a1_0 * (wrap64 (a2 - a0_1)))))))) (wrap64 (-(wrap64 (a1_1 - a0_1))))).bind fun aB => (some (aB.1, aB.2))) else ((spec_l01Make.f k (wrap64 ((wrap64 (a0_0 * (wrap64 (a1_1 - a2)))) + (wrap64 (a1_0 * (wrap64 (a2 - a0_1)))))) (wrap64 (a1_1 - a0_1))).bind fun ZA => (some (ZA.1, ZA.2)))
theorem spec_l13At.calls (k : Nat) (a0_0 : Int) (a0_1 : Int) (a1_0 : Int) (a1_1 : Int) (a2 : Int) (r1 : Int) (r2 : Int) (w : World) (h : spec_l13At.f k a0_0 a0_1 a1_0 a1_1 a2 = some (r1, r2)) :
  Calls Try.prog 53 #[.agg #[.int .i64 a0_0, .int .i64 a0_1], .agg #[.int .i64 a1_0, .int .i64 a1_1], .int .i64 a2] w fun e w' => e = .returned (.agg #[.int .i64 r1, .int .i64 r2]) ∧ Below w.heap.size w w' := by
 have tC := Try.underlying49
 have eB := Try.underlying25
 have HB := zQ (Below.refl w.heap.size w)
 have H := h; unfold spec_l13At.f at H
 clear h
 by_cases c4 : (wrap64 (a1_1 - a0_1)) < 0
 ·rw [if_pos c4] at H
  have oB := decide_eq_true c4; clear c4; replace H := zob H; obtain ⟨⟨dB, hB⟩, A5, H⟩ := H
  simp only [Option.some.injEq, Prod.mk.injEq] at H
  obtain ⟨rfl, rfl⟩ := H
  go_enter Try.func53, Try.ntmps53
  go_wp2_with (first | ((with_reducible refine zd 3 ?_); refine zbx (N := 3) (cs := #[.int .i64 a0_0, .int .i64 a0_1]) (t := 49) ?_; intro nB hg w6 bA hb; have dA := zQ (bA); have MA := zgz hg HB.out; have jA := MA; replace HB := zbs HB.out hb; clear hb bA hg) | ((with_reducible refine zd 4 ?_); refine zbx (N := 4) (cs := #[.int .i64 a1_0, .int .i64 a1_1]) (t := 49) ?_; intro mB hg w7 bA hb; have kA := zQ (bA); have LA := zgz2 hg HB.out jA.out; have mA := LA; have wA := zn1 hg dA.out; have uA := zn2 hg dA.out; replace dA := zbl dA.out hb; replace HB := zbs2 HB.out jA.out hb; clear hb bA hg) | ((with_reducible refine zd 6 ?_); refine zbx (N := 6) (cs := #[.int .i64 0, .int .i64 0]) (t := 25) ?_; intro zA hg w8 bA hb; have oA := zQ (bA); have tB := zQ ((by rw [hg]; exact (below_size (zB3 HB.out jA.out mA.out)) : w.heap.size ≤ zA)); have CA := zQ ((by rw [hg]; exact (below_size (zB3 HB.out jA.out mA.out)) : w.heap.size ≤ zA)); have vA := zn1 hg dA.out; have sA := zn2 hg dA.out; have tA := zn1 hg kA.out; have rA := zn2 hg kA.out; replace dA := zbl dA.out hb; replace kA := zbl kA.out hb; replace HB := zQ (below_step (zB3 HB.out jA.out mA.out) hb); clear hb bA hg; have XB := wA.out; have WB := uA.out; have lB := vA.out; have jB := sA.out; obtain ⟨XA, WA, TA, SA⟩ := zy2 dA.out; have kB := tA.out; have iB := rA.out; obtain ⟨VA, UA, RA, QA⟩ := zy2 kA.out) | ((with_reducible refine zgc 68 ?_); refine zgo (some 35) Try.func68 #[.int .i64 (wrap64 (-(wrap64 ((wrap64 (a0_0 * (wrap64 (a1_1 - a2)))) + (wrap64 (a1_0 * (wrap64 (a2 - a0_1)))))))), .int .i64 (wrap64 (-(wrap64 (a1_1 - a0_1))))] ?_; (with_reducible refine (spec_l01Make.calls k (wrap64 (-(wrap64 ((wrap64 (a0_0 * (wrap64 (a1_1 - a2)))) + (wrap64 (a1_0 * (wrap64 (a2 - a0_1)))))))) (wrap64 (-(wrap64 (a1_1 - a0_1)))) dB hB _ A5.out).mono ?_); rintro e sC ⟨rfl, hb⟩; refine ⟨_, rfl, ?_⟩; replace dA := zbl dA.out hb; replace kA := zbl kA.out hb; replace oA := zbl oA.out hb; replace HB := zQ (below_step (by repeat (first | (with_reducible first | exact HB.out | apply below_alloc | apply pw_below_drewN | apply below_drew1 | refine below_set ?_ jA.out | refine below_set ?_ mA.out | refine below_set ?_ CA.out) | exact HB.out)) hb); (try clear hb); obtain ⟨VB, UB, NB, MB⟩ := zy2 oA.out))
  refine bodyPost_ret (results_cell_row rfl _ _ zA 25 #[.int .i64 dB, .int .i64 hB] (0, 0) _ rfl (by refine zb ?_; refine blk_put (cs := #[.int .i64 dB, .int .i64 0]) ?_ 1 _ rfl; refine zb ?_; refine blk_put (cs := #[.int .i64 0, .int .i64 0]) ?_ 0 _ rfl; refine zb ?_; exact oA.out) Try.underlying25 rfl (by kernel_rfl)) rfl ?_
  exact ⟨zE, by repeat (first | (with_reducible first | exact HB.out | apply below_alloc | apply pw_below_drewN | apply below_drew1 | refine below_set ?_ jA.out | refine below_set ?_ mA.out | refine below_set ?_ CA.out) | exact HB.out)⟩
 ·rw [if_neg c4] at H
  have oB := decide_eq_false c4; clear c4; replace H := zob H; obtain ⟨⟨cB, gB⟩, DC, H⟩ := H
  simp only [Option.some.injEq, Prod.mk.injEq] at H
  obtain ⟨rfl, rfl⟩ := H
  go_enter Try.func53, Try.ntmps53
  go_wp2_with (first | ((with_reducible refine zd 3 ?_); refine zbx (N := 3) (cs := #[.int .i64 a0_0, .int .i64 a0_1]) (t := 49) ?_; intro nB hg HC bA hb; have dA := zQ (bA); have MA := zgz hg HB.out; have jA := MA; replace HB := zbs HB.out hb; clear hb bA hg) | ((with_reducible refine zd 4 ?_); refine zbx (N := 4) (cs := #[.int .i64 a1_0, .int .i64 a1_1]) (t := 49) ?_; intro mB hg GC bA hb; have kA := zQ (bA); have LA := zgz2 hg HB.out jA.out; have mA := LA; have wA := zn1 hg dA.out; have uA := zn2 hg dA.out; replace dA := zbl dA.out hb; replace HB := zbs2 HB.out jA.out hb; clear hb bA hg) | ((with_reducible refine zd 6 ?_); refine zbx (N := 6) (cs := #[.int .i64 0, .int .i64 0]) (t := 25) ?_; intro zA hg FC bA hb; have oA := zQ (bA); have tB := zQ ((by rw [hg]; exact (below_size (zB3 HB.out jA.out mA.out)) : w.heap.size ≤ zA)); have CA := zQ ((by rw [hg]; exact (below_size (zB3 HB.out jA.out mA.out)) : w.heap.size ≤ zA)); have vA := zn1 hg dA.out; have sA := zn2 hg dA.out; have tA := zn1 hg kA.out; have rA := zn2 hg kA.out; replace dA := zbl dA.out hb; replace kA := zbl kA.out hb; replace HB := zQ (below_step (zB3 HB.out jA.out mA.out) hb); clear hb bA hg; have mC := wA.out; have jC := uA.out; have lC := vA.out; have iC := sA.out; obtain ⟨TB, SB, LB, KB⟩ := zy2 dA.out; have kC := tA.out; have hC := rA.out; obtain ⟨RB, QB, JB, IB⟩ := zy2 kA.out) | ((with_reducible refine zgc 68 ?_); refine zgo (some 38) Try.func68 #[.int .i64 (wrap64 ((wrap64 (a0_0 * (wrap64 (a1_1 - a2)))) + (wrap64 (a1_0 * (wrap64 (a2 - a0_1)))))), .int .i64 (wrap64 (a1_1 - a0_1))] ?_; (with_reducible refine (spec_l01Make.calls k (wrap64 ((wrap64 (a0_0 * (wrap64 (a1_1 - a2)))) + (wrap64 (a1_0 * (wrap64 (a2 - a0_1)))))) (wrap64 (a1_1 - a0_1)) cB gB _ DC.out).mono ?_); rintro e EC ⟨rfl, hb⟩; refine ⟨_, rfl, ?_⟩; replace dA := zbl dA.out hb; replace kA := zbl kA.out hb; replace oA := zbl oA.out hb; replace HB := zQ (below_step (by repeat (first | (with_reducible first | exact HB.out | apply below_alloc | apply pw_below_drewN | apply below_drew1 | refine below_set ?_ jA.out | refine below_set ?_ mA.out | refine below_set ?_ CA.out) | exact HB.out)) hb); (try clear hb); obtain ⟨PB, OB, GB, FB⟩ := zy2 oA.out))
  refine bodyPost_ret (results_cell_row rfl _ _ zA 25 #[.int .i64 cB, .int .i64 gB] (0, 0) _ rfl (by refine zb ?_; refine blk_put (cs := #[.int .i64 cB, .int .i64 0]) ?_ 1 _ rfl; refine zb ?_; refine blk_put (cs := #[.int .i64 0, .int .i64 0]) ?_ 0 _ rfl; refine zb ?_; exact oA.out) Try.underlying25 rfl (by kernel_rfl)) rfl ?_
  exact ⟨zE, by repeat (first | (with_reducible first | exact HB.out | apply below_alloc | apply pw_below_drewN | apply below_drew1 | refine below_set ?_ jA.out | refine below_set ?_ mA.out | refine below_set ?_ CA.out) | exact HB.out)⟩

def spec_l13Less.f (a0_0 : Int) (a0_1 : Int) (a1_0 : Int) (a1_1 : Int) : Option (Bool) := some (decide ((wrap64 (a0_0 * a1_1)) < (wrap64 (a1_0 * a0_1))))
theorem spec_l13Less.calls (a0_0 : Int) (a0_1 : Int) (a1_0 : Int) (a1_1 : Int) (r : Bool) (w : World) (h : spec_l13Less.f a0_0 a0_1 a1_0 a1_1 = some r) :
  Calls Try.prog 54 #[.agg #[.int .i64 a0_0, .int .i64 a0_1], .agg #[.int .i64 a1_0, .int .i64 a1_1]] w fun e w' => e = .returned (.bool r) ∧ Below w.heap.size w w' := by
 have eB := Try.underlying25
 have HB := zQ (Below.refl w.heap.size w)
 have H := h; unfold spec_l13Less.f at H
 clear h
 obtain rfl := Option.some.inj H
 go_enter Try.func54, Try.ntmps54
 go_wp2_with (first | ((with_reducible refine zd 2 ?_); refine zbx (N := 2) (cs := #[.int .i64 a0_0, .int .i64 a0_1]) (t := 25) ?_; intro qC hg w3 bA hb; have DA := zQ (bA); have sB := zgz hg HB.out; have OA := sB; replace HB := zbs HB.out hb; clear hb bA hg) | ((with_reducible refine zd 3 ?_); refine zbx (N := 3) (cs := #[.int .i64 a1_0, .int .i64 a1_1]) (t := 25) ?_; intro pC hg w4 bA hb; have wB := zQ (bA); have rB := zgz2 hg HB.out OA.out; have vB := rB; have HA := zn1 hg DA.out; have GA := zn2 hg DA.out; replace DA := zbl DA.out hb; replace HB := zbs2 HB.out OA.out hb; clear hb bA hg; have xC := HA.out; have wC := GA.out; obtain ⟨fC, eC, bC, aC⟩ := zy2 DA.out; obtain ⟨dC, cC, ZB, YB⟩ := zy2 wB.out))
 go_ret
 exact ⟨zE, zB3 HB.out OA.out vB.out⟩

def spec_l13Sum.f (k : Nat) (a0_0 : Int) (a0_1 : Int) (a1_0 : Int) (a1_1 : Int) : Option (Int × Int) := (spec_l00Gcd.f k a0_1 a1_1).bind fun nA => (if nA = 0 then (none) else ((spec_l01Make.f k (wrap64 ((wrap64 (a0_0 * (wrap64 (Int.tdiv a1_1 nA)))) + (wrap64 (a1_0 * (wrap64 (Int.tdiv a0_1 nA)))))) (wrap64 ((wrap64 (Int.tdiv a0_1 nA)) * a1_1))).bind fun YA => (some (YA.1, YA.2))))
def spec_l13Sum.T2 : Bool × List (List Nat × List Nat) := (true, [([], []), ([0], [0]), ([], []), ([2], [2]), ([], []), ([3, 4], [3, 4]), ([1, 5], [1, 5]), ([], []), ([7], [7]), ([], []), ([9], [9]), ([], []), ([10, 11], [10, 11]), ([8, 12], [8, 12]), ([6, 13], [6, 13]), ([], []), ([15], [15]), ([], []), ([16, 17], [16, 17]), ([], []), ([19], [19]), ([18, 20], [18, 20]), ([14, 21], [14, 21]), ([22, 22, 0, 1, 2, 3, 4, 5, 6, 7, 8, 9, 10, 11, 12, 13, 14, 15, 16, 17, 18, 19, 20, 21, 22], [22])])
def spec_l13Sum.B2 : List Nat := [0, 1, 0, 4, 0, 28, 63, 0, 128, 0, 512, 0, 3584, 8064, 16383, 0, 32768, 0, 229376, 0, 524288, 2064384, 4194303, 8388607]
theorem spec_l13Sum.tab2 : rtab .any (opsOf Try.f55 2) = spec_l13Sum.T2 := by kernel_rfl
theorem spec_l13Sum.bits2 : waitsOk spec_l13Sum.T2.2 spec_l13Sum.B2 = true := by kernel_rfl
theorem spec_l13Sum.calls (k : Nat) (a0_0 : Int) (a0_1 : Int) (a1_0 : Int) (a1_1 : Int) (r1 : Int) (r2 : Int) (w : World) (h : spec_l13Sum.f k a0_0 a0_1 a1_0 a1_1 = some (r1, r2)) :
  Calls Try.prog 55 #[.agg #[.int .i64 a0_0, .int .i64 a0_1], .agg #[.int .i64 a1_0, .int .i64 a1_1]] w fun e w' => e = .returned (.agg #[.int .i64 r1, .int .i64 r2]) ∧ Below w.heap.size w w' := by
 have eB := Try.underlying25
 have HB := zQ (Below.refl w.heap.size w)
 have H := h; unfold spec_l13Sum.f at H
 clear h
 replace H := zob H; obtain ⟨nA, A3, H⟩ := H
 by_cases c4 : nA = 0
 ·rw [if_pos c4] at H
  exact absurd H (by simp)
 ·rw [if_neg c4] at H
  have oB : (nA == 0) = false := beq_eq_false_iff_ne.mpr c4; have CC : (nA != 0) = true := bne_iff_ne.mpr c4; replace H := zob H; obtain ⟨⟨bB, fB⟩, A5, H⟩ := H
  simp only [Option.some.injEq, Prod.mk.injEq] at H
  obtain ⟨rfl, rfl⟩ := H
  go_enter Try.func55, Try.ntmps55
  try go_wp2_with (first | ((with_reducible refine zd 2 ?_); refine zbx (N := 2) (cs := #[.int .i64 a0_0, .int .i64 a0_1]) (t := 25) ?_; intro KA hg w6 bA hb; have aA := zQ (bA); have qB := zgz hg HB.out; have xA := qB; replace HB := zbs HB.out hb; clear hb bA hg) | ((with_reducible refine zd 3 ?_); refine zbx (N := 3) (cs := #[.int .i64 a1_0, .int .i64 a1_1]) (t := 25) ?_; intro JA hg w7 bA hb; have cA := zQ (bA); have pB := zgz2 hg HB.out xA.out; have AA := pB; have FA := zn1 hg aA.out; have EA := zn2 hg aA.out; replace aA := zbl aA.out hb; replace HB := zbs2 HB.out xA.out hb; clear hb bA hg) | ((with_reducible refine zd 4 ?_); refine zbx (N := 4) (cs := #[.int .i64 0, .int .i64 0]) (t := 25) ?_; intro lA hg w8 bA hb; have fA := zQ (bA); have rC := zQ ((by rw [hg]; exact (below_size (zB3 HB.out xA.out AA.out)) : w.heap.size ≤ lA)); have NA := zQ ((by rw [hg]; exact (below_size (zB3 HB.out xA.out AA.out)) : w.heap.size ≤ lA)); have hA := zn1 hg aA.out; have qA := zn2 hg aA.out; have gA := zn1 hg cA.out; have pA := zn2 hg cA.out; replace aA := zbl aA.out hb; replace cA := zbl cA.out hb; replace HB := zQ (below_step (zB3 HB.out xA.out AA.out) hb); clear hb bA hg; have XB := FA.out; have WB := EA.out; have lB := hA.out; have jB := qA.out; obtain ⟨XA, WA, TA, SA⟩ := zy2 aA.out; have kB := gA.out; have iB := pA.out; obtain ⟨VA, UA, RA, QA⟩ := zy2 cA.out) | ((with_reducible refine zgc 69 ?_); refine zgo (some 10) Try.func69 #[.int .i64 a0_1, .int .i64 a1_1] ?_; (with_reducible refine (spec_l00Gcd.calls k a0_1 a1_1 nA _ A3.out).mono ?_); rintro e w' ⟨rfl, ⟨nd, rfl⟩⟩; refine ⟨_, rfl, ?_⟩; (try (rw [drewN_self w8]; generalize hq_ : World.drewN w8 _ = w8; have n0_ : Aside0 (w8.heap[KA]? = some (.cells #[.int .i64 a0_0, .int .i64 a0_1] 25 (0, 0))) := ⟨by rw [← hq_]; exact (zb aA.out)⟩; have n1_ : Aside0 (w8.heap[JA]? = some (.cells #[.int .i64 a1_0, .int .i64 a1_1] 25 (0, 0))) := ⟨by rw [← hq_]; exact (zb cA.out)⟩; have n2_ : Aside0 (w8.heap[lA]? = some (.cells #[.int .i64 0, .int .i64 0] 25 (0, 0))) := ⟨by rw [← hq_]; exact (zb fA.out)⟩; have n3_ : Aside0 (Below w.heap.size w w8) := ⟨by rw [← hq_]; exact (by repeat (first | (with_reducible first | exact HB.out | apply below_alloc | apply pw_below_drewN | apply below_drew1 | refine below_set ?_ xA.out | refine below_set ?_ AA.out | refine below_set ?_ NA.out) | exact HB.out))⟩; clear aA cA fA HB hq_; have aA := n0_; have cA := n1_; have fA := n2_; have HB := n3_; clear n0_ n1_ n2_ n3_)); (try (have hczrw8_gb173_0 := zc0 aA.out)); (try (have hfzrw8_gb173_0 := zfz aA.out 0)); (try (have hczrw8_gb173_1 := zc1 aA.out)); (try (have hfzrw8_gb173_1 := zfz aA.out 1)); (try (have hczrw8_gb174_0 := zc0 cA.out)); (try (have hfzrw8_gb174_0 := zfz cA.out 0)); (try (have hczrw8_gb174_1 := zc1 cA.out)); (try (have hfzrw8_gb174_1 := zfz cA.out 1)); (try (have hczrw8_gb175_0 := zc0 fA.out)); (try (have hfzrw8_gb175_0 := zfz fA.out 0)); (try (have hczrw8_gb175_1 := zc1 fA.out)); (try (have hfzrw8_gb175_1 := zfz fA.out 1))))
  have n0_ := zQ (blk_drew aA.out); have n1_ := zQ (blk_drew cA.out); have n2_ := zQ (blk_drew fA.out); have n3_ := zQ (below_drew1 HB.out); clear aA; clear cA; clear fA; clear HB; have aA := n0_; have cA := n1_; have fA := n2_; have HB := n3_; clear n0_ n1_ n2_ n3_
  refine zs (fun w' => w'.cell? ⟨KA, 0, none⟩ = some (.int .i64 a0_0) ∧ w'.cell? ⟨KA, 1, none⟩ = some (.int .i64 a0_1) ∧ w'.cell? ⟨JA, 0, none⟩ = some (.int .i64 a1_0) ∧ w'.cell? ⟨JA, 1, none⟩ = some (.int .i64 a1_1)) [] 24 ⟨(blk_cell aA.out 0).trans rfl, (blk_cell aA.out 1).trans rfl, (blk_cell cA.out 0).trans rfl, (blk_cell cA.out 1).trans rfl⟩ (fun iA => ?_); refine with_tabW spec_l13Sum.tab2 spec_l13Sum.bits2 (fun HT_ HW_ => ?_)
  generalize w8.drew = sC at aA cA fA HB iA ⊢
  refine zp 0 11 ?_
  refine zp 2 13 ?_
  refine zp 4 15 ?_
  refine zp 7 18 ?_
  refine zp 9 20 ?_
  refine zp 11 22 ?_
  refine zp 15 26 ?_
  refine zp 17 28 ?_
  refine zp 19 30 ?_
  refine zt 1 12 iA ?_
  refine zt 3 14 iA ?_
  refine zp 5 16 ?_
  refine zp 6 17 ?_
  refine zt 8 19 iA ?_
  refine zt 10 21 iA ?_
  refine zp 12 23 ?_
  refine zp 13 24 ?_
  refine zp 14 25 ?_
  refine zt 16 27 iA ?_
  refine zp 18 29 ?_
  refine zt 20 31 iA ?_
  refine zp 21 32 ?_
  refine zo 22 (some 33) (fun K hK => ?_)
  refine goes_ Try.func68 (by kernel_rfl) rfl #[.int .i64 (wrap64 ((wrap64 (a0_0 * (wrap64 (Int.tdiv a1_1 nA)))) + (wrap64 (a1_0 * (wrap64 (Int.tdiv a0_1 nA)))))), .int .i64 (wrap64 ((wrap64 (Int.tdiv a0_1 nA)) * a1_1))] (by rfl) rfl rfl zM ?_
  with_reducible refine (spec_l01Make.calls k (wrap64 ((wrap64 (a0_0 * (wrap64 (Int.tdiv a1_1 nA)))) + (wrap64 (a1_0 * (wrap64 (Int.tdiv a0_1 nA)))))) (wrap64 ((wrap64 (Int.tdiv a0_1 nA)) * a1_1)) bB fB _ A5.out).mono ?_
  rintro e gC ⟨rfl, hb⟩
  refine ⟨_, rfl, ?_⟩
  have n0_ := zbl aA.out hb; have n1_ := zbl cA.out hb; have n2_ := zbl fA.out hb; have n3_ := zQ (below_step (by repeat (first | (with_reducible first | exact HB.out | apply below_alloc | apply pw_below_drewN | apply below_drew1 | refine below_set ?_ xA.out | refine below_set ?_ AA.out | refine below_set ?_ NA.out) | exact HB.out)) hb); clear aA; clear cA; clear fA; clear HB; have aA := n0_; have cA := n1_; have fA := n2_; have HB := n3_; clear n0_ n1_ n2_ n3_
  (try clear hb)
  (try clear KC)
  (try clear hk)
  (try clear hi)
  refine hK.out _ _ ⟨(blk_cell aA.out 0).trans rfl, (blk_cell aA.out 1).trans rfl, (blk_cell cA.out 0).trans rfl, (blk_cell cA.out 1).trans rfl⟩ (fun iA => ?_)
  clear hK K
  refine zn 33 ?_
  refine zo 23 none (fun K hK => ?_)
  have vC : gC.cell? ⟨lA, 0, none⟩ = some (.int .i64 0) := (blk_cell fA.out 0).trans rfl; have oC := zfz fA.out 0; have AB := hA.out; have zB := gA.out; have EB := qA.out; have DB := pA.out; have uC : gC.cell? ⟨lA, 1, none⟩ = some (.int .i64 0) := (blk_cell fA.out 1).trans rfl; have nC := zfz fA.out 1; have yB := hA.out; have xB := gA.out; have CB := qA.out; have BB := pA.out
  refine skip_ (w1 := ?_) (by rfl) rfl ?_ ?_
  rotate_left
  ·go_simp
   rfl
  refine hK.out _ _ ⟨((cell_far (p := ⟨lA, _, none⟩) hA.out _).trans (((cell_far (p := ⟨lA, _, none⟩) hA.out _).trans (iA.1)))), ((cell_far (p := ⟨lA, _, none⟩) hA.out _).trans (((cell_far (p := ⟨lA, _, none⟩) hA.out _).trans (iA.2.1)))), ((cell_far (p := ⟨lA, _, none⟩) gA.out _).trans (((cell_far (p := ⟨lA, _, none⟩) gA.out _).trans (iA.2.2.1)))), ((cell_far (p := ⟨lA, _, none⟩) gA.out _).trans (((cell_far (p := ⟨lA, _, none⟩) gA.out _).trans (iA.2.2.2))))⟩ (fun iA => ?_)
  clear hK K
  refine done_ (done_of HT_.out (by kernel_rfl)) ?_
  try go_wp2
  refine bodyPost_ret (results_cell_row rfl _ _ lA 25 #[.int .i64 bB, .int .i64 fB] (0, 0) _ rfl (by refine zb ?_; refine blk_put (cs := #[.int .i64 bB, .int .i64 0]) ?_ 1 _ rfl; refine zb ?_; refine blk_put (cs := #[.int .i64 0, .int .i64 0]) ?_ 0 _ rfl; refine zb ?_; exact fA.out) Try.underlying25 rfl (by kernel_rfl)) rfl ?_
  exact ⟨zE, by repeat (first | (with_reducible first | exact HB.out | apply below_alloc | apply pw_below_drewN | apply below_drew1 | refine below_set ?_ xA.out | refine below_set ?_ AA.out | refine below_set ?_ NA.out) | exact HB.out)⟩

end
end Go.Proofs.Ytchngbjpjbahiaa.PSailw

