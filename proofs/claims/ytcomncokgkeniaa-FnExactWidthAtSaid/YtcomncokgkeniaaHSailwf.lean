import Derived.Test.YtcomncokgkeniaaHSailw0
import Derived.Test.YtcomncokgkeniaaHSailwe
namespace Go.Proofs.Ytcomncokgkeniaa.PSailw
noncomputable section
open Go.RowKit Go.Proofs.YtcomncokgkeniaaW.PrintWords Go.Proofs.YtcomncokgkeniaaW.PrintLast Go.Proofs.YtcomncokgkeniaaW.PrintMore
attribute [local go_sem] max2_int min2_int max_two min_two max_three min_three max_four min_four   -- for this text's walks alone
set_option linter.unusedVariables false
set_option linter.unusedSimpArgs false
set_option maxHeartbeats 8000000
set_option maxRecDepth 100000

def spec_l01Make.f (k : Nat) (a0 : Int) (a1 : Int) : Option (Int × Int) := (spec_l00Size.f a0).bind fun t162 => ((spec_l00Gcd.f k t162 a1).bind fun t163 => (if t163 = 0 then (none) else (some (wrap64 (Int.tdiv a0 t163), wrap64 (Int.tdiv a1 t163)))))
def spec_l01Make.T2 : Bool × List (List Nat × List Nat) := (true, [([], []), ([], []), ([0, 1], [0, 1]), ([], []), ([], []), ([3, 4], [3, 4]), ([2, 5], [2, 5]), ([6, 0, 1, 2, 3, 4, 5, 6], [6])])
def spec_l01Make.B2 : List Nat := [0, 0, 3, 0, 0, 24, 63, 127]
theorem spec_l01Make.tab2 : rtab .any (opsOf Try.f68 2) = spec_l01Make.T2 := by kernel_rfl
theorem spec_l01Make.bits2 : waitsOk spec_l01Make.T2.2 spec_l01Make.B2 = true := by kernel_rfl
theorem spec_l01Make.calls (k : Nat) (a0 : Int) (a1 : Int) (r1 : Int) (r2 : Int) (w : World) (h : spec_l01Make.f k a0 a1 = some (r1, r2)) :
  Calls Try.prog 68 #[.int .i64 a0, .int .i64 a1] w fun e w' => e = .returned (.agg #[.int .i64 r1, .int .i64 r2]) ∧ Below w.heap.size w w' := by
 have hu25 := Try.underlying25
 have HB := zQ (Below.refl w.heap.size w)
 have H := h; unfold spec_l01Make.f at H
 clear h
 replace H := zob H; obtain ⟨t162, A3, H⟩ := H
 replace H := zob H; obtain ⟨t163, A4, H⟩ := H
 by_cases c5 : t163 = 0
 ·rw [if_pos c5] at H
  exact absurd H (by simp)
 ·rw [if_neg c5] at H
  have c5b0 : (t163 == 0) = false := beq_eq_false_iff_ne.mpr c5; have c5b1 : (t163 != 0) = true := bne_iff_ne.mpr c5
  simp only [Option.some.injEq, Prod.mk.injEq] at H
  obtain ⟨rfl, rfl⟩ := H
  go_enter Try.func68, Try.ntmps68
  try go_wp2_with (first | ((with_reducible refine zd 4 ?_); refine zbx (N := 4) (cs := #[.int .i64 0, .int .i64 0]) (t := 25) ?_; intro gb161 hg w6 hbox hb; have BK161 := zQ (hbox); have GW161 := zgz hg HB.out; have GE161 := GW161; replace HB := zbs HB.out hb; clear hb hbox hg) | ((with_reducible refine zgc 77 ?_); refine zgo (some 7) Try.func77 #[.int .i64 a0] ?_; (with_reducible refine (spec_l00Size.calls a0 t162 _ A3.out).mono ?_); rintro e w' ⟨rfl, ⟨nd, rfl⟩⟩; refine ⟨_, rfl, ?_⟩; (try (rw [drewN_self w6]; generalize hq_ : World.drewN w6 _ = w6; have n0_ : Aside0 (w6.heap[gb161]? = some (.cells #[.int .i64 0, .int .i64 0] 25 (0, 0))) := ⟨by rw [← hq_]; exact (zb BK161.out)⟩; have n1_ : Aside0 (Below w.heap.size w w6) := ⟨by rw [← hq_]; exact (zB2 HB.out GE161.out)⟩; clear BK161 HB hq_; have BK161 := n0_; have HB := n1_; clear n0_ n1_)); (try (have hczrw6_gb161_0 := zc0 BK161.out)); (try (have hfzrw6_gb161_0 := zfz BK161.out 0)); (try (have hczrw6_gb161_1 := zc1 BK161.out)); (try (have hfzrw6_gb161_1 := zfz BK161.out 1))) | ((with_reducible refine zgc 69 ?_); refine zgo (some 9) Try.func69 #[.int .i64 t162, .int .i64 a1] ?_; (with_reducible refine (spec_l00Gcd.calls k t162 a1 t163 _ A4.out).mono ?_); rintro e w' ⟨rfl, ⟨nd, rfl⟩⟩; refine ⟨_, rfl, ?_⟩; (try (rw [drewN_self w6]; generalize hq_ : World.drewN w6 _ = w6; have n0_ : Aside0 (w6.heap[gb161]? = some (.cells #[.int .i64 0, .int .i64 0] 25 (0, 0))) := ⟨by rw [← hq_]; exact (zb BK161.out)⟩; have n1_ : Aside0 (Below w.heap.size w w6) := ⟨by rw [← hq_]; exact (zB2 HB.out GE161.out)⟩; clear BK161 HB hq_; have BK161 := n0_; have HB := n1_; clear n0_ n1_)); (try (have hczrw6_gb161_0 := zc0 BK161.out)); (try (have hfzrw6_gb161_0 := zfz BK161.out 0)); (try (have hczrw6_gb161_1 := zc1 BK161.out)); (try (have hfzrw6_gb161_1 := zfz BK161.out 1))))
  have n0_ := zQ (blk_drew BK161.out); have n1_ := zQ (below_drew1 HB.out); clear BK161; clear HB; have BK161 := n0_; have HB := n1_; clear n0_ n1_
  refine zs (fun w' => True) [] 8 trivial (fun hHeld => ?_); refine with_tabW spec_l01Make.tab2 spec_l01Make.bits2 (fun HT_ HW_ => ?_)
  generalize w6.drew = w7 at BK161 HB hHeld ⊢
  refine zp 0 10 ?_
  refine zp 1 11 ?_
  refine zp 2 12 ?_
  refine zp 3 13 ?_
  refine zp 4 14 ?_
  refine zp 5 15 ?_
  refine zp 6 16 ?_
  refine zo 7 none (fun K hK => ?_)
  have hs8 : w7.cell? ⟨gb161, 0, none⟩ = some (.int .i64 0) := (blk_cell BK161.out 0).trans rfl; have hfs8 := zfz BK161.out 0; have hs9 : w7.cell? ⟨gb161, 1, none⟩ = some (.int .i64 0) := (blk_cell BK161.out 1).trans rfl; have hfs9 := zfz BK161.out 1
  refine skip_ (w1 := ?_) (by rfl) rfl ?_ ?_
  rotate_left
  ·go_simp
   rfl
  refine hK.out _ _ trivial (fun hHeld => ?_)
  clear hK K
  refine done_ (done_of HT_.out (by kernel_rfl)) ?_
  try go_wp2
  refine bodyPost_ret (results_cell_row rfl _ _ gb161 25 #[.int .i64 (wrap64 (Int.tdiv a0 t163)), .int .i64 (wrap64 (Int.tdiv a1 t163))] (0, 0) _ rfl (by refine zb ?_; refine blk_put (cs := #[.int .i64 (wrap64 (Int.tdiv a0 t163)), .int .i64 0]) ?_ 1 _ rfl; refine zb ?_; refine blk_put (cs := #[.int .i64 0, .int .i64 0]) ?_ 0 _ rfl; refine zb ?_; exact BK161.out) Try.underlying25 rfl (by kernel_rfl)) rfl ?_
  exact ⟨zE, zB2 HB.out GE161.out⟩

def spec_l13At.f (k : Nat) (a0_0 : Int) (a0_1 : Int) (a1_0 : Int) (a1_1 : Int) (a2 : Int) : Option (Int × Int) := if (wrap64 (a1_1 - a0_1)) < 0 then ((spec_l01Make.f k (wrap64 (-(wrap64 ((wrap64 (a0_0 * (wrap64 (a1_1 - a2)))) + (wrap64 (a1_0 * (wrap64 (a2 - a0_1)))))))) (wrap64 (-(wrap64 (a1_1 - a0_1))))).bind fun bt167 => (some (bt167.1, bt167.2))) else ((spec_l01Make.f k (wrap64 ((wrap64 (a0_0 * (wrap64 (a1_1 - a2)))) + (wrap64 (a1_0 * (wrap64 (a2 - a0_1)))))) (wrap64 (a1_1 - a0_1))).bind fun bt169 => (some (bt169.1, bt169.2)))
theorem spec_l13At.calls (k : Nat) (a0_0 : Int) (a0_1 : Int) (a1_0 : Int) (a1_1 : Int) (a2 : Int) (r1 : Int) (r2 : Int) (w : World) (h : spec_l13At.f k a0_0 a0_1 a1_0 a1_1 a2 = some (r1, r2)) :
  Calls Try.prog 53 #[.agg #[.int .i64 a0_0, .int .i64 a0_1], .agg #[.int .i64 a1_0, .int .i64 a1_1], .int .i64 a2] w fun e w' => e = .returned (.agg #[.int .i64 r1, .int .i64 r2]) ∧ Below w.heap.size w w' := by
 have hu49 := Try.underlying49
 have hu25 := Try.underlying25
 have HB := zQ (Below.refl w.heap.size w)
 have H := h; unfold spec_l13At.f at H
 clear h
 by_cases c4 : (wrap64 (a1_1 - a0_1)) < 0
 ·rw [if_pos c4] at H
  have c4b0 := decide_eq_true c4; clear c4; replace H := zob H; obtain ⟨⟨t167, t168⟩, A5, H⟩ := H
  simp only [Option.some.injEq, Prod.mk.injEq] at H
  obtain ⟨rfl, rfl⟩ := H
  go_enter Try.func53, Try.ntmps53
  go_wp2_with (first | ((with_reducible refine zd 3 ?_); refine zbx (N := 3) (cs := #[.int .i64 a0_0, .int .i64 a0_1]) (t := 49) ?_; intro gb164 hg w6 hbox hb; have BK164 := zQ (hbox); have GW164 := zgz hg HB.out; have GE164 := GW164; replace HB := zbs HB.out hb; clear hb hbox hg) | ((with_reducible refine zd 4 ?_); refine zbx (N := 4) (cs := #[.int .i64 a1_0, .int .i64 a1_1]) (t := 49) ?_; intro gb165 hg w7 hbox hb; have BK165 := zQ (hbox); have GW165 := zgz2 hg HB.out GE164.out; have GE165 := GW165; have NB164_165 := zn1 hg BK164.out; have NB165_164 := zn2 hg BK164.out; replace BK164 := zbl BK164.out hb; replace HB := zbs2 HB.out GE164.out hb; clear hb hbox hg) | ((with_reducible refine zd 6 ?_); refine zbx (N := 6) (cs := #[.int .i64 0, .int .i64 0]) (t := 25) ?_; intro gb166 hg w8 hbox hb; have BK166 := zQ (hbox); have GW166 := zQ ((by rw [hg]; exact (below_size (zB3 HB.out GE164.out GE165.out)) : w.heap.size ≤ gb166)); have GE166 := zQ ((by rw [hg]; exact (below_size (zB3 HB.out GE164.out GE165.out)) : w.heap.size ≤ gb166)); have NB164_166 := zn1 hg BK164.out; have NB166_164 := zn2 hg BK164.out; have NB165_166 := zn1 hg BK165.out; have NB166_165 := zn2 hg BK165.out; replace BK164 := zbl BK164.out hb; replace BK165 := zbl BK165.out hb; replace HB := zQ (below_step (zB3 HB.out GE164.out GE165.out) hb); clear hb hbox hg; have hnb9 := NB164_165.out; have hnc9 := NB165_164.out; have hnb10 := NB164_166.out; have hnc10 := NB166_164.out; obtain ⟨hcz11_0, hcz11_1, hfz11_0, hfz11_1⟩ := zy2 BK164.out; have hnb12 := NB165_166.out; have hnc12 := NB166_165.out; obtain ⟨hcz13_0, hcz13_1, hfz13_0, hfz13_1⟩ := zy2 BK165.out) | ((with_reducible refine zgc 68 ?_); refine zgo (some 35) Try.func68 #[.int .i64 (wrap64 (-(wrap64 ((wrap64 (a0_0 * (wrap64 (a1_1 - a2)))) + (wrap64 (a1_0 * (wrap64 (a2 - a0_1)))))))), .int .i64 (wrap64 (-(wrap64 (a1_1 - a0_1))))] ?_; (with_reducible refine (spec_l01Make.calls k (wrap64 (-(wrap64 ((wrap64 (a0_0 * (wrap64 (a1_1 - a2)))) + (wrap64 (a1_0 * (wrap64 (a2 - a0_1)))))))) (wrap64 (-(wrap64 (a1_1 - a0_1)))) t167 t168 _ A5.out).mono ?_); rintro e w14 ⟨rfl, hb⟩; refine ⟨_, rfl, ?_⟩; replace BK164 := zbl BK164.out hb; replace BK165 := zbl BK165.out hb; replace BK166 := zbl BK166.out hb; replace HB := zQ (below_step (by repeat (first | (with_reducible first | exact HB.out | apply below_alloc | apply pw_below_drewN | apply below_drew1 | refine below_set ?_ GE164.out | refine below_set ?_ GE165.out | refine below_set ?_ GE166.out) | exact HB.out)) hb); (try clear hb); obtain ⟨hcz15_0, hcz15_1, hfz15_0, hfz15_1⟩ := zy2 BK166.out))
  refine bodyPost_ret (results_cell_row rfl _ _ gb166 25 #[.int .i64 t167, .int .i64 t168] (0, 0) _ rfl (by refine zb ?_; refine blk_put (cs := #[.int .i64 t167, .int .i64 0]) ?_ 1 _ rfl; refine zb ?_; refine blk_put (cs := #[.int .i64 0, .int .i64 0]) ?_ 0 _ rfl; refine zb ?_; exact BK166.out) Try.underlying25 rfl (by kernel_rfl)) rfl ?_
  exact ⟨zE, by repeat (first | (with_reducible first | exact HB.out | apply below_alloc | apply pw_below_drewN | apply below_drew1 | refine below_set ?_ GE164.out | refine below_set ?_ GE165.out | refine below_set ?_ GE166.out) | exact HB.out)⟩
 ·rw [if_neg c4] at H
  have c4b0 := decide_eq_false c4; clear c4; replace H := zob H; obtain ⟨⟨t169, t170⟩, A16, H⟩ := H
  simp only [Option.some.injEq, Prod.mk.injEq] at H
  obtain ⟨rfl, rfl⟩ := H
  go_enter Try.func53, Try.ntmps53
  go_wp2_with (first | ((with_reducible refine zd 3 ?_); refine zbx (N := 3) (cs := #[.int .i64 a0_0, .int .i64 a0_1]) (t := 49) ?_; intro gb164 hg w17 hbox hb; have BK164 := zQ (hbox); have GW164 := zgz hg HB.out; have GE164 := GW164; replace HB := zbs HB.out hb; clear hb hbox hg) | ((with_reducible refine zd 4 ?_); refine zbx (N := 4) (cs := #[.int .i64 a1_0, .int .i64 a1_1]) (t := 49) ?_; intro gb165 hg w18 hbox hb; have BK165 := zQ (hbox); have GW165 := zgz2 hg HB.out GE164.out; have GE165 := GW165; have NB164_165 := zn1 hg BK164.out; have NB165_164 := zn2 hg BK164.out; replace BK164 := zbl BK164.out hb; replace HB := zbs2 HB.out GE164.out hb; clear hb hbox hg) | ((with_reducible refine zd 6 ?_); refine zbx (N := 6) (cs := #[.int .i64 0, .int .i64 0]) (t := 25) ?_; intro gb166 hg w19 hbox hb; have BK166 := zQ (hbox); have GW166 := zQ ((by rw [hg]; exact (below_size (zB3 HB.out GE164.out GE165.out)) : w.heap.size ≤ gb166)); have GE166 := zQ ((by rw [hg]; exact (below_size (zB3 HB.out GE164.out GE165.out)) : w.heap.size ≤ gb166)); have NB164_166 := zn1 hg BK164.out; have NB166_164 := zn2 hg BK164.out; have NB165_166 := zn1 hg BK165.out; have NB166_165 := zn2 hg BK165.out; replace BK164 := zbl BK164.out hb; replace BK165 := zbl BK165.out hb; replace HB := zQ (below_step (zB3 HB.out GE164.out GE165.out) hb); clear hb hbox hg; have hnb20 := NB164_165.out; have hnc20 := NB165_164.out; have hnb21 := NB164_166.out; have hnc21 := NB166_164.out; obtain ⟨hcz22_0, hcz22_1, hfz22_0, hfz22_1⟩ := zy2 BK164.out; have hnb23 := NB165_166.out; have hnc23 := NB166_165.out; obtain ⟨hcz24_0, hcz24_1, hfz24_0, hfz24_1⟩ := zy2 BK165.out) | ((with_reducible refine zgc 68 ?_); refine zgo (some 38) Try.func68 #[.int .i64 (wrap64 ((wrap64 (a0_0 * (wrap64 (a1_1 - a2)))) + (wrap64 (a1_0 * (wrap64 (a2 - a0_1)))))), .int .i64 (wrap64 (a1_1 - a0_1))] ?_; (with_reducible refine (spec_l01Make.calls k (wrap64 ((wrap64 (a0_0 * (wrap64 (a1_1 - a2)))) + (wrap64 (a1_0 * (wrap64 (a2 - a0_1)))))) (wrap64 (a1_1 - a0_1)) t169 t170 _ A16.out).mono ?_); rintro e w25 ⟨rfl, hb⟩; refine ⟨_, rfl, ?_⟩; replace BK164 := zbl BK164.out hb; replace BK165 := zbl BK165.out hb; replace BK166 := zbl BK166.out hb; replace HB := zQ (below_step (by repeat (first | (with_reducible first | exact HB.out | apply below_alloc | apply pw_below_drewN | apply below_drew1 | refine below_set ?_ GE164.out | refine below_set ?_ GE165.out | refine below_set ?_ GE166.out) | exact HB.out)) hb); (try clear hb); obtain ⟨hcz26_0, hcz26_1, hfz26_0, hfz26_1⟩ := zy2 BK166.out))
  refine bodyPost_ret (results_cell_row rfl _ _ gb166 25 #[.int .i64 t169, .int .i64 t170] (0, 0) _ rfl (by refine zb ?_; refine blk_put (cs := #[.int .i64 t169, .int .i64 0]) ?_ 1 _ rfl; refine zb ?_; refine blk_put (cs := #[.int .i64 0, .int .i64 0]) ?_ 0 _ rfl; refine zb ?_; exact BK166.out) Try.underlying25 rfl (by kernel_rfl)) rfl ?_
  exact ⟨zE, by repeat (first | (with_reducible first | exact HB.out | apply below_alloc | apply pw_below_drewN | apply below_drew1 | refine below_set ?_ GE164.out | refine below_set ?_ GE165.out | refine below_set ?_ GE166.out) | exact HB.out)⟩

def spec_l13Less.f (a0_0 : Int) (a0_1 : Int) (a1_0 : Int) (a1_1 : Int) : Option (Bool) := some (decide ((wrap64 (a0_0 * a1_1)) < (wrap64 (a1_0 * a0_1))))
theorem spec_l13Less.calls (a0_0 : Int) (a0_1 : Int) (a1_0 : Int) (a1_1 : Int) (r : Bool) (w : World) (h : spec_l13Less.f a0_0 a0_1 a1_0 a1_1 = some r) :
  Calls Try.prog 54 #[.agg #[.int .i64 a0_0, .int .i64 a0_1], .agg #[.int .i64 a1_0, .int .i64 a1_1]] w fun e w' => e = .returned (.bool r) ∧ Below w.heap.size w w' := by
 have hu25 := Try.underlying25
 have HB := zQ (Below.refl w.heap.size w)
 have H := h; unfold spec_l13Less.f at H
 clear h
 obtain rfl := Option.some.inj H
 go_enter Try.func54, Try.ntmps54
 go_wp2_with (first | ((with_reducible refine zd 2 ?_); refine zbx (N := 2) (cs := #[.int .i64 a0_0, .int .i64 a0_1]) (t := 25) ?_; intro gb171 hg w3 hbox hb; have BK171 := zQ (hbox); have GW171 := zgz hg HB.out; have GE171 := GW171; replace HB := zbs HB.out hb; clear hb hbox hg) | ((with_reducible refine zd 3 ?_); refine zbx (N := 3) (cs := #[.int .i64 a1_0, .int .i64 a1_1]) (t := 25) ?_; intro gb172 hg w4 hbox hb; have BK172 := zQ (hbox); have GW172 := zgz2 hg HB.out GE171.out; have GE172 := GW172; have NB171_172 := zn1 hg BK171.out; have NB172_171 := zn2 hg BK171.out; replace BK171 := zbl BK171.out hb; replace HB := zbs2 HB.out GE171.out hb; clear hb hbox hg; have hnb5 := NB171_172.out; have hnc5 := NB172_171.out; obtain ⟨hcz6_0, hcz6_1, hfz6_0, hfz6_1⟩ := zy2 BK171.out; obtain ⟨hcz7_0, hcz7_1, hfz7_0, hfz7_1⟩ := zy2 BK172.out))
 go_ret
 exact ⟨zE, zB3 HB.out GE171.out GE172.out⟩

def spec_l13Sum.f (k : Nat) (a0_0 : Int) (a0_1 : Int) (a1_0 : Int) (a1_1 : Int) : Option (Int × Int) := (spec_l00Gcd.f k a0_1 a1_1).bind fun t176 => (if t176 = 0 then (none) else ((spec_l01Make.f k (wrap64 ((wrap64 (a0_0 * (wrap64 (Int.tdiv a1_1 t176)))) + (wrap64 (a1_0 * (wrap64 (Int.tdiv a0_1 t176)))))) (wrap64 ((wrap64 (Int.tdiv a0_1 t176)) * a1_1))).bind fun bt177 => (some (bt177.1, bt177.2))))
def spec_l13Sum.T2 : Bool × List (List Nat × List Nat) := (true, [([], []), ([0], [0]), ([], []), ([2], [2]), ([], []), ([3, 4], [3, 4]), ([1, 5], [1, 5]), ([], []), ([7], [7]), ([], []), ([9], [9]), ([], []), ([10, 11], [10, 11]), ([8, 12], [8, 12]), ([6, 13], [6, 13]), ([], []), ([15], [15]), ([], []), ([16, 17], [16, 17]), ([], []), ([19], [19]), ([18, 20], [18, 20]), ([14, 21], [14, 21]), ([22, 22, 0, 1, 2, 3, 4, 5, 6, 7, 8, 9, 10, 11, 12, 13, 14, 15, 16, 17, 18, 19, 20, 21, 22], [22])])
def spec_l13Sum.B2 : List Nat := [0, 1, 0, 4, 0, 28, 63, 0, 128, 0, 512, 0, 3584, 8064, 16383, 0, 32768, 0, 229376, 0, 524288, 2064384, 4194303, 8388607]
theorem spec_l13Sum.tab2 : rtab .any (opsOf Try.f55 2) = spec_l13Sum.T2 := by kernel_rfl
theorem spec_l13Sum.bits2 : waitsOk spec_l13Sum.T2.2 spec_l13Sum.B2 = true := by kernel_rfl
theorem spec_l13Sum.calls (k : Nat) (a0_0 : Int) (a0_1 : Int) (a1_0 : Int) (a1_1 : Int) (r1 : Int) (r2 : Int) (w : World) (h : spec_l13Sum.f k a0_0 a0_1 a1_0 a1_1 = some (r1, r2)) :
  Calls Try.prog 55 #[.agg #[.int .i64 a0_0, .int .i64 a0_1], .agg #[.int .i64 a1_0, .int .i64 a1_1]] w fun e w' => e = .returned (.agg #[.int .i64 r1, .int .i64 r2]) ∧ Below w.heap.size w w' := by
 have hu25 := Try.underlying25
 have HB := zQ (Below.refl w.heap.size w)
 have H := h; unfold spec_l13Sum.f at H
 clear h
 replace H := zob H; obtain ⟨t176, A3, H⟩ := H
 by_cases c4 : t176 = 0
 ·rw [if_pos c4] at H
  exact absurd H (by simp)
 ·rw [if_neg c4] at H
  have c4b0 : (t176 == 0) = false := beq_eq_false_iff_ne.mpr c4; have c4b1 : (t176 != 0) = true := bne_iff_ne.mpr c4; replace H := zob H; obtain ⟨⟨t177, t178⟩, A5, H⟩ := H
  simp only [Option.some.injEq, Prod.mk.injEq] at H
  obtain ⟨rfl, rfl⟩ := H
  go_enter Try.func55, Try.ntmps55
  try go_wp2_with (first | ((with_reducible refine zd 2 ?_); refine zbx (N := 2) (cs := #[.int .i64 a0_0, .int .i64 a0_1]) (t := 25) ?_; intro gb173 hg w6 hbox hb; have BK173 := zQ (hbox); have GW173 := zgz hg HB.out; have GE173 := GW173; replace HB := zbs HB.out hb; clear hb hbox hg) | ((with_reducible refine zd 3 ?_); refine zbx (N := 3) (cs := #[.int .i64 a1_0, .int .i64 a1_1]) (t := 25) ?_; intro gb174 hg w7 hbox hb; have BK174 := zQ (hbox); have GW174 := zgz2 hg HB.out GE173.out; have GE174 := GW174; have NB173_174 := zn1 hg BK173.out; have NB174_173 := zn2 hg BK173.out; replace BK173 := zbl BK173.out hb; replace HB := zbs2 HB.out GE173.out hb; clear hb hbox hg) | ((with_reducible refine zd 4 ?_); refine zbx (N := 4) (cs := #[.int .i64 0, .int .i64 0]) (t := 25) ?_; intro gb175 hg w8 hbox hb; have BK175 := zQ (hbox); have GW175 := zQ ((by rw [hg]; exact (below_size (zB3 HB.out GE173.out GE174.out)) : w.heap.size ≤ gb175)); have GE175 := zQ ((by rw [hg]; exact (below_size (zB3 HB.out GE173.out GE174.out)) : w.heap.size ≤ gb175)); have NB173_175 := zn1 hg BK173.out; have NB175_173 := zn2 hg BK173.out; have NB174_175 := zn1 hg BK174.out; have NB175_174 := zn2 hg BK174.out; replace BK173 := zbl BK173.out hb; replace BK174 := zbl BK174.out hb; replace HB := zQ (below_step (zB3 HB.out GE173.out GE174.out) hb); clear hb hbox hg; have hnb9 := NB173_174.out; have hnc9 := NB174_173.out; have hnb10 := NB173_175.out; have hnc10 := NB175_173.out; obtain ⟨hcz11_0, hcz11_1, hfz11_0, hfz11_1⟩ := zy2 BK173.out; have hnb12 := NB174_175.out; have hnc12 := NB175_174.out; obtain ⟨hcz13_0, hcz13_1, hfz13_0, hfz13_1⟩ := zy2 BK174.out) | ((with_reducible refine zgc 69 ?_); refine zgo (some 10) Try.func69 #[.int .i64 a0_1, .int .i64 a1_1] ?_; (with_reducible refine (spec_l00Gcd.calls k a0_1 a1_1 t176 _ A3.out).mono ?_); rintro e w' ⟨rfl, ⟨nd, rfl⟩⟩; refine ⟨_, rfl, ?_⟩; (try (rw [drewN_self w8]; generalize hq_ : World.drewN w8 _ = w8; have n0_ : Aside0 (w8.heap[gb173]? = some (.cells #[.int .i64 a0_0, .int .i64 a0_1] 25 (0, 0))) := ⟨by rw [← hq_]; exact (zb BK173.out)⟩; have n1_ : Aside0 (w8.heap[gb174]? = some (.cells #[.int .i64 a1_0, .int .i64 a1_1] 25 (0, 0))) := ⟨by rw [← hq_]; exact (zb BK174.out)⟩; have n2_ : Aside0 (w8.heap[gb175]? = some (.cells #[.int .i64 0, .int .i64 0] 25 (0, 0))) := ⟨by rw [← hq_]; exact (zb BK175.out)⟩; have n3_ : Aside0 (Below w.heap.size w w8) := ⟨by rw [← hq_]; exact (by repeat (first | (with_reducible first | exact HB.out | apply below_alloc | apply pw_below_drewN | apply below_drew1 | refine below_set ?_ GE173.out | refine below_set ?_ GE174.out | refine below_set ?_ GE175.out) | exact HB.out))⟩; clear BK173 BK174 BK175 HB hq_; have BK173 := n0_; have BK174 := n1_; have BK175 := n2_; have HB := n3_; clear n0_ n1_ n2_ n3_)); (try (have hczrw8_gb173_0 := zc0 BK173.out)); (try (have hfzrw8_gb173_0 := zfz BK173.out 0)); (try (have hczrw8_gb173_1 := zc1 BK173.out)); (try (have hfzrw8_gb173_1 := zfz BK173.out 1)); (try (have hczrw8_gb174_0 := zc0 BK174.out)); (try (have hfzrw8_gb174_0 := zfz BK174.out 0)); (try (have hczrw8_gb174_1 := zc1 BK174.out)); (try (have hfzrw8_gb174_1 := zfz BK174.out 1)); (try (have hczrw8_gb175_0 := zc0 BK175.out)); (try (have hfzrw8_gb175_0 := zfz BK175.out 0)); (try (have hczrw8_gb175_1 := zc1 BK175.out)); (try (have hfzrw8_gb175_1 := zfz BK175.out 1))))
  have n0_ := zQ (blk_drew BK173.out); have n1_ := zQ (blk_drew BK174.out); have n2_ := zQ (blk_drew BK175.out); have n3_ := zQ (below_drew1 HB.out); clear BK173; clear BK174; clear BK175; clear HB; have BK173 := n0_; have BK174 := n1_; have BK175 := n2_; have HB := n3_; clear n0_ n1_ n2_ n3_
  refine zs (fun w' => w'.cell? ⟨gb173, 0, none⟩ = some (.int .i64 a0_0) ∧ w'.cell? ⟨gb173, 1, none⟩ = some (.int .i64 a0_1) ∧ w'.cell? ⟨gb174, 0, none⟩ = some (.int .i64 a1_0) ∧ w'.cell? ⟨gb174, 1, none⟩ = some (.int .i64 a1_1)) [] 24 ⟨(blk_cell BK173.out 0).trans rfl, (blk_cell BK173.out 1).trans rfl, (blk_cell BK174.out 0).trans rfl, (blk_cell BK174.out 1).trans rfl⟩ (fun hHeld => ?_); refine with_tabW spec_l13Sum.tab2 spec_l13Sum.bits2 (fun HT_ HW_ => ?_)
  generalize w8.drew = w14 at BK173 BK174 BK175 HB hHeld ⊢
  refine zp 0 11 ?_
  refine zp 2 13 ?_
  refine zp 4 15 ?_
  refine zp 7 18 ?_
  refine zp 9 20 ?_
  refine zp 11 22 ?_
  refine zp 15 26 ?_
  refine zp 17 28 ?_
  refine zp 19 30 ?_
  refine zt 1 12 hHeld ?_
  refine zt 3 14 hHeld ?_
  refine zp 5 16 ?_
  refine zp 6 17 ?_
  refine zt 8 19 hHeld ?_
  refine zt 10 21 hHeld ?_
  refine zp 12 23 ?_
  refine zp 13 24 ?_
  refine zp 14 25 ?_
  refine zt 16 27 hHeld ?_
  refine zp 18 29 ?_
  refine zt 20 31 hHeld ?_
  refine zp 21 32 ?_
  refine zo 22 (some 33) (fun K hK => ?_)
  refine goes_ Try.func68 (by kernel_rfl) rfl #[.int .i64 (wrap64 ((wrap64 (a0_0 * (wrap64 (Int.tdiv a1_1 t176)))) + (wrap64 (a1_0 * (wrap64 (Int.tdiv a0_1 t176)))))), .int .i64 (wrap64 ((wrap64 (Int.tdiv a0_1 t176)) * a1_1))] (by rfl) rfl rfl zM ?_
  with_reducible refine (spec_l01Make.calls k (wrap64 ((wrap64 (a0_0 * (wrap64 (Int.tdiv a1_1 t176)))) + (wrap64 (a1_0 * (wrap64 (Int.tdiv a0_1 t176)))))) (wrap64 ((wrap64 (Int.tdiv a0_1 t176)) * a1_1)) t177 t178 _ A5.out).mono ?_
  rintro e w15 ⟨rfl, hb⟩
  refine ⟨_, rfl, ?_⟩
  have n0_ := zbl BK173.out hb; have n1_ := zbl BK174.out hb; have n2_ := zbl BK175.out hb; have n3_ := zQ (below_step (by repeat (first | (with_reducible first | exact HB.out | apply below_alloc | apply pw_below_drewN | apply below_drew1 | refine below_set ?_ GE173.out | refine below_set ?_ GE174.out | refine below_set ?_ GE175.out) | exact HB.out)) hb); clear BK173; clear BK174; clear BK175; clear HB; have BK173 := n0_; have BK174 := n1_; have BK175 := n2_; have HB := n3_; clear n0_ n1_ n2_ n3_
  (try clear hb)
  (try clear hb2)
  (try clear hk)
  (try clear hi)
  refine hK.out _ _ ⟨(blk_cell BK173.out 0).trans rfl, (blk_cell BK173.out 1).trans rfl, (blk_cell BK174.out 0).trans rfl, (blk_cell BK174.out 1).trans rfl⟩ (fun hHeld => ?_)
  clear hK K
  refine zn 33 ?_
  refine zo 23 none (fun K hK => ?_)
  have hs16 : w15.cell? ⟨gb175, 0, none⟩ = some (.int .i64 0) := (blk_cell BK175.out 0).trans rfl; have hfs16 := zfz BK175.out 0; have hns16_0 := NB173_175.out; have hns16_1 := NB174_175.out; have hms16_0 := NB175_173.out; have hms16_1 := NB175_174.out; have hs17 : w15.cell? ⟨gb175, 1, none⟩ = some (.int .i64 0) := (blk_cell BK175.out 1).trans rfl; have hfs17 := zfz BK175.out 1; have hns17_0 := NB173_175.out; have hns17_1 := NB174_175.out; have hms17_0 := NB175_173.out; have hms17_1 := NB175_174.out
  refine skip_ (w1 := ?_) (by rfl) rfl ?_ ?_
  rotate_left
  ·go_simp
   rfl
  refine hK.out _ _ ⟨((cell_far (p := ⟨gb175, _, none⟩) NB173_175.out _).trans (((cell_far (p := ⟨gb175, _, none⟩) NB173_175.out _).trans (hHeld.1)))), ((cell_far (p := ⟨gb175, _, none⟩) NB173_175.out _).trans (((cell_far (p := ⟨gb175, _, none⟩) NB173_175.out _).trans (hHeld.2.1)))), ((cell_far (p := ⟨gb175, _, none⟩) NB174_175.out _).trans (((cell_far (p := ⟨gb175, _, none⟩) NB174_175.out _).trans (hHeld.2.2.1)))), ((cell_far (p := ⟨gb175, _, none⟩) NB174_175.out _).trans (((cell_far (p := ⟨gb175, _, none⟩) NB174_175.out _).trans (hHeld.2.2.2))))⟩ (fun hHeld => ?_)
  clear hK K
  refine done_ (done_of HT_.out (by kernel_rfl)) ?_
  try go_wp2
  refine bodyPost_ret (results_cell_row rfl _ _ gb175 25 #[.int .i64 t177, .int .i64 t178] (0, 0) _ rfl (by refine zb ?_; refine blk_put (cs := #[.int .i64 t177, .int .i64 0]) ?_ 1 _ rfl; refine zb ?_; refine blk_put (cs := #[.int .i64 0, .int .i64 0]) ?_ 0 _ rfl; refine zb ?_; exact BK175.out) Try.underlying25 rfl (by kernel_rfl)) rfl ?_
  exact ⟨zE, by repeat (first | (with_reducible first | exact HB.out | apply below_alloc | apply pw_below_drewN | apply below_drew1 | refine below_set ?_ GE173.out | refine below_set ?_ GE174.out | refine below_set ?_ GE175.out) | exact HB.out)⟩

end
end Go.Proofs.Ytcomncokgkeniaa.PSailw

