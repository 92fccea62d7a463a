import Derived.Test.YtchngbjpjbahiaaGreatDoorHSailz0
import Derived.Test.YtchngbjpjbahiaaGreatDoorHSailzc
namespace Go.Proofs.YtchngbjpjbahiaaGreatDoor.PSailz
noncomputable section
open Go.RowKit Go.Proofs.YtchngbjpjbahiaaGreatDoorW.PrintWords Go.Proofs.YtchngbjpjbahiaaGreatDoorW.PrintLast Go.Proofs.YtchngbjpjbahiaaGreatDoorW.PrintMore
attribute [local go_sem] max2_int min2_int max_two min_two max_three min_three max_four min_four   -- for this text's walks alone
set_option linter.unusedVariables false
set_option linter.unusedSimpArgs false
set_option maxHeartbeats 8000000
set_option maxRecDepth 100000

def impl_edgesMeet.j0 : Nat → Int → Int → Int → Int → Bool → Int → Int → Int → Int → Int → Int → Int → Int → Option (Bool)
 | 0, _, _, _, _, _, _, _, _, _, _, _, _, _ => none
 | k + 1, x9, x10, x11, x12, x42, x243000, x243001, x244000, x244001, x245000, x245001, x246000, x246001 => if x42 = true then (some true) else (if x9 = 0 then ((impl_between.f x243000 x243001 x244000 x244001 x245000 x245001).bind fun t254 => (if t254 = true then (some true) else (if x10 = 0 then ((impl_between.f x243000 x243001 x244000 x244001 x246000 x246001).bind fun t255 => (if t255 = true then (some true) else (if x11 = 0 then ((impl_between.f x245000 x245001 x246000 x246001 x243000 x243001).bind fun t256 => (if t256 = true then (some true) else (if x12 = 0 then ((impl_between.f x245000 x245001 x246000 x246001 x244000 x244001).bind fun t257 => (some t257)) else (some false)))) else (if x12 = 0 then ((impl_between.f x245000 x245001 x246000 x246001 x244000 x244001).bind fun t258 => (some t258)) else (some false))))) else (if x11 = 0 then ((impl_between.f x245000 x245001 x246000 x246001 x243000 x243001).bind fun t259 => (if t259 = true then (some true) else (if x12 = 0 then ((impl_between.f x245000 x245001 x246000 x246001 x244000 x244001).bind fun t260 => (some t260)) else (some false)))) else (if x12 = 0 then ((impl_between.f x245000 x245001 x246000 x246001 x244000 x244001).bind fun t261 => (some t261)) else (some false)))))) else (if x10 = 0 then ((impl_between.f x243000 x243001 x244000 x244001 x246000 x246001).bind fun t262 => (if t262 = true then (some true) else (if x11 = 0 then ((impl_between.f x245000 x245001 x246000 x246001 x243000 x243001).bind fun t263 => (if t263 = true then (some true) else (if x12 = 0 then ((impl_between.f x245000 x245001 x246000 x246001 x244000 x244001).bind fun t264 => (some t264)) else (some false)))) else (if x12 = 0 then ((impl_between.f x245000 x245001 x246000 x246001 x244000 x244001).bind fun t265 => (some t265)) else (some false))))) else (if x11 = 0 then ((impl_between.f x245000 x245001 x246000 x246001 x243000 x243001).bind fun t266 => (if t266 = true then (some true) else (if x12 = 0 then ((impl_between.f x245000 x245001 x246000 x246001 x244000 x244001).bind fun t267 => (some t267)) else (some false)))) else (if x12 = 0 then ((impl_between.f x245000 x245001 x246000 x246001 x244000 x244001).bind fun t268 => (some t268)) else (some false)))))
def impl_edgesMeet.f (k : Nat) (a0_0 : Int) (a0_1 : Int) (a1_0 : Int) (a1_1 : Int) (a2_0 : Int) (a2_1 : Int) (a3_0 : Int) (a3_1 : Int) : Option (Bool) := (impl_turnAt.f a0_0 a0_1 a1_0 a1_1 a2_0 a2_1).bind fun t246 => ((impl_turnAt.f a0_0 a0_1 a1_0 a1_1 a3_0 a3_1).bind fun t247 => ((impl_turnAt.f a2_0 a2_1 a3_0 a3_1 a0_0 a0_1).bind fun t248 => ((impl_turnAt.f a2_0 a2_1 a3_0 a3_1 a1_0 a1_1).bind fun t249 => ((impl_sign.f t246).bind fun t250 => ((impl_sign.f t247).bind fun t251 => (if (wrap64 (t250 * t251)) < 0 then ((impl_sign.f t248).bind fun t252 => ((impl_sign.f t249).bind fun t253 => (impl_edgesMeet.j0 k t246 t247 t248 t249 (decide ((wrap64 (t252 * t253)) < 0)) a0_0 a0_1 a1_0 a1_1 a2_0 a2_1 a3_0 a3_1))) else (impl_edgesMeet.j0 k t246 t247 t248 t249 false a0_0 a0_1 a1_0 a1_1 a2_0 a2_1 a3_0 a3_1)))))))
def impl_edgesMeet.T1 : Bool × List (List Nat × List Nat) := (true, [([], []), ([], []), ([], []), ([0, 1, 2], [0, 1, 2]), ([], []), ([], []), ([], []), ([4, 5, 6, 3], [4, 5, 6]), ([3, 7, 0, 1, 2, 3], [3]), ([7, 8, 0, 1, 2, 3, 4, 5, 6, 7, 8], [7])])
def impl_edgesMeet.B1 : List Nat := [0, 0, 0, 7, 0, 0, 0, 127, 255, 511]
theorem impl_edgesMeet.tab1 : rtab .any (opsOf Tryz.f50 1) = impl_edgesMeet.T1 := by kernel_rfl
theorem impl_edgesMeet.bits1 : waitsOk impl_edgesMeet.T1.2 impl_edgesMeet.B1 = true := by kernel_rfl
def impl_edgesMeet.T2 : Bool × List (List Nat × List Nat) := (true, [([], []), ([], []), ([], []), ([0, 1, 2], [0, 1, 2]), ([], []), ([], []), ([], []), ([4, 5, 6, 3], [4, 5, 6]), ([3, 7, 0, 1, 2, 3], [3]), ([7, 8, 0, 1, 2, 3, 4, 5, 6, 7, 8], [7])])
def impl_edgesMeet.B2 : List Nat := [0, 0, 0, 7, 0, 0, 0, 127, 255, 511]
theorem impl_edgesMeet.tab2 : rtab .any (opsOf Tryz.f50 2) = impl_edgesMeet.T2 := by kernel_rfl
theorem impl_edgesMeet.bits2 : waitsOk impl_edgesMeet.T2.2 impl_edgesMeet.B2 = true := by kernel_rfl
theorem impl_edgesMeet.calls (k : Nat) (a0_0 : Int) (a0_1 : Int) (a1_0 : Int) (a1_1 : Int) (a2_0 : Int) (a2_1 : Int) (a3_0 : Int) (a3_1 : Int) (r : Bool) (w : World) (h : impl_edgesMeet.f k a0_0 a0_1 a1_0 a1_1 a2_0 a2_1 a3_0 a3_1 = some r) :
  Calls Tryz.prog 50 #[.agg #[.int .i64 a0_0, .int .i64 a0_1], .agg #[.int .i64 a1_0, .int .i64 a1_1], .agg #[.int .i64 a2_0, .int .i64 a2_1], .agg #[.int .i64 a3_0, .int .i64 a3_1]] w fun e w' => e = .returned (.bool r) ∧ Below w.heap.size w w' := by
 have hu47 := Tryz.underlying47
 have HB := zQ (Below.refl w.heap.size w)
 have H := h; unfold impl_edgesMeet.f at H
 clear h
 replace H := zob H; obtain ⟨t246, A5, H⟩ := H
 replace H := zob H; obtain ⟨t247, A6, H⟩ := H
 replace H := zob H; obtain ⟨t248, A7, H⟩ := H
 replace H := zob H; obtain ⟨t249, A8, H⟩ := H
 have HC9 := zQ H
 clear H
 go_enter Tryz.func50, Tryz.ntmps50
 try go_wp2_with (first | ((with_reducible refine zd 4 ?_); refine zbx (N := 4) (cs := #[.int .i64 a0_0, .int .i64 a0_1]) (t := 47) ?_; intro gb242 hg w10 hbox hb; have BK242 := zQ (hbox); have GW242 := zgz hg HB.out; have GE242 := GW242; replace HB := zbs HB.out hb; clear hb hbox hg) | ((with_reducible refine zd 5 ?_); refine zbx (N := 5) (cs := #[.int .i64 a1_0, .int .i64 a1_1]) (t := 47) ?_; intro gb243 hg w11 hbox hb; have BK243 := zQ (hbox); have GW243 := zgz2 hg HB.out GE242.out; have GE243 := GW243; have NB242_243 := zn1 hg BK242.out; have NB243_242 := zn2 hg BK242.out; replace BK242 := zbl BK242.out hb; replace HB := zbs2 HB.out GE242.out hb; clear hb hbox hg) | ((with_reducible refine zd 6 ?_); refine zbx (N := 6) (cs := #[.int .i64 a2_0, .int .i64 a2_1]) (t := 47) ?_; intro gb244 hg w12 hbox hb; have BK244 := zQ (hbox); have GW244 := zQ ((by rw [hg]; exact (below_size (zB3 HB.out GE242.out GE243.out)) : w.heap.size ≤ gb244)); have GE244 := zQ ((by rw [hg]; exact (below_size (zB3 HB.out GE242.out GE243.out)) : w.heap.size ≤ gb244)); have NB242_244 := zn1 hg BK242.out; have NB244_242 := zn2 hg BK242.out; have NB243_244 := zn1 hg BK243.out; have NB244_243 := zn2 hg BK243.out; replace BK242 := zbl BK242.out hb; replace BK243 := zbl BK243.out hb; replace HB := zQ (below_step (zB3 HB.out GE242.out GE243.out) hb); clear hb hbox hg) | ((with_reducible refine zd 7 ?_); refine zbx (N := 7) (cs := #[.int .i64 a3_0, .int .i64 a3_1]) (t := 47) ?_; intro gb245 hg w13 hbox hb; have BK245 := zQ (hbox); have GW245 := zQ ((by rw [hg]; exact (below_size (by repeat (first | (with_reducible first | exact HB.out | apply below_alloc | apply pw_below_drewN | apply below_drew1 | refine below_set ?_ GE242.out | refine below_set ?_ GE243.out | refine below_set ?_ GE244.out) | exact HB.out))) : w.heap.size ≤ gb245)); have GE245 := zQ ((by rw [hg]; exact (below_size (by repeat (first | (with_reducible first | exact HB.out | apply below_alloc | apply pw_below_drewN | apply below_drew1 | refine below_set ?_ GE242.out | refine below_set ?_ GE243.out | refine below_set ?_ GE244.out) | exact HB.out))) : w.heap.size ≤ gb245)); have NB242_245 := zn1 hg BK242.out; have NB245_242 := zn2 hg BK242.out; have NB243_245 := zn1 hg BK243.out; have NB245_243 := zn2 hg BK243.out; have NB244_245 := zn1 hg BK244.out; have NB245_244 := zn2 hg BK244.out; replace BK242 := zbl BK242.out hb; replace BK243 := zbl BK243.out hb; replace BK244 := zbl BK244.out hb; replace HB := zQ (below_step (by repeat (first | (with_reducible first | exact HB.out | apply below_alloc | apply pw_below_drewN | apply below_drew1 | refine below_set ?_ GE242.out | refine below_set ?_ GE243.out | refine below_set ?_ GE244.out) | exact HB.out)) hb); clear hb hbox hg))
 have n0_ := zQ (blk_drew BK242.out)
 have n1_ := zQ (blk_drew BK243.out)
 have n2_ := zQ (blk_drew BK244.out)
 have n3_ := zQ (blk_drew BK245.out)
 have n4_ := zQ (below_drew1 HB.out)
 clear BK242
 clear BK243
 clear BK244
 clear BK245
 clear HB
 have BK242 := n0_
 have BK243 := n1_
 have BK244 := n2_
 have BK245 := n3_
 have HB := n4_
 clear n0_ n1_ n2_ n3_ n4_
 refine zs (fun w' => w'.cell? ⟨gb242, 0, none⟩ = some (.int .i64 a0_0) ∧ w'.cell? ⟨gb242, 1, none⟩ = some (.int .i64 a0_1) ∧ w'.cell? ⟨gb243, 0, none⟩ = some (.int .i64 a1_0) ∧ w'.cell? ⟨gb243, 1, none⟩ = some (.int .i64 a1_1) ∧ w'.cell? ⟨gb244, 0, none⟩ = some (.int .i64 a2_0) ∧ w'.cell? ⟨gb244, 1, none⟩ = some (.int .i64 a2_1) ∧ w'.cell? ⟨gb245, 0, none⟩ = some (.int .i64 a3_0) ∧ w'.cell? ⟨gb245, 1, none⟩ = some (.int .i64 a3_1)) [] 10 ⟨(blk_cell BK242.out 0).trans rfl, (blk_cell BK242.out 1).trans rfl, (blk_cell BK243.out 0).trans rfl, (blk_cell BK243.out 1).trans rfl, (blk_cell BK244.out 0).trans rfl, (blk_cell BK244.out 1).trans rfl, (blk_cell BK245.out 0).trans rfl, (blk_cell BK245.out 1).trans rfl⟩ (fun hHeld => ?_); refine with_tabW impl_edgesMeet.tab1 impl_edgesMeet.bits1 (fun HT_ HW_ => ?_)
 generalize w13.drew = w14 at BK242 BK243 BK244 BK245 HB hHeld ⊢
 refine zt 0 13 hHeld ?_
 refine zt 1 14 hHeld ?_
 refine zt 2 15 hHeld ?_
 refine zt 4 17 hHeld ?_
 refine zt 5 18 hHeld ?_
 refine zt 6 19 hHeld ?_
 refine zo 3 (some 16) (fun K hK => ?_)
 refine goes_ Tryz.func49 (by kernel_rfl) rfl #[.agg #[.int .i64 a0_0, .int .i64 a0_1], .agg #[.int .i64 a1_0, .int .i64 a1_1], .agg #[.int .i64 a2_0, .int .i64 a2_1]] (by rfl) rfl rfl zM ?_
 with_reducible refine (impl_turnAt.calls a0_0 a0_1 a1_0 a1_1 a2_0 a2_1 t246 _ A5.out).mono ?_
 rintro e w15 ⟨rfl, hb⟩
 refine ⟨_, rfl, ?_⟩
 have n0_ := zbl BK242.out hb
 have n1_ := zbl BK243.out hb
 have n2_ := zbl BK244.out hb
 have n3_ := zbl BK245.out hb
 have n4_ := zQ (below_step (by repeat (first | (with_reducible first | exact HB.out | apply below_alloc | apply pw_below_drewN | apply below_drew1 | refine below_set ?_ GE242.out | refine below_set ?_ GE243.out | refine below_set ?_ GE244.out | refine below_set ?_ GE245.out) | exact HB.out)) hb)
 clear BK242
 clear BK243
 clear BK244
 clear BK245
 clear HB
 have BK242 := n0_
 have BK243 := n1_
 have BK244 := n2_
 have BK245 := n3_
 have HB := n4_
 clear n0_ n1_ n2_ n3_ n4_
 (try clear hb)
 (try clear hb2)
 (try clear hk)
 (try clear hi)
 refine hK.out _ _ ⟨(blk_cell BK242.out 0).trans rfl, (blk_cell BK242.out 1).trans rfl, (blk_cell BK243.out 0).trans rfl, (blk_cell BK243.out 1).trans rfl, (blk_cell BK244.out 0).trans rfl, (blk_cell BK244.out 1).trans rfl, (blk_cell BK245.out 0).trans rfl, (blk_cell BK245.out 1).trans rfl⟩ (fun hHeld => ?_)
 clear hK K
 refine zn 16 ?_
 refine zo 7 (some 20) (fun K hK => ?_)
 refine goes_ Tryz.func49 (by kernel_rfl) rfl #[.agg #[.int .i64 a0_0, .int .i64 a0_1], .agg #[.int .i64 a1_0, .int .i64 a1_1], .agg #[.int .i64 a3_0, .int .i64 a3_1]] (by rfl) rfl rfl zM ?_
 with_reducible refine (impl_turnAt.calls a0_0 a0_1 a1_0 a1_1 a3_0 a3_1 t247 _ A6.out).mono ?_
 rintro e w16 ⟨rfl, hb⟩
 refine ⟨_, rfl, ?_⟩
 have n0_ := zbl BK242.out hb
 have n1_ := zbl BK243.out hb
 have n2_ := zbl BK244.out hb
 have n3_ := zbl BK245.out hb
 have n4_ := zQ (below_step (by repeat (first | (with_reducible first | exact HB.out | apply below_alloc | apply pw_below_drewN | apply below_drew1 | refine below_set ?_ GE242.out | refine below_set ?_ GE243.out | refine below_set ?_ GE244.out | refine below_set ?_ GE245.out) | exact HB.out)) hb)
 clear BK242
 clear BK243
 clear BK244
 clear BK245
 clear HB
 have BK242 := n0_
 have BK243 := n1_
 have BK244 := n2_
 have BK245 := n3_
 have HB := n4_
 clear n0_ n1_ n2_ n3_ n4_
 (try clear hb)
 (try clear hb2)
 (try clear hk)
 (try clear hi)
 refine hK.out _ _ ⟨(blk_cell BK242.out 0).trans rfl, (blk_cell BK242.out 1).trans rfl, (blk_cell BK243.out 0).trans rfl, (blk_cell BK243.out 1).trans rfl, (blk_cell BK244.out 0).trans rfl, (blk_cell BK244.out 1).trans rfl, (blk_cell BK245.out 0).trans rfl, (blk_cell BK245.out 1).trans rfl⟩ (fun hHeld => ?_)
 clear hK K
 refine zn 20 ?_
 refine zp 8 9 ?_
 refine zp 9 10 ?_
 refine done_ (done_of HT_.out (by kernel_rfl)) ?_
 try go_wp2
 have n0_ := zQ (blk_drew BK242.out)
 have n1_ := zQ (blk_drew BK243.out)
 have n2_ := zQ (blk_drew BK244.out)
 have n3_ := zQ (blk_drew BK245.out)
 have n4_ := zQ (below_drew1 HB.out)
 clear BK242
 clear BK243
 clear BK244
 clear BK245
 clear HB
 have BK242 := n0_
 have BK243 := n1_
 have BK244 := n2_
 have BK245 := n3_
 have HB := n4_
 clear n0_ n1_ n2_ n3_ n4_
 refine zs (fun w' => w'.cell? ⟨gb244, 0, none⟩ = some (.int .i64 a2_0) ∧ w'.cell? ⟨gb244, 1, none⟩ = some (.int .i64 a2_1) ∧ w'.cell? ⟨gb245, 0, none⟩ = some (.int .i64 a3_0) ∧ w'.cell? ⟨gb245, 1, none⟩ = some (.int .i64 a3_1) ∧ w'.cell? ⟨gb242, 0, none⟩ = some (.int .i64 a0_0) ∧ w'.cell? ⟨gb242, 1, none⟩ = some (.int .i64 a0_1) ∧ w'.cell? ⟨gb243, 0, none⟩ = some (.int .i64 a1_0) ∧ w'.cell? ⟨gb243, 1, none⟩ = some (.int .i64 a1_1)) [] 10 ⟨(blk_cell BK244.out 0).trans rfl, (blk_cell BK244.out 1).trans rfl, (blk_cell BK245.out 0).trans rfl, (blk_cell BK245.out 1).trans rfl, (blk_cell BK242.out 0).trans rfl, (blk_cell BK242.out 1).trans rfl, (blk_cell BK243.out 0).trans rfl, (blk_cell BK243.out 1).trans rfl⟩ (fun hHeld => ?_); refine with_tabW impl_edgesMeet.tab2 impl_edgesMeet.bits2 (fun HT_ HW_ => ?_)
 generalize w16.drew = w17 at BK242 BK243 BK244 BK245 HB hHeld ⊢
 refine zt 0 21 hHeld ?_
 refine zt 1 22 hHeld ?_
 refine zt 2 23 hHeld ?_
 refine zt 4 25 hHeld ?_
 refine zt 5 26 hHeld ?_
 refine zt 6 27 hHeld ?_
 refine zo 3 (some 24) (fun K hK => ?_)
 refine goes_ Tryz.func49 (by kernel_rfl) rfl #[.agg #[.int .i64 a2_0, .int .i64 a2_1], .agg #[.int .i64 a3_0, .int .i64 a3_1], .agg #[.int .i64 a0_0, .int .i64 a0_1]] (by rfl) rfl rfl zM ?_
 with_reducible refine (impl_turnAt.calls a2_0 a2_1 a3_0 a3_1 a0_0 a0_1 t248 _ A7.out).mono ?_
 rintro e w18 ⟨rfl, hb⟩
 refine ⟨_, rfl, ?_⟩
 have n0_ := zbl BK242.out hb
 have n1_ := zbl BK243.out hb
 have n2_ := zbl BK244.out hb
 have n3_ := zbl BK245.out hb
 have n4_ := zQ (below_step (by repeat (first | (with_reducible first | exact HB.out | apply below_alloc | apply pw_below_drewN | apply below_drew1 | refine below_set ?_ GE242.out | refine below_set ?_ GE243.out | refine below_set ?_ GE244.out | refine below_set ?_ GE245.out) | exact HB.out)) hb)
 clear BK242
 clear BK243
 clear BK244
 clear BK245
 clear HB
 have BK242 := n0_
 have BK243 := n1_
 have BK244 := n2_
 have BK245 := n3_
 have HB := n4_
 clear n0_ n1_ n2_ n3_ n4_
 (try clear hb)
 (try clear hb2)
 (try clear hk)
 (try clear hi)
 refine hK.out _ _ ⟨(blk_cell BK244.out 0).trans rfl, (blk_cell BK244.out 1).trans rfl, (blk_cell BK245.out 0).trans rfl, (blk_cell BK245.out 1).trans rfl, (blk_cell BK242.out 0).trans rfl, (blk_cell BK242.out 1).trans rfl, (blk_cell BK243.out 0).trans rfl, (blk_cell BK243.out 1).trans rfl⟩ (fun hHeld => ?_)
 clear hK K
 refine zn 24 ?_
 refine zo 7 (some 28) (fun K hK => ?_)
 refine goes_ Tryz.func49 (by kernel_rfl) rfl #[.agg #[.int .i64 a2_0, .int .i64 a2_1], .agg #[.int .i64 a3_0, .int .i64 a3_1], .agg #[.int .i64 a1_0, .int .i64 a1_1]] (by rfl) rfl rfl zM ?_
 with_reducible refine (impl_turnAt.calls a2_0 a2_1 a3_0 a3_1 a1_0 a1_1 t249 _ A8.out).mono ?_
 rintro e w19 ⟨rfl, hb⟩
 refine ⟨_, rfl, ?_⟩
 have n0_ := zbl BK242.out hb
 have n1_ := zbl BK243.out hb
 have n2_ := zbl BK244.out hb
 have n3_ := zbl BK245.out hb
 have n4_ := zQ (below_step (by repeat (first | (with_reducible first | exact HB.out | apply below_alloc | apply pw_below_drewN | apply below_drew1 | refine below_set ?_ GE242.out | refine below_set ?_ GE243.out | refine below_set ?_ GE244.out | refine below_set ?_ GE245.out) | exact HB.out)) hb)
 clear BK242
 clear BK243
 clear BK244
 clear BK245
 clear HB
 have BK242 := n0_
 have BK243 := n1_
 have BK244 := n2_
 have BK245 := n3_
 have HB := n4_
 clear n0_ n1_ n2_ n3_ n4_
 (try clear hb)
 (try clear hb2)
 (try clear hk)
 (try clear hi)
 refine hK.out _ _ ⟨(blk_cell BK244.out 0).trans rfl, (blk_cell BK244.out 1).trans rfl, (blk_cell BK245.out 0).trans rfl, (blk_cell BK245.out 1).trans rfl, (blk_cell BK242.out 0).trans rfl, (blk_cell BK242.out 1).trans rfl, (blk_cell BK243.out 0).trans rfl, (blk_cell BK243.out 1).trans rfl⟩ (fun hHeld => ?_)
 clear hK K
 refine zn 28 ?_
 refine zp 8 11 ?_
 refine zp 9 12 ?_
 refine done_ (done_of HT_.out (by kernel_rfl)) ?_
 go_upto_region 3 with (fail)
 go_cut [42] (fun v42 wc => ∃ (kq : Nat) (x42_8 : Bool), v42 = .bool x42_8 ∧ Aside0 (impl_edgesMeet.j0 kq t246 t247 t248 t249 x42_8 a0_0 a0_1 a1_0 a1_1 a2_0 a2_1 a3_0 a3_1 = some r) ∧ Aside0 (kq ≤ k) ∧ Aside0 (wc.heap[gb242]? = some (.cells #[.int .i64 a0_0, .int .i64 a0_1] 47 (0, 0))) ∧ Aside0 (wc.heap[gb243]? = some (.cells #[.int .i64 a1_0, .int .i64 a1_1] 47 (0, 0))) ∧ Aside0 (wc.heap[gb244]? = some (.cells #[.int .i64 a2_0, .int .i64 a2_1] 47 (0, 0))) ∧ Aside0 (wc.heap[gb245]? = some (.cells #[.int .i64 a3_0, .int .i64 a3_1] 47 (0, 0))) ∧ Aside0 (Below w.heap.size w wc))
 case first =>
  have H := HC9.out; clear HC9; replace H := zob H; obtain ⟨t250, A20, H⟩ := H; replace H := zob H; obtain ⟨t251, A21, H⟩ := H
  by_cases c22 : (wrap64 (t250 * t251)) < 0
  ·rw [if_pos c22] at H
   have c22b0 := decide_eq_true c22; clear c22
   (first | rw [c22b0] | (simp only [i64_w, i32_w]; rw [c22b0]) | skip)
   replace H := zob H; obtain ⟨t252, A23, H⟩ := H; replace H := zob H; obtain ⟨t253, A24, H⟩ := H; have H' := zQ H; clear H
   go_wp2_with (first | ((with_reducible refine zgc 67 ?_); refine goesL_ (some 30) rfl rfl Tryz.func67 (by kernel_rfl) rfl #[.int .i64 t246] rfl zM ?_; (with_reducible refine (impl_sign.calls t246 t250 _ A20.out).mono ?_); rintro e w' ⟨rfl, ⟨nd, rfl⟩⟩; refine ⟨_, rfl, ?_⟩) | ((with_reducible refine zgc 67 ?_); refine goesL_ (some 32) rfl rfl Tryz.func67 (by kernel_rfl) rfl #[.int .i64 t247] rfl zM ?_; (with_reducible refine (impl_sign.calls t247 t251 _ A21.out).mono ?_); rintro e w' ⟨rfl, ⟨nd, rfl⟩⟩; refine ⟨_, rfl, ?_⟩) | (go_at_call 67; (with_reducible refine (impl_sign.calls t248 t252 _ A23.out).mono ?_); rintro e w' ⟨rfl, ⟨nd, rfl⟩⟩) | (go_at_call 67; (with_reducible refine (impl_sign.calls t249 t253 _ A24.out).mono ?_); rintro e w' ⟨rfl, ⟨nd, rfl⟩⟩))
   go_meet
   case rel => exact ⟨_, (decide ((wrap64 (t252 * t253)) < 0)), (zF), H', ⟨by first | omega | exact Nat.le_refl _⟩, ⟨zb BK242.out⟩, ⟨zb BK243.out⟩, ⟨zb BK244.out⟩, ⟨zb BK245.out⟩, ⟨by repeat (first | (with_reducible first | exact HB.out | apply below_alloc | apply pw_below_drewN | apply below_drew1 | refine below_set ?_ GE242.out | refine below_set ?_ GE243.out | refine below_set ?_ GE244.out | refine below_set ?_ GE245.out) | exact HB.out)⟩⟩
  ·rw [if_neg c22] at H
   have c22b0 := decide_eq_false c22; clear c22
   (first | rw [c22b0] | (simp only [i64_w, i32_w]; rw [c22b0]) | skip)
   have H' := zQ H; clear H
   go_wp2_with (first | ((with_reducible refine zgc 67 ?_); refine goesL_ (some 30) rfl rfl Tryz.func67 (by kernel_rfl) rfl #[.int .i64 t246] rfl zM ?_; (with_reducible refine (impl_sign.calls t246 t250 _ A20.out).mono ?_); rintro e w' ⟨rfl, ⟨nd, rfl⟩⟩; refine ⟨_, rfl, ?_⟩) | ((with_reducible refine zgc 67 ?_); refine goesL_ (some 32) rfl rfl Tryz.func67 (by kernel_rfl) rfl #[.int .i64 t247] rfl zM ?_; (with_reducible refine (impl_sign.calls t247 t251 _ A21.out).mono ?_); rintro e w' ⟨rfl, ⟨nd, rfl⟩⟩; refine ⟨_, rfl, ?_⟩))
   go_meet
   case rel => exact ⟨_, (false), (zF), H', ⟨by first | omega | exact Nat.le_refl _⟩, ⟨zb BK242.out⟩, ⟨zb BK243.out⟩, ⟨zb BK244.out⟩, ⟨zb BK245.out⟩, ⟨by repeat (first | (with_reducible first | exact HB.out | apply below_alloc | apply pw_below_drewN | apply below_drew1 | refine below_set ?_ GE242.out | refine below_set ?_ GE243.out | refine below_set ?_ GE244.out | refine below_set ?_ GE245.out) | exact HB.out)⟩⟩
 case rest =>
  clear HC9; (try clear c2); (try clear p2); (try clear c4); (try clear c5); (try clear c6); (try clear p6); (try clear c22); (try clear c22b0); obtain ⟨kq, x42_8, rfl, HA, HJ8, BK242, BK243, BK244, BK245, HB⟩ := hcut
  cases kq with
  | zero => exact absurd HA.out (by simp [impl_edgesMeet.j0])
  | succ kj8 =>
   have H := HA.out; clear HA
   simp only [impl_edgesMeet.j0] at H
   by_cases c25 : x42_8 = true
   ·subst c25
    rw [if_pos rfl] at H; obtain rfl := Option.some.inj H
    go_wp2
    go_ret
    exact ⟨zE, by repeat (first | (with_reducible first | exact HB.out | apply below_alloc | apply pw_below_drewN | apply below_drew1 | refine below_set ?_ GE242.out | refine below_set ?_ GE243.out | refine below_set ?_ GE244.out | refine below_set ?_ GE245.out) | exact HB.out)⟩
   ·replace c25 := Bool.eq_false_iff.mpr c25
    subst c25
    rw [if_neg Bool.false_ne_true] at H
    by_cases c26 : t246 = 0
    ·rw [if_pos c26] at H
     have c26b0 : (t246 == 0) = true := beq_iff_eq.mpr c26; have c26b1 : (t246 != 0) = false := bne_eq_false_iff_eq.mpr c26; clear c26; replace H := zob H; obtain ⟨t254, A27, H⟩ := H
     by_cases c28 : t254 = true
     ·subst c28
      rw [if_pos rfl] at H; obtain rfl := Option.some.inj H; have hnb29 := NB242_243.out; have hnc29 := NB243_242.out; have hnb30 := NB242_244.out; have hnc30 := NB244_242.out; have hnb31 := NB242_245.out; have hnc31 := NB245_242.out; obtain ⟨hcz32_0, hcz32_1, hfz32_0, hfz32_1⟩ := zy2 BK242.out; have hnb33 := NB243_244.out; have hnc33 := NB244_243.out; have hnb34 := NB243_245.out; have hnc34 := NB245_243.out; obtain ⟨hcz35_0, hcz35_1, hfz35_0, hfz35_1⟩ := zy2 BK243.out; have hnb36 := NB244_245.out; have hnc36 := NB245_244.out; obtain ⟨hcz37_0, hcz37_1, hfz37_0, hfz37_1⟩ := zy2 BK244.out
      go_wp2_with (first | (go_at_call 68; (with_reducible refine (impl_between.calls a0_0 a0_1 a1_0 a1_1 a2_0 a2_1 true _ A27.out).mono ?_); rintro e w38 ⟨rfl, hb⟩; replace BK242 := zbl BK242.out hb; replace BK243 := zbl BK243.out hb; replace BK244 := zbl BK244.out hb; replace BK245 := zbl BK245.out hb; replace HB := zQ (below_step (by repeat (first | (with_reducible first | exact HB.out | apply below_alloc | apply pw_below_drewN | apply below_drew1 | refine below_set ?_ GE242.out | refine below_set ?_ GE243.out | refine below_set ?_ GE244.out | refine below_set ?_ GE245.out) | exact HB.out)) hb); (try clear hb); (try clear hb2); (try clear hk); (try clear hi)))
      go_ret
      exact ⟨zE, by repeat (first | (with_reducible first | exact HB.out | apply below_alloc | apply pw_below_drewN | apply below_drew1 | refine below_set ?_ GE242.out | refine below_set ?_ GE243.out | refine below_set ?_ GE244.out | refine below_set ?_ GE245.out) | exact HB.out)⟩
     ·replace c28 := Bool.eq_false_iff.mpr c28
      subst c28
      rw [if_neg Bool.false_ne_true] at H
      by_cases c39 : t247 = 0
      ·rw [if_pos c39] at H
       have c39b0 : (t247 == 0) = true := beq_iff_eq.mpr c39; have c39b1 : (t247 != 0) = false := bne_eq_false_iff_eq.mpr c39; clear c39; replace H := zob H; obtain ⟨t255, A40, H⟩ := H
       by_cases c41 : t255 = true
       ·subst c41
        rw [if_pos rfl] at H; obtain rfl := Option.some.inj H; have hnb42 := NB242_243.out; have hnc42 := NB243_242.out; have hnb43 := NB242_244.out; have hnc43 := NB244_242.out; have hnb44 := NB242_245.out; have hnc44 := NB245_242.out; obtain ⟨hcz45_0, hcz45_1, hfz45_0, hfz45_1⟩ := zy2 BK242.out; have hnb46 := NB243_244.out; have hnc46 := NB244_243.out; have hnb47 := NB243_245.out; have hnc47 := NB245_243.out; obtain ⟨hcz48_0, hcz48_1, hfz48_0, hfz48_1⟩ := zy2 BK243.out; have hnb49 := NB244_245.out; have hnc49 := NB245_244.out; obtain ⟨hcz50_0, hcz50_1, hfz50_0, hfz50_1⟩ := zy2 BK244.out
        go_wp2_with (first | (go_at_call 68; (with_reducible refine (impl_between.calls a0_0 a0_1 a1_0 a1_1 a2_0 a2_1 false _ A27.out).mono ?_); rintro e w51 ⟨rfl, hb⟩; replace BK242 := zbl BK242.out hb; replace BK243 := zbl BK243.out hb; replace BK244 := zbl BK244.out hb; replace BK245 := zbl BK245.out hb; replace HB := zQ (below_step (by repeat (first | (with_reducible first | exact HB.out | apply below_alloc | apply pw_below_drewN | apply below_drew1 | refine below_set ?_ GE242.out | refine below_set ?_ GE243.out | refine below_set ?_ GE244.out | refine below_set ?_ GE245.out) | exact HB.out)) hb); (try clear hb); (try clear hb2); (try clear hk); (try clear hi); obtain ⟨hcz52_0, hcz52_1, hfz52_0, hfz52_1⟩ := zy2 BK242.out; obtain ⟨hcz53_0, hcz53_1, hfz53_0, hfz53_1⟩ := zy2 BK243.out; obtain ⟨hcz54_0, hcz54_1, hfz54_0, hfz54_1⟩ := zy2 BK245.out) | (go_at_call 68; (with_reducible refine (impl_between.calls a0_0 a0_1 a1_0 a1_1 a3_0 a3_1 true _ A40.out).mono ?_); rintro e w55 ⟨rfl, hb⟩; replace BK242 := zbl BK242.out hb; replace BK243 := zbl BK243.out hb; replace BK244 := zbl BK244.out hb; replace BK245 := zbl BK245.out hb; replace HB := zQ (below_step (by repeat (first | (with_reducible first | exact HB.out | apply below_alloc | apply pw_below_drewN | apply below_drew1 | refine below_set ?_ GE242.out | refine below_set ?_ GE243.out | refine below_set ?_ GE244.out | refine below_set ?_ GE245.out) | exact HB.out)) hb); (try clear hb); (try clear hb2); (try clear hk); (try clear hi)))
        go_ret
        exact ⟨zE, by repeat (first | (with_reducible first | exact HB.out | apply below_alloc | apply pw_below_drewN | apply below_drew1 | refine below_set ?_ GE242.out | refine below_set ?_ GE243.out | refine below_set ?_ GE244.out | refine below_set ?_ GE245.out) | exact HB.out)⟩
       ·replace c41 := Bool.eq_false_iff.mpr c41
        subst c41
        rw [if_neg Bool.false_ne_true] at H
        by_cases c56 : t248 = 0
        ·rw [if_pos c56] at H
         have c56b0 : (t248 == 0) = true := beq_iff_eq.mpr c56; have c56b1 : (t248 != 0) = false := bne_eq_false_iff_eq.mpr c56; clear c56; replace H := zob H; obtain ⟨t256, A57, H⟩ := H
         by_cases c58 : t256 = true
         ·subst c58
          rw [if_pos rfl] at H; obtain rfl := Option.some.inj H; have hnb59 := NB242_243.out; have hnc59 := NB243_242.out; have hnb60 := NB242_244.out; have hnc60 := NB244_242.out; have hnb61 := NB242_245.out; have hnc61 := NB245_242.out; obtain ⟨hcz62_0, hcz62_1, hfz62_0, hfz62_1⟩ := zy2 BK242.out; have hnb63 := NB243_244.out; have hnc63 := NB244_243.out; have hnb64 := NB243_245.out; have hnc64 := NB245_243.out; obtain ⟨hcz65_0, hcz65_1, hfz65_0, hfz65_1⟩ := zy2 BK243.out; have hnb66 := NB244_245.out; have hnc66 := NB245_244.out; obtain ⟨hcz67_0, hcz67_1, hfz67_0, hfz67_1⟩ := zy2 BK244.out
          go_wp2_with (first | (go_at_call 68; (with_reducible refine (impl_between.calls a0_0 a0_1 a1_0 a1_1 a2_0 a2_1 false _ A27.out).mono ?_); rintro e w68 ⟨rfl, hb⟩; replace BK242 := zbl BK242.out hb; replace BK243 := zbl BK243.out hb; replace BK244 := zbl BK244.out hb; replace BK245 := zbl BK245.out hb; replace HB := zQ (below_step (by repeat (first | (with_reducible first | exact HB.out | apply below_alloc | apply pw_below_drewN | apply below_drew1 | refine below_set ?_ GE242.out | refine below_set ?_ GE243.out | refine below_set ?_ GE244.out | refine below_set ?_ GE245.out) | exact HB.out)) hb); (try clear hb); (try clear hb2); (try clear hk); (try clear hi); obtain ⟨hcz69_0, hcz69_1, hfz69_0, hfz69_1⟩ := zy2 BK242.out; obtain ⟨hcz70_0, hcz70_1, hfz70_0, hfz70_1⟩ := zy2 BK243.out; obtain ⟨hcz71_0, hcz71_1, hfz71_0, hfz71_1⟩ := zy2 BK245.out) | (go_at_call 68; (with_reducible refine (impl_between.calls a0_0 a0_1 a1_0 a1_1 a3_0 a3_1 false _ A40.out).mono ?_); rintro e w72 ⟨rfl, hb⟩; replace BK242 := zbl BK242.out hb; replace BK243 := zbl BK243.out hb; replace BK244 := zbl BK244.out hb; replace BK245 := zbl BK245.out hb; replace HB := zQ (below_step (by repeat (first | (with_reducible first | exact HB.out | apply below_alloc | apply pw_below_drewN | apply below_drew1 | refine below_set ?_ GE242.out | refine below_set ?_ GE243.out | refine below_set ?_ GE244.out | refine below_set ?_ GE245.out) | exact HB.out)) hb); (try clear hb); (try clear hb2); (try clear hk); (try clear hi); obtain ⟨hcz73_0, hcz73_1, hfz73_0, hfz73_1⟩ := zy2 BK244.out; obtain ⟨hcz74_0, hcz74_1, hfz74_0, hfz74_1⟩ := zy2 BK245.out; obtain ⟨hcz75_0, hcz75_1, hfz75_0, hfz75_1⟩ := zy2 BK242.out) | (go_at_call 68; (with_reducible refine (impl_between.calls a2_0 a2_1 a3_0 a3_1 a0_0 a0_1 true _ A57.out).mono ?_); rintro e w76 ⟨rfl, hb⟩; replace BK242 := zbl BK242.out hb; replace BK243 := zbl BK243.out hb; replace BK244 := zbl BK244.out hb; replace BK245 := zbl BK245.out hb; replace HB := zQ (below_step (by repeat (first | (with_reducible first | exact HB.out | apply below_alloc | apply pw_below_drewN | apply below_drew1 | refine below_set ?_ GE242.out | refine below_set ?_ GE243.out | refine below_set ?_ GE244.out | refine below_set ?_ GE245.out) | exact HB.out)) hb); (try clear hb); (try clear hb2); (try clear hk); (try clear hi)))
          go_ret
          exact ⟨zE, by repeat (first | (with_reducible first | exact HB.out | apply below_alloc | apply pw_below_drewN | apply below_drew1 | refine below_set ?_ GE242.out | refine below_set ?_ GE243.out | refine below_set ?_ GE244.out | refine below_set ?_ GE245.out) | exact HB.out)⟩
         ·replace c58 := Bool.eq_false_iff.mpr c58
          subst c58
          rw [if_neg Bool.false_ne_true] at H
          by_cases c77 : t249 = 0
          ·rw [if_pos c77] at H
           have c77b0 : (t249 == 0) = true := beq_iff_eq.mpr c77; have c77b1 : (t249 != 0) = false := bne_eq_false_iff_eq.mpr c77; clear c77; replace H := zob H; obtain ⟨t257, A78, H⟩ := H; obtain rfl := Option.some.inj H; have hnb79 := NB242_243.out; have hnc79 := NB243_242.out; have hnb80 := NB242_244.out; have hnc80 := NB244_242.out; have hnb81 := NB242_245.out; have hnc81 := NB245_242.out; obtain ⟨hcz82_0, hcz82_1, hfz82_0, hfz82_1⟩ := zy2 BK242.out; have hnb83 := NB243_244.out; have hnc83 := NB244_243.out; have hnb84 := NB243_245.out; have hnc84 := NB245_243.out; obtain ⟨hcz85_0, hcz85_1, hfz85_0, hfz85_1⟩ := zy2 BK243.out; have hnb86 := NB244_245.out; have hnc86 := NB245_244.out; obtain ⟨hcz87_0, hcz87_1, hfz87_0, hfz87_1⟩ := zy2 BK244.out
           go_wp2_with (first | (go_at_call 68; (with_reducible refine (impl_between.calls a0_0 a0_1 a1_0 a1_1 a2_0 a2_1 false _ A27.out).mono ?_); rintro e w88 ⟨rfl, hb⟩; replace BK242 := zbl BK242.out hb; replace BK243 := zbl BK243.out hb; replace BK244 := zbl BK244.out hb; replace BK245 := zbl BK245.out hb; replace HB := zQ (below_step (by repeat (first | (with_reducible first | exact HB.out | apply below_alloc | apply pw_below_drewN | apply below_drew1 | refine below_set ?_ GE242.out | refine below_set ?_ GE243.out | refine below_set ?_ GE244.out | refine below_set ?_ GE245.out) | exact HB.out)) hb); (try clear hb); (try clear hb2); (try clear hk); (try clear hi); obtain ⟨hcz89_0, hcz89_1, hfz89_0, hfz89_1⟩ := zy2 BK242.out; obtain ⟨hcz90_0, hcz90_1, hfz90_0, hfz90_1⟩ := zy2 BK243.out; obtain ⟨hcz91_0, hcz91_1, hfz91_0, hfz91_1⟩ := zy2 BK245.out) | (go_at_call 68; (with_reducible refine (impl_between.calls a0_0 a0_1 a1_0 a1_1 a3_0 a3_1 false _ A40.out).mono ?_); rintro e w92 ⟨rfl, hb⟩; replace BK242 := zbl BK242.out hb; replace BK243 := zbl BK243.out hb; replace BK244 := zbl BK244.out hb; replace BK245 := zbl BK245.out hb; replace HB := zQ (below_step (by repeat (first | (with_reducible first | exact HB.out | apply below_alloc | apply pw_below_drewN | apply below_drew1 | refine below_set ?_ GE242.out | refine below_set ?_ GE243.out | refine below_set ?_ GE244.out | refine below_set ?_ GE245.out) | exact HB.out)) hb); (try clear hb); (try clear hb2); (try clear hk); (try clear hi); obtain ⟨hcz93_0, hcz93_1, hfz93_0, hfz93_1⟩ := zy2 BK244.out; obtain ⟨hcz94_0, hcz94_1, hfz94_0, hfz94_1⟩ := zy2 BK245.out; obtain ⟨hcz95_0, hcz95_1, hfz95_0, hfz95_1⟩ := zy2 BK242.out) | (go_at_call 68; (with_reducible refine (impl_between.calls a2_0 a2_1 a3_0 a3_1 a0_0 a0_1 false _ A57.out).mono ?_); rintro e w96 ⟨rfl, hb⟩; replace BK242 := zbl BK242.out hb; replace BK243 := zbl BK243.out hb; replace BK244 := zbl BK244.out hb; replace BK245 := zbl BK245.out hb; replace HB := zQ (below_step (by repeat (first | (with_reducible first | exact HB.out | apply below_alloc | apply pw_below_drewN | apply below_drew1 | refine below_set ?_ GE242.out | refine below_set ?_ GE243.out | refine below_set ?_ GE244.out | refine below_set ?_ GE245.out) | exact HB.out)) hb); (try clear hb); (try clear hb2); (try clear hk); (try clear hi); obtain ⟨hcz97_0, hcz97_1, hfz97_0, hfz97_1⟩ := zy2 BK244.out; obtain ⟨hcz98_0, hcz98_1, hfz98_0, hfz98_1⟩ := zy2 BK245.out; obtain ⟨hcz99_0, hcz99_1, hfz99_0, hfz99_1⟩ := zy2 BK243.out) | (go_at_call 68; (with_reducible refine (impl_between.calls a2_0 a2_1 a3_0 a3_1 a1_0 a1_1 t257 _ A78.out).mono ?_); rintro e w100 ⟨rfl, hb⟩; replace BK242 := zbl BK242.out hb; replace BK243 := zbl BK243.out hb; replace BK244 := zbl BK244.out hb; replace BK245 := zbl BK245.out hb; replace HB := zQ (below_step (by repeat (first | (with_reducible first | exact HB.out | apply below_alloc | apply pw_below_drewN | apply below_drew1 | refine below_set ?_ GE242.out | refine below_set ?_ GE243.out | refine below_set ?_ GE244.out | refine below_set ?_ GE245.out) | exact HB.out)) hb); (try clear hb); (try clear hb2); (try clear hk); (try clear hi)))
           go_ret
           exact ⟨zE, by repeat (first | (with_reducible first | exact HB.out | apply below_alloc | apply pw_below_drewN | apply below_drew1 | refine below_set ?_ GE242.out | refine below_set ?_ GE243.out | refine below_set ?_ GE244.out | refine below_set ?_ GE245.out) | exact HB.out)⟩
          ·rw [if_neg c77] at H
           have c77b0 : (t249 == 0) = false := beq_eq_false_iff_ne.mpr c77; have c77b1 : (t249 != 0) = true := bne_iff_ne.mpr c77; obtain rfl := Option.some.inj H; have hnb101 := NB242_243.out; have hnc101 := NB243_242.out; have hnb102 := NB242_244.out; have hnc102 := NB244_242.out; have hnb103 := NB242_245.out; have hnc103 := NB245_242.out; obtain ⟨hcz104_0, hcz104_1, hfz104_0, hfz104_1⟩ := zy2 BK242.out; have hnb105 := NB243_244.out; have hnc105 := NB244_243.out; have hnb106 := NB243_245.out; have hnc106 := NB245_243.out; obtain ⟨hcz107_0, hcz107_1, hfz107_0, hfz107_1⟩ := zy2 BK243.out; have hnb108 := NB244_245.out; have hnc108 := NB245_244.out; obtain ⟨hcz109_0, hcz109_1, hfz109_0, hfz109_1⟩ := zy2 BK244.out
           go_wp2_with (first | (go_at_call 68; (with_reducible refine (impl_between.calls a0_0 a0_1 a1_0 a1_1 a2_0 a2_1 false _ A27.out).mono ?_); rintro e w110 ⟨rfl, hb⟩; replace BK242 := zbl BK242.out hb; replace BK243 := zbl BK243.out hb; replace BK244 := zbl BK244.out hb; replace BK245 := zbl BK245.out hb; replace HB := zQ (below_step (by repeat (first | (with_reducible first | exact HB.out | apply below_alloc | apply pw_below_drewN | apply below_drew1 | refine below_set ?_ GE242.out | refine below_set ?_ GE243.out | refine below_set ?_ GE244.out | refine below_set ?_ GE245.out) | exact HB.out)) hb); (try clear hb); (try clear hb2); (try clear hk); (try clear hi); obtain ⟨hcz111_0, hcz111_1, hfz111_0, hfz111_1⟩ := zy2 BK242.out; obtain ⟨hcz112_0, hcz112_1, hfz112_0, hfz112_1⟩ := zy2 BK243.out; obtain ⟨hcz113_0, hcz113_1, hfz113_0, hfz113_1⟩ := zy2 BK245.out) | (go_at_call 68; (with_reducible refine (impl_between.calls a0_0 a0_1 a1_0 a1_1 a3_0 a3_1 false _ A40.out).mono ?_); rintro e w114 ⟨rfl, hb⟩; replace BK242 := zbl BK242.out hb; replace BK243 := zbl BK243.out hb; replace BK244 := zbl BK244.out hb; replace BK245 := zbl BK245.out hb; replace HB := zQ (below_step (by repeat (first | (with_reducible first | exact HB.out | apply below_alloc | apply pw_below_drewN | apply below_drew1 | refine below_set ?_ GE242.out | refine below_set ?_ GE243.out | refine below_set ?_ GE244.out | refine below_set ?_ GE245.out) | exact HB.out)) hb); (try clear hb); (try clear hb2); (try clear hk); (try clear hi); obtain ⟨hcz115_0, hcz115_1, hfz115_0, hfz115_1⟩ := zy2 BK244.out; obtain ⟨hcz116_0, hcz116_1, hfz116_0, hfz116_1⟩ := zy2 BK245.out; obtain ⟨hcz117_0, hcz117_1, hfz117_0, hfz117_1⟩ := zy2 BK242.out) | (go_at_call 68; (with_reducible refine (impl_between.calls a2_0 a2_1 a3_0 a3_1 a0_0 a0_1 false _ A57.out).mono ?_); rintro e w118 ⟨rfl, hb⟩; replace BK242 := zbl BK242.out hb; replace BK243 := zbl BK243.out hb; replace BK244 := zbl BK244.out hb; replace BK245 := zbl BK245.out hb; replace HB := zQ (below_step (by repeat (first | (with_reducible first | exact HB.out | apply below_alloc | apply pw_below_drewN | apply below_drew1 | refine below_set ?_ GE242.out | refine below_set ?_ GE243.out | refine below_set ?_ GE244.out | refine below_set ?_ GE245.out) | exact HB.out)) hb); (try clear hb); (try clear hb2); (try clear hk); (try clear hi)))
           go_ret
           exact ⟨zE, by repeat (first | (with_reducible first | exact HB.out | apply below_alloc | apply pw_below_drewN | apply below_drew1 | refine below_set ?_ GE242.out | refine below_set ?_ GE243.out | refine below_set ?_ GE244.out | refine below_set ?_ GE245.out) | exact HB.out)⟩
        ·rw [if_neg c56] at H
         have c56b0 : (t248 == 0) = false := beq_eq_false_iff_ne.mpr c56; have c56b1 : (t248 != 0) = true := bne_iff_ne.mpr c56
         by_cases c119 : t249 = 0
         ·rw [if_pos c119] at H
          have c119b0 : (t249 == 0) = true := beq_iff_eq.mpr c119; have c119b1 : (t249 != 0) = false := bne_eq_false_iff_eq.mpr c119; clear c119; replace H := zob H; obtain ⟨t258, A120, H⟩ := H; obtain rfl := Option.some.inj H; have hnb121 := NB242_243.out; have hnc121 := NB243_242.out; have hnb122 := NB242_244.out; have hnc122 := NB244_242.out; have hnb123 := NB242_245.out; have hnc123 := NB245_242.out; obtain ⟨hcz124_0, hcz124_1, hfz124_0, hfz124_1⟩ := zy2 BK242.out; have hnb125 := NB243_244.out; have hnc125 := NB244_243.out; have hnb126 := NB243_245.out; have hnc126 := NB245_243.out; obtain ⟨hcz127_0, hcz127_1, hfz127_0, hfz127_1⟩ := zy2 BK243.out; have hnb128 := NB244_245.out; have hnc128 := NB245_244.out; obtain ⟨hcz129_0, hcz129_1, hfz129_0, hfz129_1⟩ := zy2 BK244.out
          go_wp2_with (first | (go_at_call 68; (with_reducible refine (impl_between.calls a0_0 a0_1 a1_0 a1_1 a2_0 a2_1 false _ A27.out).mono ?_); rintro e w130 ⟨rfl, hb⟩; replace BK242 := zbl BK242.out hb; replace BK243 := zbl BK243.out hb; replace BK244 := zbl BK244.out hb; replace BK245 := zbl BK245.out hb; replace HB := zQ (below_step (by repeat (first | (with_reducible first | exact HB.out | apply below_alloc | apply pw_below_drewN | apply below_drew1 | refine below_set ?_ GE242.out | refine below_set ?_ GE243.out | refine below_set ?_ GE244.out | refine below_set ?_ GE245.out) | exact HB.out)) hb); (try clear hb); (try clear hb2); (try clear hk); (try clear hi); obtain ⟨hcz131_0, hcz131_1, hfz131_0, hfz131_1⟩ := zy2 BK242.out; obtain ⟨hcz132_0, hcz132_1, hfz132_0, hfz132_1⟩ := zy2 BK243.out; obtain ⟨hcz133_0, hcz133_1, hfz133_0, hfz133_1⟩ := zy2 BK245.out) | (go_at_call 68; (with_reducible refine (impl_between.calls a0_0 a0_1 a1_0 a1_1 a3_0 a3_1 false _ A40.out).mono ?_); rintro e w134 ⟨rfl, hb⟩; replace BK242 := zbl BK242.out hb; replace BK243 := zbl BK243.out hb; replace BK244 := zbl BK244.out hb; replace BK245 := zbl BK245.out hb; replace HB := zQ (below_step (by repeat (first | (with_reducible first | exact HB.out | apply below_alloc | apply pw_below_drewN | apply below_drew1 | refine below_set ?_ GE242.out | refine below_set ?_ GE243.out | refine below_set ?_ GE244.out | refine below_set ?_ GE245.out) | exact HB.out)) hb); (try clear hb); (try clear hb2); (try clear hk); (try clear hi); obtain ⟨hcz135_0, hcz135_1, hfz135_0, hfz135_1⟩ := zy2 BK244.out; obtain ⟨hcz136_0, hcz136_1, hfz136_0, hfz136_1⟩ := zy2 BK245.out; obtain ⟨hcz137_0, hcz137_1, hfz137_0, hfz137_1⟩ := zy2 BK243.out) | (go_at_call 68; (with_reducible refine (impl_between.calls a2_0 a2_1 a3_0 a3_1 a1_0 a1_1 t258 _ A120.out).mono ?_); rintro e w138 ⟨rfl, hb⟩; replace BK242 := zbl BK242.out hb; replace BK243 := zbl BK243.out hb; replace BK244 := zbl BK244.out hb; replace BK245 := zbl BK245.out hb; replace HB := zQ (below_step (by repeat (first | (with_reducible first | exact HB.out | apply below_alloc | apply pw_below_drewN | apply below_drew1 | refine below_set ?_ GE242.out | refine below_set ?_ GE243.out | refine below_set ?_ GE244.out | refine below_set ?_ GE245.out) | exact HB.out)) hb); (try clear hb); (try clear hb2); (try clear hk); (try clear hi)))
          go_ret
          exact ⟨zE, by repeat (first | (with_reducible first | exact HB.out | apply below_alloc | apply pw_below_drewN | apply below_drew1 | refine below_set ?_ GE242.out | refine below_set ?_ GE243.out | refine below_set ?_ GE244.out | refine below_set ?_ GE245.out) | exact HB.out)⟩
         ·rw [if_neg c119] at H
          have c119b0 : (t249 == 0) = false := beq_eq_false_iff_ne.mpr c119; have c119b1 : (t249 != 0) = true := bne_iff_ne.mpr c119; obtain rfl := Option.some.inj H; have hnb139 := NB242_243.out; have hnc139 := NB243_242.out; have hnb140 := NB242_244.out; have hnc140 := NB244_242.out; have hnb141 := NB242_245.out; have hnc141 := NB245_242.out; obtain ⟨hcz142_0, hcz142_1, hfz142_0, hfz142_1⟩ := zy2 BK242.out; have hnb143 := NB243_244.out; have hnc143 := NB244_243.out; have hnb144 := NB243_245.out; have hnc144 := NB245_243.out; obtain ⟨hcz145_0, hcz145_1, hfz145_0, hfz145_1⟩ := zy2 BK243.out; have hnb146 := NB244_245.out; have hnc146 := NB245_244.out; obtain ⟨hcz147_0, hcz147_1, hfz147_0, hfz147_1⟩ := zy2 BK244.out
          go_wp2_with (first | (go_at_call 68; (with_reducible refine (impl_between.calls a0_0 a0_1 a1_0 a1_1 a2_0 a2_1 false _ A27.out).mono ?_); rintro e w148 ⟨rfl, hb⟩; replace BK242 := zbl BK242.out hb; replace BK243 := zbl BK243.out hb; replace BK244 := zbl BK244.out hb; replace BK245 := zbl BK245.out hb; replace HB := zQ (below_step (by repeat (first | (with_reducible first | exact HB.out | apply below_alloc | apply pw_below_drewN | apply below_drew1 | refine below_set ?_ GE242.out | refine below_set ?_ GE243.out | refine below_set ?_ GE244.out | refine below_set ?_ GE245.out) | exact HB.out)) hb); (try clear hb); (try clear hb2); (try clear hk); (try clear hi); obtain ⟨hcz149_0, hcz149_1, hfz149_0, hfz149_1⟩ := zy2 BK242.out; obtain ⟨hcz150_0, hcz150_1, hfz150_0, hfz150_1⟩ := zy2 BK243.out; obtain ⟨hcz151_0, hcz151_1, hfz151_0, hfz151_1⟩ := zy2 BK245.out) | (go_at_call 68; (with_reducible refine (impl_between.calls a0_0 a0_1 a1_0 a1_1 a3_0 a3_1 false _ A40.out).mono ?_); rintro e w152 ⟨rfl, hb⟩; replace BK242 := zbl BK242.out hb; replace BK243 := zbl BK243.out hb; replace BK244 := zbl BK244.out hb; replace BK245 := zbl BK245.out hb; replace HB := zQ (below_step (by repeat (first | (with_reducible first | exact HB.out | apply below_alloc | apply pw_below_drewN | apply below_drew1 | refine below_set ?_ GE242.out | refine below_set ?_ GE243.out | refine below_set ?_ GE244.out | refine below_set ?_ GE245.out) | exact HB.out)) hb); (try clear hb); (try clear hb2); (try clear hk); (try clear hi)))
          go_ret
          exact ⟨zE, by repeat (first | (with_reducible first | exact HB.out | apply below_alloc | apply pw_below_drewN | apply below_drew1 | refine below_set ?_ GE242.out | refine below_set ?_ GE243.out | refine below_set ?_ GE244.out | refine below_set ?_ GE245.out) | exact HB.out)⟩
      ·rw [if_neg c39] at H
       have c39b0 : (t247 == 0) = false := beq_eq_false_iff_ne.mpr c39; have c39b1 : (t247 != 0) = true := bne_iff_ne.mpr c39
       by_cases c153 : t248 = 0
       ·rw [if_pos c153] at H
        have c153b0 : (t248 == 0) = true := beq_iff_eq.mpr c153; have c153b1 : (t248 != 0) = false := bne_eq_false_iff_eq.mpr c153; clear c153; replace H := zob H; obtain ⟨t259, A154, H⟩ := H
        by_cases c155 : t259 = true
        ·subst c155
         rw [if_pos rfl] at H; obtain rfl := Option.some.inj H; have hnb156 := NB242_243.out; have hnc156 := NB243_242.out; have hnb157 := NB242_244.out; have hnc157 := NB244_242.out; have hnb158 := NB242_245.out; have hnc158 := NB245_242.out; obtain ⟨hcz159_0, hcz159_1, hfz159_0, hfz159_1⟩ := zy2 BK242.out; have hnb160 := NB243_244.out; have hnc160 := NB244_243.out; have hnb161 := NB243_245.out; have hnc161 := NB245_243.out; obtain ⟨hcz162_0, hcz162_1, hfz162_0, hfz162_1⟩ := zy2 BK243.out; have hnb163 := NB244_245.out; have hnc163 := NB245_244.out; obtain ⟨hcz164_0, hcz164_1, hfz164_0, hfz164_1⟩ := zy2 BK244.out
         go_wp2_with (first | (go_at_call 68; (with_reducible refine (impl_between.calls a0_0 a0_1 a1_0 a1_1 a2_0 a2_1 false _ A27.out).mono ?_); rintro e w165 ⟨rfl, hb⟩; replace BK242 := zbl BK242.out hb; replace BK243 := zbl BK243.out hb; replace BK244 := zbl BK244.out hb; replace BK245 := zbl BK245.out hb; replace HB := zQ (below_step (by repeat (first | (with_reducible first | exact HB.out | apply below_alloc | apply pw_below_drewN | apply below_drew1 | refine below_set ?_ GE242.out | refine below_set ?_ GE243.out | refine below_set ?_ GE244.out | refine below_set ?_ GE245.out) | exact HB.out)) hb); (try clear hb); (try clear hb2); (try clear hk); (try clear hi); obtain ⟨hcz166_0, hcz166_1, hfz166_0, hfz166_1⟩ := zy2 BK244.out; obtain ⟨hcz167_0, hcz167_1, hfz167_0, hfz167_1⟩ := zy2 BK245.out; obtain ⟨hcz168_0, hcz168_1, hfz168_0, hfz168_1⟩ := zy2 BK242.out) | (go_at_call 68; (with_reducible refine (impl_between.calls a2_0 a2_1 a3_0 a3_1 a0_0 a0_1 true _ A154.out).mono ?_); rintro e w169 ⟨rfl, hb⟩; replace BK242 := zbl BK242.out hb; replace BK243 := zbl BK243.out hb; replace BK244 := zbl BK244.out hb; replace BK245 := zbl BK245.out hb; replace HB := zQ (below_step (by repeat (first | (with_reducible first | exact HB.out | apply below_alloc | apply pw_below_drewN | apply below_drew1 | refine below_set ?_ GE242.out | refine below_set ?_ GE243.out | refine below_set ?_ GE244.out | refine below_set ?_ GE245.out) | exact HB.out)) hb); (try clear hb); (try clear hb2); (try clear hk); (try clear hi)))
         go_ret
         exact ⟨zE, by repeat (first | (with_reducible first | exact HB.out | apply below_alloc | apply pw_below_drewN | apply below_drew1 | refine below_set ?_ GE242.out | refine below_set ?_ GE243.out | refine below_set ?_ GE244.out | refine below_set ?_ GE245.out) | exact HB.out)⟩
        ·replace c155 := Bool.eq_false_iff.mpr c155
         subst c155
         rw [if_neg Bool.false_ne_true] at H
         by_cases c170 : t249 = 0
         ·rw [if_pos c170] at H
          have c170b0 : (t249 == 0) = true := beq_iff_eq.mpr c170; have c170b1 : (t249 != 0) = false := bne_eq_false_iff_eq.mpr c170; clear c170; replace H := zob H; obtain ⟨t260, A171, H⟩ := H; obtain rfl := Option.some.inj H; have hnb172 := NB242_243.out; have hnc172 := NB243_242.out; have hnb173 := NB242_244.out; have hnc173 := NB244_242.out; have hnb174 := NB242_245.out; have hnc174 := NB245_242.out; obtain ⟨hcz175_0, hcz175_1, hfz175_0, hfz175_1⟩ := zy2 BK242.out; have hnb176 := NB243_244.out; have hnc176 := NB244_243.out; have hnb177 := NB243_245.out; have hnc177 := NB245_243.out; obtain ⟨hcz178_0, hcz178_1, hfz178_0, hfz178_1⟩ := zy2 BK243.out; have hnb179 := NB244_245.out; have hnc179 := NB245_244.out; obtain ⟨hcz180_0, hcz180_1, hfz180_0, hfz180_1⟩ := zy2 BK244.out
          go_wp2_with (first | (go_at_call 68; (with_reducible refine (impl_between.calls a0_0 a0_1 a1_0 a1_1 a2_0 a2_1 false _ A27.out).mono ?_); rintro e w181 ⟨rfl, hb⟩; replace BK242 := zbl BK242.out hb; replace BK243 := zbl BK243.out hb; replace BK244 := zbl BK244.out hb; replace BK245 := zbl BK245.out hb; replace HB := zQ (below_step (by repeat (first | (with_reducible first | exact HB.out | apply below_alloc | apply pw_below_drewN | apply below_drew1 | refine below_set ?_ GE242.out | refine below_set ?_ GE243.out | refine below_set ?_ GE244.out | refine below_set ?_ GE245.out) | exact HB.out)) hb); (try clear hb); (try clear hb2); (try clear hk); (try clear hi); obtain ⟨hcz182_0, hcz182_1, hfz182_0, hfz182_1⟩ := zy2 BK244.out; obtain ⟨hcz183_0, hcz183_1, hfz183_0, hfz183_1⟩ := zy2 BK245.out; obtain ⟨hcz184_0, hcz184_1, hfz184_0, hfz184_1⟩ := zy2 BK242.out) | (go_at_call 68; (with_reducible refine (impl_between.calls a2_0 a2_1 a3_0 a3_1 a0_0 a0_1 false _ A154.out).mono ?_); rintro e w185 ⟨rfl, hb⟩; replace BK242 := zbl BK242.out hb; replace BK243 := zbl BK243.out hb; replace BK244 := zbl BK244.out hb; replace BK245 := zbl BK245.out hb; replace HB := zQ (below_step (by repeat (first | (with_reducible first | exact HB.out | apply below_alloc | apply pw_below_drewN | apply below_drew1 | refine below_set ?_ GE242.out | refine below_set ?_ GE243.out | refine below_set ?_ GE244.out | refine below_set ?_ GE245.out) | exact HB.out)) hb); (try clear hb); (try clear hb2); (try clear hk); (try clear hi); obtain ⟨hcz186_0, hcz186_1, hfz186_0, hfz186_1⟩ := zy2 BK244.out; obtain ⟨hcz187_0, hcz187_1, hfz187_0, hfz187_1⟩ := zy2 BK245.out; obtain ⟨hcz188_0, hcz188_1, hfz188_0, hfz188_1⟩ := zy2 BK243.out) | (go_at_call 68; (with_reducible refine (impl_between.calls a2_0 a2_1 a3_0 a3_1 a1_0 a1_1 t260 _ A171.out).mono ?_); rintro e w189 ⟨rfl, hb⟩; replace BK242 := zbl BK242.out hb; replace BK243 := zbl BK243.out hb; replace BK244 := zbl BK244.out hb; replace BK245 := zbl BK245.out hb; replace HB := zQ (below_step (by repeat (first | (with_reducible first | exact HB.out | apply below_alloc | apply pw_below_drewN | apply below_drew1 | refine below_set ?_ GE242.out | refine below_set ?_ GE243.out | refine below_set ?_ GE244.out | refine below_set ?_ GE245.out) | exact HB.out)) hb); (try clear hb); (try clear hb2); (try clear hk); (try clear hi)))
          go_ret
          exact ⟨zE, by repeat (first | (with_reducible first | exact HB.out | apply below_alloc | apply pw_below_drewN | apply below_drew1 | refine below_set ?_ GE242.out | refine below_set ?_ GE243.out | refine below_set ?_ GE244.out | refine below_set ?_ GE245.out) | exact HB.out)⟩
         ·rw [if_neg c170] at H
          have c170b0 : (t249 == 0) = false := beq_eq_false_iff_ne.mpr c170; have c170b1 : (t249 != 0) = true := bne_iff_ne.mpr c170; obtain rfl := Option.some.inj H; have hnb190 := NB242_243.out; have hnc190 := NB243_242.out; have hnb191 := NB242_244.out; have hnc191 := NB244_242.out; have hnb192 := NB242_245.out; have hnc192 := NB245_242.out; obtain ⟨hcz193_0, hcz193_1, hfz193_0, hfz193_1⟩ := zy2 BK242.out; have hnb194 := NB243_244.out; have hnc194 := NB244_243.out; have hnb195 := NB243_245.out; have hnc195 := NB245_243.out; obtain ⟨hcz196_0, hcz196_1, hfz196_0, hfz196_1⟩ := zy2 BK243.out; have hnb197 := NB244_245.out; have hnc197 := NB245_244.out; obtain ⟨hcz198_0, hcz198_1, hfz198_0, hfz198_1⟩ := zy2 BK244.out
          go_wp2_with (first | (go_at_call 68; (with_reducible refine (impl_between.calls a0_0 a0_1 a1_0 a1_1 a2_0 a2_1 false _ A27.out).mono ?_); rintro e w199 ⟨rfl, hb⟩; replace BK242 := zbl BK242.out hb; replace BK243 := zbl BK243.out hb; replace BK244 := zbl BK244.out hb; replace BK245 := zbl BK245.out hb; replace HB := zQ (below_step (by repeat (first | (with_reducible first | exact HB.out | apply below_alloc | apply pw_below_drewN | apply below_drew1 | refine below_set ?_ GE242.out | refine below_set ?_ GE243.out | refine below_set ?_ GE244.out | refine below_set ?_ GE245.out) | exact HB.out)) hb); (try clear hb); (try clear hb2); (try clear hk); (try clear hi); obtain ⟨hcz200_0, hcz200_1, hfz200_0, hfz200_1⟩ := zy2 BK244.out; obtain ⟨hcz201_0, hcz201_1, hfz201_0, hfz201_1⟩ := zy2 BK245.out; obtain ⟨hcz202_0, hcz202_1, hfz202_0, hfz202_1⟩ := zy2 BK242.out) | (go_at_call 68; (with_reducible refine (impl_between.calls a2_0 a2_1 a3_0 a3_1 a0_0 a0_1 false _ A154.out).mono ?_); rintro e w203 ⟨rfl, hb⟩; replace BK242 := zbl BK242.out hb; replace BK243 := zbl BK243.out hb; replace BK244 := zbl BK244.out hb; replace BK245 := zbl BK245.out hb; replace HB := zQ (below_step (by repeat (first | (with_reducible first | exact HB.out | apply below_alloc | apply pw_below_drewN | apply below_drew1 | refine below_set ?_ GE242.out | refine below_set ?_ GE243.out | refine below_set ?_ GE244.out | refine below_set ?_ GE245.out) | exact HB.out)) hb); (try clear hb); (try clear hb2); (try clear hk); (try clear hi)))
          go_ret
          exact ⟨zE, by repeat (first | (with_reducible first | exact HB.out | apply below_alloc | apply pw_below_drewN | apply below_drew1 | refine below_set ?_ GE242.out | refine below_set ?_ GE243.out | refine below_set ?_ GE244.out | refine below_set ?_ GE245.out) | exact HB.out)⟩
       ·rw [if_neg c153] at H
        have c153b0 : (t248 == 0) = false := beq_eq_false_iff_ne.mpr c153; have c153b1 : (t248 != 0) = true := bne_iff_ne.mpr c153
        by_cases c204 : t249 = 0
        ·rw [if_pos c204] at H
         have c204b0 : (t249 == 0) = true := beq_iff_eq.mpr c204; have c204b1 : (t249 != 0) = false := bne_eq_false_iff_eq.mpr c204; clear c204; replace H := zob H; obtain ⟨t261, A205, H⟩ := H; obtain rfl := Option.some.inj H; have hnb206 := NB242_243.out; have hnc206 := NB243_242.out; have hnb207 := NB242_244.out; have hnc207 := NB244_242.out; have hnb208 := NB242_245.out; have hnc208 := NB245_242.out; obtain ⟨hcz209_0, hcz209_1, hfz209_0, hfz209_1⟩ := zy2 BK242.out; have hnb210 := NB243_244.out; have hnc210 := NB244_243.out; have hnb211 := NB243_245.out; have hnc211 := NB245_243.out; obtain ⟨hcz212_0, hcz212_1, hfz212_0, hfz212_1⟩ := zy2 BK243.out; have hnb213 := NB244_245.out; have hnc213 := NB245_244.out; obtain ⟨hcz214_0, hcz214_1, hfz214_0, hfz214_1⟩ := zy2 BK244.out
         go_wp2_with (first | (go_at_call 68; (with_reducible refine (impl_between.calls a0_0 a0_1 a1_0 a1_1 a2_0 a2_1 false _ A27.out).mono ?_); rintro e w215 ⟨rfl, hb⟩; replace BK242 := zbl BK242.out hb; replace BK243 := zbl BK243.out hb; replace BK244 := zbl BK244.out hb; replace BK245 := zbl BK245.out hb; replace HB := zQ (below_step (by repeat (first | (with_reducible first | exact HB.out | apply below_alloc | apply pw_below_drewN | apply below_drew1 | refine below_set ?_ GE242.out | refine below_set ?_ GE243.out | refine below_set ?_ GE244.out | refine below_set ?_ GE245.out) | exact HB.out)) hb); (try clear hb); (try clear hb2); (try clear hk); (try clear hi); obtain ⟨hcz216_0, hcz216_1, hfz216_0, hfz216_1⟩ := zy2 BK244.out; obtain ⟨hcz217_0, hcz217_1, hfz217_0, hfz217_1⟩ := zy2 BK245.out; obtain ⟨hcz218_0, hcz218_1, hfz218_0, hfz218_1⟩ := zy2 BK243.out) | (go_at_call 68; (with_reducible refine (impl_between.calls a2_0 a2_1 a3_0 a3_1 a1_0 a1_1 t261 _ A205.out).mono ?_); rintro e w219 ⟨rfl, hb⟩; replace BK242 := zbl BK242.out hb; replace BK243 := zbl BK243.out hb; replace BK244 := zbl BK244.out hb; replace BK245 := zbl BK245.out hb; replace HB := zQ (below_step (by repeat (first | (with_reducible first | exact HB.out | apply below_alloc | apply pw_below_drewN | apply below_drew1 | refine below_set ?_ GE242.out | refine below_set ?_ GE243.out | refine below_set ?_ GE244.out | refine below_set ?_ GE245.out) | exact HB.out)) hb); (try clear hb); (try clear hb2); (try clear hk); (try clear hi)))
         go_ret
         exact ⟨zE, by repeat (first | (with_reducible first | exact HB.out | apply below_alloc | apply pw_below_drewN | apply below_drew1 | refine below_set ?_ GE242.out | refine below_set ?_ GE243.out | refine below_set ?_ GE244.out | refine below_set ?_ GE245.out) | exact HB.out)⟩
        ·rw [if_neg c204] at H
         have c204b0 : (t249 == 0) = false := beq_eq_false_iff_ne.mpr c204; have c204b1 : (t249 != 0) = true := bne_iff_ne.mpr c204; obtain rfl := Option.some.inj H; have hnb220 := NB242_243.out; have hnc220 := NB243_242.out; have hnb221 := NB242_244.out; have hnc221 := NB244_242.out; have hnb222 := NB242_245.out; have hnc222 := NB245_242.out; obtain ⟨hcz223_0, hcz223_1, hfz223_0, hfz223_1⟩ := zy2 BK242.out; have hnb224 := NB243_244.out; have hnc224 := NB244_243.out; have hnb225 := NB243_245.out; have hnc225 := NB245_243.out; obtain ⟨hcz226_0, hcz226_1, hfz226_0, hfz226_1⟩ := zy2 BK243.out; have hnb227 := NB244_245.out; have hnc227 := NB245_244.out; obtain ⟨hcz228_0, hcz228_1, hfz228_0, hfz228_1⟩ := zy2 BK244.out
         go_wp2_with (first | (go_at_call 68; (with_reducible refine (impl_between.calls a0_0 a0_1 a1_0 a1_1 a2_0 a2_1 false _ A27.out).mono ?_); rintro e w229 ⟨rfl, hb⟩; replace BK242 := zbl BK242.out hb; replace BK243 := zbl BK243.out hb; replace BK244 := zbl BK244.out hb; replace BK245 := zbl BK245.out hb; replace HB := zQ (below_step (by repeat (first | (with_reducible first | exact HB.out | apply below_alloc | apply pw_below_drewN | apply below_drew1 | refine below_set ?_ GE242.out | refine below_set ?_ GE243.out | refine below_set ?_ GE244.out | refine below_set ?_ GE245.out) | exact HB.out)) hb); (try clear hb); (try clear hb2); (try clear hk); (try clear hi)))
         go_ret
         exact ⟨zE, by repeat (first | (with_reducible first | exact HB.out | apply below_alloc | apply pw_below_drewN | apply below_drew1 | refine below_set ?_ GE242.out | refine below_set ?_ GE243.out | refine below_set ?_ GE244.out | refine below_set ?_ GE245.out) | exact HB.out)⟩
    ·rw [if_neg c26] at H
     have c26b0 : (t246 == 0) = false := beq_eq_false_iff_ne.mpr c26; have c26b1 : (t246 != 0) = true := bne_iff_ne.mpr c26
     by_cases c230 : t247 = 0
     ·rw [if_pos c230] at H
      have c230b0 : (t247 == 0) = true := beq_iff_eq.mpr c230; have c230b1 : (t247 != 0) = false := bne_eq_false_iff_eq.mpr c230; clear c230; replace H := zob H; obtain ⟨t262, A231, H⟩ := H
      by_cases c232 : t262 = true
      ·subst c232
       rw [if_pos rfl] at H; obtain rfl := Option.some.inj H; have hnb233 := NB242_243.out; have hnc233 := NB243_242.out; have hnb234 := NB242_244.out; have hnc234 := NB244_242.out; have hnb235 := NB242_245.out; have hnc235 := NB245_242.out; obtain ⟨hcz236_0, hcz236_1, hfz236_0, hfz236_1⟩ := zy2 BK242.out; have hnb237 := NB243_244.out; have hnc237 := NB244_243.out; have hnb238 := NB243_245.out; have hnc238 := NB245_243.out; obtain ⟨hcz239_0, hcz239_1, hfz239_0, hfz239_1⟩ := zy2 BK243.out; have hnb240 := NB245_244.out; have hnc240 := NB244_245.out; obtain ⟨hcz241_0, hcz241_1, hfz241_0, hfz241_1⟩ := zy2 BK245.out
       go_wp2_with (first | (go_at_call 68; (with_reducible refine (impl_between.calls a0_0 a0_1 a1_0 a1_1 a3_0 a3_1 true _ A231.out).mono ?_); rintro e w242 ⟨rfl, hb⟩; replace BK242 := zbl BK242.out hb; replace BK243 := zbl BK243.out hb; replace BK244 := zbl BK244.out hb; replace BK245 := zbl BK245.out hb; replace HB := zQ (below_step (by repeat (first | (with_reducible first | exact HB.out | apply below_alloc | apply pw_below_drewN | apply below_drew1 | refine below_set ?_ GE242.out | refine below_set ?_ GE243.out | refine below_set ?_ GE244.out | refine below_set ?_ GE245.out) | exact HB.out)) hb); (try clear hb); (try clear hb2); (try clear hk); (try clear hi)))
       go_ret
       exact ⟨zE, by repeat (first | (with_reducible first | exact HB.out | apply below_alloc | apply pw_below_drewN | apply below_drew1 | refine below_set ?_ GE242.out | refine below_set ?_ GE243.out | refine below_set ?_ GE244.out | refine below_set ?_ GE245.out) | exact HB.out)⟩
      ·replace c232 := Bool.eq_false_iff.mpr c232
       subst c232
       rw [if_neg Bool.false_ne_true] at H
       by_cases c243 : t248 = 0
       ·rw [if_pos c243] at H
        have c243b0 : (t248 == 0) = true := beq_iff_eq.mpr c243; have c243b1 : (t248 != 0) = false := bne_eq_false_iff_eq.mpr c243; clear c243; replace H := zob H; obtain ⟨t263, A244, H⟩ := H
        by_cases c245 : t263 = true
        ·subst c245
         rw [if_pos rfl] at H; obtain rfl := Option.some.inj H; have hnb246 := NB242_243.out; have hnc246 := NB243_242.out; have hnb247 := NB242_244.out; have hnc247 := NB244_242.out; have hnb248 := NB242_245.out; have hnc248 := NB245_242.out; obtain ⟨hcz249_0, hcz249_1, hfz249_0, hfz249_1⟩ := zy2 BK242.out; have hnb250 := NB243_244.out; have hnc250 := NB244_243.out; have hnb251 := NB243_245.out; have hnc251 := NB245_243.out; obtain ⟨hcz252_0, hcz252_1, hfz252_0, hfz252_1⟩ := zy2 BK243.out; have hnb253 := NB245_244.out; have hnc253 := NB244_245.out; obtain ⟨hcz254_0, hcz254_1, hfz254_0, hfz254_1⟩ := zy2 BK245.out
         go_wp2_with (first | (go_at_call 68; (with_reducible refine (impl_between.calls a0_0 a0_1 a1_0 a1_1 a3_0 a3_1 false _ A231.out).mono ?_); rintro e w255 ⟨rfl, hb⟩; replace BK242 := zbl BK242.out hb; replace BK243 := zbl BK243.out hb; replace BK244 := zbl BK244.out hb; replace BK245 := zbl BK245.out hb; replace HB := zQ (below_step (by repeat (first | (with_reducible first | exact HB.out | apply below_alloc | apply pw_below_drewN | apply below_drew1 | refine below_set ?_ GE242.out | refine below_set ?_ GE243.out | refine below_set ?_ GE244.out | refine below_set ?_ GE245.out) | exact HB.out)) hb); (try clear hb); (try clear hb2); (try clear hk); (try clear hi); obtain ⟨hcz256_0, hcz256_1, hfz256_0, hfz256_1⟩ := zy2 BK244.out; obtain ⟨hcz257_0, hcz257_1, hfz257_0, hfz257_1⟩ := zy2 BK245.out; obtain ⟨hcz258_0, hcz258_1, hfz258_0, hfz258_1⟩ := zy2 BK242.out) | (go_at_call 68; (with_reducible refine (impl_between.calls a2_0 a2_1 a3_0 a3_1 a0_0 a0_1 true _ A244.out).mono ?_); rintro e w259 ⟨rfl, hb⟩; replace BK242 := zbl BK242.out hb; replace BK243 := zbl BK243.out hb; replace BK244 := zbl BK244.out hb; replace BK245 := zbl BK245.out hb; replace HB := zQ (below_step (by repeat (first | (with_reducible first | exact HB.out | apply below_alloc | apply pw_below_drewN | apply below_drew1 | refine below_set ?_ GE242.out | refine below_set ?_ GE243.out | refine below_set ?_ GE244.out | refine below_set ?_ GE245.out) | exact HB.out)) hb); (try clear hb); (try clear hb2); (try clear hk); (try clear hi)))
         go_ret
         exact ⟨zE, by repeat (first | (with_reducible first | exact HB.out | apply below_alloc | apply pw_below_drewN | apply below_drew1 | refine below_set ?_ GE242.out | refine below_set ?_ GE243.out | refine below_set ?_ GE244.out | refine below_set ?_ GE245.out) | exact HB.out)⟩
        ·replace c245 := Bool.eq_false_iff.mpr c245
         subst c245
         rw [if_neg Bool.false_ne_true] at H
         by_cases c260 : t249 = 0
         ·rw [if_pos c260] at H
          have c260b0 : (t249 == 0) = true := beq_iff_eq.mpr c260; have c260b1 : (t249 != 0) = false := bne_eq_false_iff_eq.mpr c260; clear c260; replace H := zob H; obtain ⟨t264, A261, H⟩ := H; obtain rfl := Option.some.inj H; have hnb262 := NB242_243.out; have hnc262 := NB243_242.out; have hnb263 := NB242_244.out; have hnc263 := NB244_242.out; have hnb264 := NB242_245.out; have hnc264 := NB245_242.out; obtain ⟨hcz265_0, hcz265_1, hfz265_0, hfz265_1⟩ := zy2 BK242.out; have hnb266 := NB243_244.out; have hnc266 := NB244_243.out; have hnb267 := NB243_245.out; have hnc267 := NB245_243.out; obtain ⟨hcz268_0, hcz268_1, hfz268_0, hfz268_1⟩ := zy2 BK243.out; have hnb269 := NB245_244.out; have hnc269 := NB244_245.out; obtain ⟨hcz270_0, hcz270_1, hfz270_0, hfz270_1⟩ := zy2 BK245.out
          go_wp2_with (first | (go_at_call 68; (with_reducible refine (impl_between.calls a0_0 a0_1 a1_0 a1_1 a3_0 a3_1 false _ A231.out).mono ?_); rintro e w271 ⟨rfl, hb⟩; replace BK242 := zbl BK242.out hb; replace BK243 := zbl BK243.out hb; replace BK244 := zbl BK244.out hb; replace BK245 := zbl BK245.out hb; replace HB := zQ (below_step (by repeat (first | (with_reducible first | exact HB.out | apply below_alloc | apply pw_below_drewN | apply below_drew1 | refine below_set ?_ GE242.out | refine below_set ?_ GE243.out | refine below_set ?_ GE244.out | refine below_set ?_ GE245.out) | exact HB.out)) hb); (try clear hb); (try clear hb2); (try clear hk); (try clear hi); obtain ⟨hcz272_0, hcz272_1, hfz272_0, hfz272_1⟩ := zy2 BK244.out; obtain ⟨hcz273_0, hcz273_1, hfz273_0, hfz273_1⟩ := zy2 BK245.out; obtain ⟨hcz274_0, hcz274_1, hfz274_0, hfz274_1⟩ := zy2 BK242.out) | (go_at_call 68; (with_reducible refine (impl_between.calls a2_0 a2_1 a3_0 a3_1 a0_0 a0_1 false _ A244.out).mono ?_); rintro e w275 ⟨rfl, hb⟩; replace BK242 := zbl BK242.out hb; replace BK243 := zbl BK243.out hb; replace BK244 := zbl BK244.out hb; replace BK245 := zbl BK245.out hb; replace HB := zQ (below_step (by repeat (first | (with_reducible first | exact HB.out | apply below_alloc | apply pw_below_drewN | apply below_drew1 | refine below_set ?_ GE242.out | refine below_set ?_ GE243.out | refine below_set ?_ GE244.out | refine below_set ?_ GE245.out) | exact HB.out)) hb); (try clear hb); (try clear hb2); (try clear hk); (try clear hi); obtain ⟨hcz276_0, hcz276_1, hfz276_0, hfz276_1⟩ := zy2 BK244.out; obtain ⟨hcz277_0, hcz277_1, hfz277_0, hfz277_1⟩ := zy2 BK245.out; obtain ⟨hcz278_0, hcz278_1, hfz278_0, hfz278_1⟩ := zy2 BK243.out) | (go_at_call 68; (with_reducible refine (impl_between.calls a2_0 a2_1 a3_0 a3_1 a1_0 a1_1 t264 _ A261.out).mono ?_); rintro e w279 ⟨rfl, hb⟩; replace BK242 := zbl BK242.out hb; replace BK243 := zbl BK243.out hb; replace BK244 := zbl BK244.out hb; replace BK245 := zbl BK245.out hb; replace HB := zQ (below_step (by repeat (first | (with_reducible first | exact HB.out | apply below_alloc | apply pw_below_drewN | apply below_drew1 | refine below_set ?_ GE242.out | refine below_set ?_ GE243.out | refine below_set ?_ GE244.out | refine below_set ?_ GE245.out) | exact HB.out)) hb); (try clear hb); (try clear hb2); (try clear hk); (try clear hi)))
          go_ret
          exact ⟨zE, by repeat (first | (with_reducible first | exact HB.out | apply below_alloc | apply pw_below_drewN | apply below_drew1 | refine below_set ?_ GE242.out | refine below_set ?_ GE243.out | refine below_set ?_ GE244.out | refine below_set ?_ GE245.out) | exact HB.out)⟩
         ·rw [if_neg c260] at H
          have c260b0 : (t249 == 0) = false := beq_eq_false_iff_ne.mpr c260; have c260b1 : (t249 != 0) = true := bne_iff_ne.mpr c260; obtain rfl := Option.some.inj H; have hnb280 := NB242_243.out; have hnc280 := NB243_242.out; have hnb281 := NB242_244.out; have hnc281 := NB244_242.out; have hnb282 := NB242_245.out; have hnc282 := NB245_242.out; obtain ⟨hcz283_0, hcz283_1, hfz283_0, hfz283_1⟩ := zy2 BK242.out; have hnb284 := NB243_244.out; have hnc284 := NB244_243.out; have hnb285 := NB243_245.out; have hnc285 := NB245_243.out; obtain ⟨hcz286_0, hcz286_1, hfz286_0, hfz286_1⟩ := zy2 BK243.out; have hnb287 := NB245_244.out; have hnc287 := NB244_245.out; obtain ⟨hcz288_0, hcz288_1, hfz288_0, hfz288_1⟩ := zy2 BK245.out
          go_wp2_with (first | (go_at_call 68; (with_reducible refine (impl_between.calls a0_0 a0_1 a1_0 a1_1 a3_0 a3_1 false _ A231.out).mono ?_); rintro e w289 ⟨rfl, hb⟩; replace BK242 := zbl BK242.out hb; replace BK243 := zbl BK243.out hb; replace BK244 := zbl BK244.out hb; replace BK245 := zbl BK245.out hb; replace HB := zQ (below_step (by repeat (first | (with_reducible first | exact HB.out | apply below_alloc | apply pw_below_drewN | apply below_drew1 | refine below_set ?_ GE242.out | refine below_set ?_ GE243.out | refine below_set ?_ GE244.out | refine below_set ?_ GE245.out) | exact HB.out)) hb); (try clear hb); (try clear hb2); (try clear hk); (try clear hi); obtain ⟨hcz290_0, hcz290_1, hfz290_0, hfz290_1⟩ := zy2 BK244.out; obtain ⟨hcz291_0, hcz291_1, hfz291_0, hfz291_1⟩ := zy2 BK245.out; obtain ⟨hcz292_0, hcz292_1, hfz292_0, hfz292_1⟩ := zy2 BK242.out) | (go_at_call 68; (with_reducible refine (impl_between.calls a2_0 a2_1 a3_0 a3_1 a0_0 a0_1 false _ A244.out).mono ?_); rintro e w293 ⟨rfl, hb⟩; replace BK242 := zbl BK242.out hb; replace BK243 := zbl BK243.out hb; replace BK244 := zbl BK244.out hb; replace BK245 := zbl BK245.out hb; replace HB := zQ (below_step (by repeat (first | (with_reducible first | exact HB.out | apply below_alloc | apply pw_below_drewN | apply below_drew1 | refine below_set ?_ GE242.out | refine below_set ?_ GE243.out | refine below_set ?_ GE244.out | refine below_set ?_ GE245.out) | exact HB.out)) hb); (try clear hb); (try clear hb2); (try clear hk); (try clear hi)))
          go_ret
          exact ⟨zE, by repeat (first | (with_reducible first | exact HB.out | apply below_alloc | apply pw_below_drewN | apply below_drew1 | refine below_set ?_ GE242.out | refine below_set ?_ GE243.out | refine below_set ?_ GE244.out | refine below_set ?_ GE245.out) | exact HB.out)⟩
       ·rw [if_neg c243] at H
        have c243b0 : (t248 == 0) = false := beq_eq_false_iff_ne.mpr c243; have c243b1 : (t248 != 0) = true := bne_iff_ne.mpr c243
        by_cases c294 : t249 = 0
        ·rw [if_pos c294] at H
         have c294b0 : (t249 == 0) = true := beq_iff_eq.mpr c294; have c294b1 : (t249 != 0) = false := bne_eq_false_iff_eq.mpr c294; clear c294; replace H := zob H; obtain ⟨t265, A295, H⟩ := H; obtain rfl := Option.some.inj H; have hnb296 := NB242_243.out; have hnc296 := NB243_242.out; have hnb297 := NB242_244.out; have hnc297 := NB244_242.out; have hnb298 := NB242_245.out; have hnc298 := NB245_242.out; obtain ⟨hcz299_0, hcz299_1, hfz299_0, hfz299_1⟩ := zy2 BK242.out; have hnb300 := NB243_244.out; have hnc300 := NB244_243.out; have hnb301 := NB243_245.out; have hnc301 := NB245_243.out; obtain ⟨hcz302_0, hcz302_1, hfz302_0, hfz302_1⟩ := zy2 BK243.out; have hnb303 := NB245_244.out; have hnc303 := NB244_245.out; obtain ⟨hcz304_0, hcz304_1, hfz304_0, hfz304_1⟩ := zy2 BK245.out
         go_wp2_with (first | (go_at_call 68; (with_reducible refine (impl_between.calls a0_0 a0_1 a1_0 a1_1 a3_0 a3_1 false _ A231.out).mono ?_); rintro e w305 ⟨rfl, hb⟩; replace BK242 := zbl BK242.out hb; replace BK243 := zbl BK243.out hb; replace BK244 := zbl BK244.out hb; replace BK245 := zbl BK245.out hb; replace HB := zQ (below_step (by repeat (first | (with_reducible first | exact HB.out | apply below_alloc | apply pw_below_drewN | apply below_drew1 | refine below_set ?_ GE242.out | refine below_set ?_ GE243.out | refine below_set ?_ GE244.out | refine below_set ?_ GE245.out) | exact HB.out)) hb); (try clear hb); (try clear hb2); (try clear hk); (try clear hi); obtain ⟨hcz306_0, hcz306_1, hfz306_0, hfz306_1⟩ := zy2 BK244.out; obtain ⟨hcz307_0, hcz307_1, hfz307_0, hfz307_1⟩ := zy2 BK245.out; obtain ⟨hcz308_0, hcz308_1, hfz308_0, hfz308_1⟩ := zy2 BK243.out) | (go_at_call 68; (with_reducible refine (impl_between.calls a2_0 a2_1 a3_0 a3_1 a1_0 a1_1 t265 _ A295.out).mono ?_); rintro e w309 ⟨rfl, hb⟩; replace BK242 := zbl BK242.out hb; replace BK243 := zbl BK243.out hb; replace BK244 := zbl BK244.out hb; replace BK245 := zbl BK245.out hb; replace HB := zQ (below_step (by repeat (first | (with_reducible first | exact HB.out | apply below_alloc | apply pw_below_drewN | apply below_drew1 | refine below_set ?_ GE242.out | refine below_set ?_ GE243.out | refine below_set ?_ GE244.out | refine below_set ?_ GE245.out) | exact HB.out)) hb); (try clear hb); (try clear hb2); (try clear hk); (try clear hi)))
         go_ret
         exact ⟨zE, by repeat (first | (with_reducible first | exact HB.out | apply below_alloc | apply pw_below_drewN | apply below_drew1 | refine below_set ?_ GE242.out | refine below_set ?_ GE243.out | refine below_set ?_ GE244.out | refine below_set ?_ GE245.out) | exact HB.out)⟩
        ·rw [if_neg c294] at H
         have c294b0 : (t249 == 0) = false := beq_eq_false_iff_ne.mpr c294; have c294b1 : (t249 != 0) = true := bne_iff_ne.mpr c294; obtain rfl := Option.some.inj H; have hnb310 := NB242_243.out; have hnc310 := NB243_242.out; have hnb311 := NB242_244.out; have hnc311 := NB244_242.out; have hnb312 := NB242_245.out; have hnc312 := NB245_242.out; obtain ⟨hcz313_0, hcz313_1, hfz313_0, hfz313_1⟩ := zy2 BK242.out; have hnb314 := NB243_244.out; have hnc314 := NB244_243.out; have hnb315 := NB243_245.out; have hnc315 := NB245_243.out; obtain ⟨hcz316_0, hcz316_1, hfz316_0, hfz316_1⟩ := zy2 BK243.out; have hnb317 := NB245_244.out; have hnc317 := NB244_245.out; obtain ⟨hcz318_0, hcz318_1, hfz318_0, hfz318_1⟩ := zy2 BK245.out
         go_wp2_with (first | (go_at_call 68; (with_reducible refine (impl_between.calls a0_0 a0_1 a1_0 a1_1 a3_0 a3_1 false _ A231.out).mono ?_); rintro e w319 ⟨rfl, hb⟩; replace BK242 := zbl BK242.out hb; replace BK243 := zbl BK243.out hb; replace BK244 := zbl BK244.out hb; replace BK245 := zbl BK245.out hb; replace HB := zQ (below_step (by repeat (first | (with_reducible first | exact HB.out | apply below_alloc | apply pw_below_drewN | apply below_drew1 | refine below_set ?_ GE242.out | refine below_set ?_ GE243.out | refine below_set ?_ GE244.out | refine below_set ?_ GE245.out) | exact HB.out)) hb); (try clear hb); (try clear hb2); (try clear hk); (try clear hi)))
         go_ret
         exact ⟨zE, by repeat (first | (with_reducible first | exact HB.out | apply below_alloc | apply pw_below_drewN | apply below_drew1 | refine below_set ?_ GE242.out | refine below_set ?_ GE243.out | refine below_set ?_ GE244.out | refine below_set ?_ GE245.out) | exact HB.out)⟩
     ·rw [if_neg c230] at H
      have c230b0 : (t247 == 0) = false := beq_eq_false_iff_ne.mpr c230; have c230b1 : (t247 != 0) = true := bne_iff_ne.mpr c230
      by_cases c320 : t248 = 0
      ·rw [if_pos c320] at H
       have c320b0 : (t248 == 0) = true := beq_iff_eq.mpr c320; have c320b1 : (t248 != 0) = false := bne_eq_false_iff_eq.mpr c320; clear c320; replace H := zob H; obtain ⟨t266, A321, H⟩ := H
       by_cases c322 : t266 = true
       ·subst c322
        rw [if_pos rfl] at H; obtain rfl := Option.some.inj H; have hnb323 := NB244_242.out; have hnc323 := NB242_244.out; have hnb324 := NB244_243.out; have hnc324 := NB243_244.out; have hnb325 := NB244_245.out; have hnc325 := NB245_244.out; obtain ⟨hcz326_0, hcz326_1, hfz326_0, hfz326_1⟩ := zy2 BK244.out; have hnb327 := NB245_242.out; have hnc327 := NB242_245.out; have hnb328 := NB245_243.out; have hnc328 := NB243_245.out; obtain ⟨hcz329_0, hcz329_1, hfz329_0, hfz329_1⟩ := zy2 BK245.out; have hnb330 := NB242_243.out; have hnc330 := NB243_242.out; obtain ⟨hcz331_0, hcz331_1, hfz331_0, hfz331_1⟩ := zy2 BK242.out
        go_wp2_with (first | (go_at_call 68; (with_reducible refine (impl_between.calls a2_0 a2_1 a3_0 a3_1 a0_0 a0_1 true _ A321.out).mono ?_); rintro e w332 ⟨rfl, hb⟩; replace BK242 := zbl BK242.out hb; replace BK243 := zbl BK243.out hb; replace BK244 := zbl BK244.out hb; replace BK245 := zbl BK245.out hb; replace HB := zQ (below_step (by repeat (first | (with_reducible first | exact HB.out | apply below_alloc | apply pw_below_drewN | apply below_drew1 | refine below_set ?_ GE242.out | refine below_set ?_ GE243.out | refine below_set ?_ GE244.out | refine below_set ?_ GE245.out) | exact HB.out)) hb); (try clear hb); (try clear hb2); (try clear hk); (try clear hi)))
        go_ret
        exact ⟨zE, by repeat (first | (with_reducible first | exact HB.out | apply below_alloc | apply pw_below_drewN | apply below_drew1 | refine below_set ?_ GE242.out | refine below_set ?_ GE243.out | refine below_set ?_ GE244.out | refine below_set ?_ GE245.out) | exact HB.out)⟩
       ·replace c322 := Bool.eq_false_iff.mpr c322
        subst c322
        rw [if_neg Bool.false_ne_true] at H
        by_cases c333 : t249 = 0
        ·rw [if_pos c333] at H
         have c333b0 : (t249 == 0) = true := beq_iff_eq.mpr c333; have c333b1 : (t249 != 0) = false := bne_eq_false_iff_eq.mpr c333; clear c333; replace H := zob H; obtain ⟨t267, A334, H⟩ := H; obtain rfl := Option.some.inj H; have hnb335 := NB244_242.out; have hnc335 := NB242_244.out; have hnb336 := NB244_243.out; have hnc336 := NB243_244.out; have hnb337 := NB244_245.out; have hnc337 := NB245_244.out; obtain ⟨hcz338_0, hcz338_1, hfz338_0, hfz338_1⟩ := zy2 BK244.out; have hnb339 := NB245_242.out; have hnc339 := NB242_245.out; have hnb340 := NB245_243.out; have hnc340 := NB243_245.out; obtain ⟨hcz341_0, hcz341_1, hfz341_0, hfz341_1⟩ := zy2 BK245.out; have hnb342 := NB242_243.out; have hnc342 := NB243_242.out; obtain ⟨hcz343_0, hcz343_1, hfz343_0, hfz343_1⟩ := zy2 BK242.out
         go_wp2_with (first | (go_at_call 68; (with_reducible refine (impl_between.calls a2_0 a2_1 a3_0 a3_1 a0_0 a0_1 false _ A321.out).mono ?_); rintro e w344 ⟨rfl, hb⟩; replace BK242 := zbl BK242.out hb; replace BK243 := zbl BK243.out hb; replace BK244 := zbl BK244.out hb; replace BK245 := zbl BK245.out hb; replace HB := zQ (below_step (by repeat (first | (with_reducible first | exact HB.out | apply below_alloc | apply pw_below_drewN | apply below_drew1 | refine below_set ?_ GE242.out | refine below_set ?_ GE243.out | refine below_set ?_ GE244.out | refine below_set ?_ GE245.out) | exact HB.out)) hb); (try clear hb); (try clear hb2); (try clear hk); (try clear hi); obtain ⟨hcz345_0, hcz345_1, hfz345_0, hfz345_1⟩ := zy2 BK244.out; obtain ⟨hcz346_0, hcz346_1, hfz346_0, hfz346_1⟩ := zy2 BK245.out; obtain ⟨hcz347_0, hcz347_1, hfz347_0, hfz347_1⟩ := zy2 BK243.out) | (go_at_call 68; (with_reducible refine (impl_between.calls a2_0 a2_1 a3_0 a3_1 a1_0 a1_1 t267 _ A334.out).mono ?_); rintro e w348 ⟨rfl, hb⟩; replace BK242 := zbl BK242.out hb; replace BK243 := zbl BK243.out hb; replace BK244 := zbl BK244.out hb; replace BK245 := zbl BK245.out hb; replace HB := zQ (below_step (by repeat (first | (with_reducible first | exact HB.out | apply below_alloc | apply pw_below_drewN | apply below_drew1 | refine below_set ?_ GE242.out | refine below_set ?_ GE243.out | refine below_set ?_ GE244.out | refine below_set ?_ GE245.out) | exact HB.out)) hb); (try clear hb); (try clear hb2); (try clear hk); (try clear hi)))
         go_ret
         exact ⟨zE, by repeat (first | (with_reducible first | exact HB.out | apply below_alloc | apply pw_below_drewN | apply below_drew1 | refine below_set ?_ GE242.out | refine below_set ?_ GE243.out | refine below_set ?_ GE244.out | refine below_set ?_ GE245.out) | exact HB.out)⟩
        ·rw [if_neg c333] at H
         have c333b0 : (t249 == 0) = false := beq_eq_false_iff_ne.mpr c333; have c333b1 : (t249 != 0) = true := bne_iff_ne.mpr c333; obtain rfl := Option.some.inj H; have hnb349 := NB244_242.out; have hnc349 := NB242_244.out; have hnb350 := NB244_243.out; have hnc350 := NB243_244.out; have hnb351 := NB244_245.out; have hnc351 := NB245_244.out; obtain ⟨hcz352_0, hcz352_1, hfz352_0, hfz352_1⟩ := zy2 BK244.out; have hnb353 := NB245_242.out; have hnc353 := NB242_245.out; have hnb354 := NB245_243.out; have hnc354 := NB243_245.out; obtain ⟨hcz355_0, hcz355_1, hfz355_0, hfz355_1⟩ := zy2 BK245.out; have hnb356 := NB242_243.out; have hnc356 := NB243_242.out; obtain ⟨hcz357_0, hcz357_1, hfz357_0, hfz357_1⟩ := zy2 BK242.out
         go_wp2_with (first | (go_at_call 68; (with_reducible refine (impl_between.calls a2_0 a2_1 a3_0 a3_1 a0_0 a0_1 false _ A321.out).mono ?_); rintro e w358 ⟨rfl, hb⟩; replace BK242 := zbl BK242.out hb; replace BK243 := zbl BK243.out hb; replace BK244 := zbl BK244.out hb; replace BK245 := zbl BK245.out hb; replace HB := zQ (below_step (by repeat (first | (with_reducible first | exact HB.out | apply below_alloc | apply pw_below_drewN | apply below_drew1 | refine below_set ?_ GE242.out | refine below_set ?_ GE243.out | refine below_set ?_ GE244.out | refine below_set ?_ GE245.out) | exact HB.out)) hb); (try clear hb); (try clear hb2); (try clear hk); (try clear hi)))
         go_ret
         exact ⟨zE, by repeat (first | (with_reducible first | exact HB.out | apply below_alloc | apply pw_below_drewN | apply below_drew1 | refine below_set ?_ GE242.out | refine below_set ?_ GE243.out | refine below_set ?_ GE244.out | refine below_set ?_ GE245.out) | exact HB.out)⟩
      ·rw [if_neg c320] at H
       have c320b0 : (t248 == 0) = false := beq_eq_false_iff_ne.mpr c320; have c320b1 : (t248 != 0) = true := bne_iff_ne.mpr c320
       by_cases c359 : t249 = 0
       ·rw [if_pos c359] at H
        have c359b0 : (t249 == 0) = true := beq_iff_eq.mpr c359; have c359b1 : (t249 != 0) = false := bne_eq_false_iff_eq.mpr c359; clear c359; replace H := zob H; obtain ⟨t268, A360, H⟩ := H; obtain rfl := Option.some.inj H; have hnb361 := NB244_242.out; have hnc361 := NB242_244.out; have hnb362 := NB244_243.out; have hnc362 := NB243_244.out; have hnb363 := NB244_245.out; have hnc363 := NB245_244.out; obtain ⟨hcz364_0, hcz364_1, hfz364_0, hfz364_1⟩ := zy2 BK244.out; have hnb365 := NB245_242.out; have hnc365 := NB242_245.out; have hnb366 := NB245_243.out; have hnc366 := NB243_245.out; obtain ⟨hcz367_0, hcz367_1, hfz367_0, hfz367_1⟩ := zy2 BK245.out; have hnb368 := NB243_242.out; have hnc368 := NB242_243.out; obtain ⟨hcz369_0, hcz369_1, hfz369_0, hfz369_1⟩ := zy2 BK243.out
        go_wp2_with (first | (go_at_call 68; (with_reducible refine (impl_between.calls a2_0 a2_1 a3_0 a3_1 a1_0 a1_1 t268 _ A360.out).mono ?_); rintro e w370 ⟨rfl, hb⟩; replace BK242 := zbl BK242.out hb; replace BK243 := zbl BK243.out hb; replace BK244 := zbl BK244.out hb; replace BK245 := zbl BK245.out hb; replace HB := zQ (below_step (by repeat (first | (with_reducible first | exact HB.out | apply below_alloc | apply pw_below_drewN | apply below_drew1 | refine below_set ?_ GE242.out | refine below_set ?_ GE243.out | refine below_set ?_ GE244.out | refine below_set ?_ GE245.out) | exact HB.out)) hb); (try clear hb); (try clear hb2); (try clear hk); (try clear hi)))
        go_ret
        exact ⟨zE, by repeat (first | (with_reducible first | exact HB.out | apply below_alloc | apply pw_below_drewN | apply below_drew1 | refine below_set ?_ GE242.out | refine below_set ?_ GE243.out | refine below_set ?_ GE244.out | refine below_set ?_ GE245.out) | exact HB.out)⟩
       ·rw [if_neg c359] at H
        have c359b0 : (t249 == 0) = false := beq_eq_false_iff_ne.mpr c359; have c359b1 : (t249 != 0) = true := bne_iff_ne.mpr c359; obtain rfl := Option.some.inj H
        go_wp2
        go_ret
        exact ⟨zE, by repeat (first | (with_reducible first | exact HB.out | apply below_alloc | apply pw_below_drewN | apply below_drew1 | refine below_set ?_ GE242.out | refine below_set ?_ GE243.out | refine below_set ?_ GE244.out | refine below_set ?_ GE245.out) | exact HB.out)⟩

end
end Go.Proofs.YtchngbjpjbahiaaGreatDoor.PSailz

