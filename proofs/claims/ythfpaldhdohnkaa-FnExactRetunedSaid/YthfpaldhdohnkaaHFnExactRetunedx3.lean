/- The walks of the functions that the law reaches: each computes what its Lean function says. No condition beyond each contract's own. -/
import Derived.Test.YthfpaldhdohnkaaHFnExactRetunedx0
import Derived.Test.YthfpaldhdohnkaaHFnExactRetunedx1
import Derived.Test.YthfpaldhdohnkaaHFnExactRetunedx2
namespace Go.Proofs.Ythfpaldhdohnkaa.PFnExactRetuned
open Go.RowKit Go.Proofs.YthfpaldhdohnkaaW.PrintWords Go.Proofs.YthfpaldhdohnkaaW.PrintLast Go.Proofs.YthfpaldhdohnkaaW.PrintMore
attribute [local go_sem] max2_int min2_int max_two min_two max_three min_three max_four min_four   -- for this text's walks alone
set_option linter.unusedVariables false
set_option linter.unusedSimpArgs false

/-! ### impl_Retuned: function 20 -/
def impl_Retuned.l0 : Nat → List (List Int) → Int → Int → List Int → List (List Int) → Option (List Int × (List (List Int)) × Int)
 | 0, _, _, _, _, _ => none
 | k + 1, x32, x33, x34, x133000, x133001 => if x34 < x33 then (if 0 ≤ x34 then (if x34 < (x32.length : Int) then ((some (([] : List Int) : List Int)).bind fun y136 => (if y136.length + (rd_L1 x32 x34).length < 17592186044416 then (if x133001.length < 5864062014805 then (impl_Retuned.l0 k x32 x33 (wrap64 (x34 + 1)) x133000 (x133001 ++ [(y136 ++ (rd_L1 x32 x34))])) else (none)) else (none))) else (none)) else (none)) else (some (x133000, x133001, 0))
def impl_Retuned.f (k : Nat) (l0_0 : List Int) (l0_1 : List (List Int)) (l1 : List Int) : Option (List Int × (List (List Int)) × Int) := (impl_turnsCode.f k l0_0 l0_1 l1).bind fun t128 => (if t128 = 0 then ((impl_tensionsAfter.f k l0_0 l0_1 l1).bind fun t129 => ((slices_Min_int64_int64.f k t129).bind fun t133 => (if t133 < 0 then (some (([] : List Int), ([] : List (List Int)), 10)) else ((slices_Max_int64_int64.f k t129).bind fun t134 => (if t134 > 1000000 then (some (([] : List Int), ([] : List (List Int)), 5)) else (impl_Retuned.l0 k l0_1 (l0_1.length : Int) 0 t129 ([] : List (List Int)))))))) else (some (([] : List Int), ([] : List (List Int)), t128)))
theorem impl_Retuned.mono_l : ∀ k, (∀ y0 y1 y2 y3 y4, LeO (impl_Retuned.l0 k y0 y1 y2 y3 y4) (impl_Retuned.l0 (k + 1) y0 y1 y2 y3 y4))
 | 0 => fun _ _ _ _ _ r h => by simp [impl_Retuned.l0] at h
 | k + 1 => by
  have ih0 := impl_Retuned.mono_l k
  ·intro y0 y1 y2 y3 y4
   unfold impl_Retuned.l0
   (with_reducible repeat' first | apply ih0 | apply impl_tensionsAfter.mono | apply impl_turnsCode.mono | apply slices_Max_int64_int64.mono | apply slices_Min_int64_int64.mono | apply LeO.refl | apply LeO.none | refine LeO.ite ?_ ?_ | refine LeO.bind ?_ (fun _ => ?_))
   repeat' first | apply ih0 | apply impl_tensionsAfter.mono | apply impl_turnsCode.mono | apply slices_Max_int64_int64.mono | apply slices_Min_int64_int64.mono | apply LeO.none | refine LeO.ite ?_ ?_ | refine LeO.bind ?_ (fun _ => ?_)
theorem impl_Retuned.mono : ∀ a0 a1 a2 k, LeO (impl_Retuned.f k a0 a1 a2) (impl_Retuned.f (k + 1) a0 a1 a2) := by
 intro a0 a1 a2 k
 have ih0 := impl_Retuned.mono_l k
 unfold impl_Retuned.f
 (with_reducible repeat' first | apply ih0 | apply impl_tensionsAfter.mono | apply impl_turnsCode.mono | apply slices_Max_int64_int64.mono | apply slices_Min_int64_int64.mono | apply LeO.refl | apply LeO.none | refine LeO.ite ?_ ?_ | refine LeO.bind ?_ (fun _ => ?_))
 repeat' first | apply ih0 | apply impl_tensionsAfter.mono | apply impl_turnsCode.mono | apply slices_Max_int64_int64.mono | apply slices_Min_int64_int64.mono | apply LeO.none | refine LeO.ite ?_ ?_ | refine LeO.bind ?_ (fun _ => ?_)
def impl_Retuned.T12 : Bool × List (List Nat × List Nat) := (true, [([], []), ([0], [0]), ([], []), ([], []), ([2, 3], [2, 3]), ([4], [4]), ([1, 5, 4], [1, 5]), ([0, 1, 2, 3, 4, 5, 6], []), ([7, 6, 6, 0, 1, 2, 3, 4, 5, 6], [6, 7])])
def impl_Retuned.B12 : List Nat := [0, 1, 0, 0, 12, 28, 63, 127, 255]
theorem impl_Retuned.tab12 : rtab .any (opsOf Try.f20 12) = impl_Retuned.T12 := by kernel_rfl
theorem impl_Retuned.bits12 : waitsOk impl_Retuned.T12.2 impl_Retuned.B12 = true := by kernel_rfl
set_option maxHeartbeats 8000000 in
set_option maxRecDepth 100000 in
theorem impl_Retuned.calls (k : Nat) (A0_0 : Option Addr) (c0_0 : Nat) (l0_0 : List Int) (A0_1 : Option Addr) (c0_1 : Nat) (l0_1 : List (List Int)) (A1 : Option Addr) (c1 : Nat) (l1 : List Int) (r1 : List Int) (r2 : List (List Int)) (r3 : Int) (w : World) (hr0_0 : Kd.C (Kd.int .i64) w A0_0 l0_0.length l0_0) (hc0_0 : l0_0.length ≤ c0_0) (hr0_1 : Kd.C (Kd.slice 2 (Kd.int .i64)) w A0_1 l0_1.length l0_1) (hc0_1 : l0_1.length ≤ c0_1) (hr1 : Kd.C (Kd.int .i64) w A1 l1.length l1) (hc1 : l1.length ≤ c1) (h : impl_Retuned.f k l0_0 l0_1 l1 = some (r1, r2, r3)) :
  Calls Try.prog 20 #[.agg #[.slice A0_0 l0_0.length c0_0, .slice A0_1 l0_1.length c0_1], .slice A1 l1.length c1] w fun e w' => ∃ v0_ v1_ : Value, e = .returned (.tuple #[.agg #[v0_, v1_], .int .i64 r3]) ∧ Kd.R (Kd.int .i64) 2 w' w.heap.size (fun _ => True) v0_ r1 ∧ Kd.S (Kd.slice 2 (Kd.int .i64)) 24 w' w.heap.size (fun k_ => some k_ ≠ (v0_ : Value).ownBlock) v1_ r2 ∧ Below w.heap.size w w' := by
 have hu27 := Try.underlying27
 have HR0_0 := zQ hr0_0
 have HC0_0 := zQ hc0_0
 clear hr0_0 hc0_0
 have HR0_1 := zQ hr0_1
 have HC0_1 := zQ hc0_1
 clear hr0_1 hc0_1
 have HR1 := zQ hr1
 have HC1 := zQ hc1
 clear hr1 hc1
 have HB := zQ (Below.refl w.heap.size w)
 have H : ((impl_turnsCode.f k l0_0 l0_1 l1).bind fun t128 => (if t128 = 0 then ((impl_tensionsAfter.f k l0_0 l0_1 l1).bind fun t129 => ((slices_Min_int64_int64.f k t129).bind fun t133 => (if t133 < 0 then (some (([] : List Int), ([] : List (List Int)), 10)) else ((slices_Max_int64_int64.f k t129).bind fun t134 => (if t134 > 1000000 then (some (([] : List Int), ([] : List (List Int)), 5)) else (impl_Retuned.l0 k l0_1 (l0_1.length : Int) 0 t129 ([] : List (List Int)))))))) else (some (([] : List Int), ([] : List (List Int)), t128)))) = some (r1, r2, r3) := h
 clear h
 replace H := Option.bind_eq_some_iff.mp H
 obtain ⟨t128, A30, H⟩ := H
 replace H : (if t128 = 0 then ((impl_tensionsAfter.f k l0_0 l0_1 l1).bind fun t129 => ((slices_Min_int64_int64.f k t129).bind fun t133 => (if t133 < 0 then (some (([] : List Int), ([] : List (List Int)), 10)) else ((slices_Max_int64_int64.f k t129).bind fun t134 => (if t134 > 1000000 then (some (([] : List Int), ([] : List (List Int)), 5)) else (impl_Retuned.l0 k l0_1 (l0_1.length : Int) 0 t129 ([] : List (List Int)))))))) else (some (([] : List Int), ([] : List (List Int)), t128))) = some (r1, r2, r3) := H
 have A3 := zQ A30
 clear A30
 by_cases c4 : t128 = 0
 ·rw [if_pos c4] at H
  have c4b0 : (t128 == 0) = true := beq_iff_eq.mpr c4; have c4b1 : (t128 != 0) = false := bne_eq_false_iff_eq.mpr c4; clear c4; replace H := Option.bind_eq_some_iff.mp H; obtain ⟨t129, A50, H⟩ := H; replace H : ((slices_Min_int64_int64.f k t129).bind fun t133 => (if t133 < 0 then (some (([] : List Int), ([] : List (List Int)), 10)) else ((slices_Max_int64_int64.f k t129).bind fun t134 => (if t134 > 1000000 then (some (([] : List Int), ([] : List (List Int)), 5)) else (impl_Retuned.l0 k l0_1 (l0_1.length : Int) 0 t129 ([] : List (List Int))))))) = some (r1, r2, r3) := H; have A5 := zQ A50; clear A50; replace H := Option.bind_eq_some_iff.mp H; obtain ⟨t133, A60, H⟩ := H; replace H : (if t133 < 0 then (some (([] : List Int), ([] : List (List Int)), 10)) else ((slices_Max_int64_int64.f k t129).bind fun t134 => (if t134 > 1000000 then (some (([] : List Int), ([] : List (List Int)), 5)) else (impl_Retuned.l0 k l0_1 (l0_1.length : Int) 0 t129 ([] : List (List Int)))))) = some (r1, r2, r3) := H; have A6 := zQ A60; clear A60
  by_cases c7 : t133 < 0
  ·rw [if_pos c7] at H
   have c7b0 : decide (t133 < 0) = true := decide_eq_true c7; clear c7
   simp only [Option.some.injEq, Prod.mk.injEq] at H
   obtain ⟨rfl, rfl, rfl⟩ := H
   go_enter Try.func20, Try.ntmps20
   go_wp2_with (first | ((with_reducible refine zd 2 ?_); refine zbx (N := 2) (cs := #[.slice A0_0 l0_0.length c0_0, .slice A0_1 l0_1.length c0_1]) (t := 27) ?_; intro gb126 hg w8 hbox hb; have BK126 := zQ (hbox); have GW126 := zgz hg HB.out; have GE126 := GW126; replace HB := zbs HB.out hb; clear hb hbox hg) | ((with_reducible refine zd 4 ?_); refine zbx (N := 4) (cs := #[.slice none 0 0, .slice none 0 0]) (t := 27) ?_; intro gb127 hg w9 hbox hb; have BK127 := zQ (hbox); have GW127 := zgz2 hg HB.out GE126.out; have GE127 := GW127; have NB126_127 := zQ ((by rw [hg]; exact Nat.ne_of_lt (blk_lt (g := gb126) (o := .cells #[.slice A0_0 l0_0.length c0_0, .slice A0_1 l0_1.length c0_1] 27 (0, 0)) (zb BK126.out)) : gb126 ≠ gb127)); have NB127_126 := zQ ((by rw [hg]; exact Nat.ne_of_gt (blk_lt (g := gb126) (o := .cells #[.slice A0_0 l0_0.length c0_0, .slice A0_1 l0_1.length c0_1] 27 (0, 0)) (zb BK126.out)) : gb127 ≠ gb126)); replace BK126 := zbl BK126.out hb; replace HB := zbs2 HB.out GE126.out hb; clear hb hbox hg; have hnb10 := NB126_127.out; have hnc10 := NB127_126.out; have hcz11_0 := zc0 BK126.out; have hcz11_1 := zc1 BK126.out; have hfz11_0 := zfz BK126.out 0; have hfz11_1 := zfz BK126.out 1) | ((with_reducible refine zgc 49 ?_); refine goesL_ (some 12) rfl rfl Try.func49 (by kernel_rfl) rfl #[.agg #[.slice A0_0 l0_0.length c0_0, .slice A0_1 l0_1.length c0_1], .slice A1 l1.length c1] rfl zM ?_; (with_reducible refine (impl_turnsCode.calls k _ _ l0_0 _ _ l0_1 _ _ l1 t128 _ (zC HR0_0.out HB.out) HC0_0.out (zC HR0_1.out HB.out) HC0_1.out (zC HR1.out HB.out) HC1.out A3.out).mono ?_); rintro e w12 ⟨rfl, hb⟩; refine ⟨_, rfl, ?_⟩; replace BK126 := zbl BK126.out hb; replace BK127 := zbl BK127.out hb; replace HB := zQ (below_step (zB3 HB.out GE126.out GE127.out) hb); (try clear hb); have hcz13_0 := zc0 BK126.out; have hcz13_1 := zc1 BK126.out; have hfz13_0 := zfz BK126.out 0; have hfz13_1 := zfz BK126.out 1) | ((with_reducible refine zgc 50 ?_); refine goesL_ (some 19) rfl rfl Try.func50 (by kernel_rfl) rfl #[.agg #[.slice A0_0 l0_0.length c0_0, .slice A0_1 l0_1.length c0_1], .slice A1 l1.length c1] rfl zM ?_; (with_reducible refine (impl_tensionsAfter.calls k _ _ l0_0 _ _ l0_1 _ _ l1 t129 _ (zC HR0_0.out HB.out) HC0_0.out (zC HR0_1.out HB.out) HC0_1.out (zC HR1.out HB.out) HC1.out A5.out).mono ?_); rintro e w14 ⟨v130, rfl, ho0, hb⟩; refine ⟨_, rfl, ?_⟩; have HO131 := zQ (Kd.R_lower ho0 (below_size (zB3 HB.out GE126.out GE127.out))); replace BK126 := zbl BK126.out hb; replace BK127 := zbl BK127.out hb; replace HB := zQ (below_step (zB3 HB.out GE126.out GE127.out) hb); (try clear hb); (try clear ho0); obtain ⟨Ao15, co15, eo15⟩ := Kd.R_slice HO131.out; subst eo15) | ((with_reducible refine zd 7 ?_); refine zbx (N := 7) (cs := #[.slice none 0 0, .slice none 0 0]) (t := 27) ?_; intro gb132 hg w16 hbox hb; have BK132 := zQ (hbox); have GW132 := zQ ((by rw [hg]; exact (below_size (zB3 HB.out GE126.out GE127.out)) : w.heap.size ≤ gb132)); have GE132 := zQ ((by rw [hg]; exact (below_size (zB3 HB.out GE126.out GE127.out)) : w.heap.size ≤ gb132)); have NB126_132 := zQ ((by rw [hg]; exact Nat.ne_of_lt (blk_lt (g := gb126) (o := .cells #[.slice A0_0 l0_0.length c0_0, .slice A0_1 l0_1.length c0_1] 27 (0, 0)) (zb BK126.out)) : gb126 ≠ gb132)); have NB132_126 := zQ ((by rw [hg]; exact Nat.ne_of_gt (blk_lt (g := gb126) (o := .cells #[.slice A0_0 l0_0.length c0_0, .slice A0_1 l0_1.length c0_1] 27 (0, 0)) (zb BK126.out)) : gb132 ≠ gb126)); have NB127_132 := zQ ((by rw [hg]; exact Nat.ne_of_lt (blk_lt (g := gb127) (o := .cells #[.slice none 0 0, .slice none 0 0] 27 (0, 0)) (zb BK127.out)) : gb127 ≠ gb132)); have NB132_127 := zQ ((by rw [hg]; exact Nat.ne_of_gt (blk_lt (g := gb127) (o := .cells #[.slice none 0 0, .slice none 0 0] 27 (0, 0)) (zb BK127.out)) : gb132 ≠ gb127)); replace HO131 := zQ (Kd.R_below (zR HO131.out) hb); replace BK126 := zbl BK126.out hb; replace BK127 := zbl BK127.out hb; replace HB := zQ (below_step (zB3 HB.out GE126.out GE127.out) hb); clear hb hbox hg; have hnb17 := NB132_126.out; have hnc17 := NB126_132.out; have hnb18 := NB132_127.out; have hnc18 := NB127_132.out; have hcz19_0 := zc0 BK132.out; have hcz19_1 := zc1 BK132.out; have hfz19_0 := zfz BK132.out 0; have hfz19_1 := zfz BK132.out 1) | ((with_reducible refine zgc 52 ?_); refine zgo (some 23) Try.func52 #[.slice Ao15 t129.length co15] ?_; (with_reducible refine (slices_Min_int64_int64.calls k _ _ t129 t133 _ ?side1 ((Kd.R_reads' HO131.out).2.1) A6.out).mono ?_); (case side1 => refine (Kd.R_reads' (e := 2) (base := w.heap.size) (ok := fun k_ => True) (n := t129.length) (c := co15) ?_).2.2; exact (by (with_reducible repeat (first | apply Kd.R_alloc | apply Kd.R_drewN | apply Kd.R_drew)); exact (Kd.R_mono (Kd.R_far (p := ⟨gb132, 1, none⟩) (Kd.R_far (p := ⟨gb132, 0, none⟩) (Kd.R_types HO131.out BK132.out (by decide)) (fun _ hk => hk.2) (.slice Ao15 t129.length co15)) (fun _ hk => hk.2) (.slice none 0 0)) (fun _ h_ => h_.1)))); rintro e w20 ⟨rfl, hb⟩; refine ⟨_, rfl, ?_⟩; replace HO131 := zQ (Kd.R_below (by (with_reducible repeat (first | apply Kd.R_alloc | apply Kd.R_drewN | apply Kd.R_drew)); exact (Kd.R_mono (Kd.R_far (p := ⟨gb132, 1, none⟩) (Kd.R_far (p := ⟨gb132, 0, none⟩) (Kd.R_types HO131.out BK132.out (by decide)) (fun _ hk => hk.2) (.slice Ao15 t129.length co15)) (fun _ hk => hk.2) (.slice none 0 0)) (fun _ h_ => h_.1))) hb); replace BK126 := zQ (blk_below (g := gb126) (o := .cells #[.slice A0_0 l0_0.length c0_0, .slice A0_1 l0_1.length c0_1] 27 (0, 0)) (by refine zb ?_; refine blk_far ?_ NB126_132.out _; refine zb ?_; refine blk_far ?_ NB126_132.out _; refine zb ?_; exact BK126.out) hb); replace BK127 := zQ (blk_below (g := gb127) (o := .cells #[.slice none 0 0, .slice none 0 0] 27 (0, 0)) (by refine zb ?_; refine blk_far ?_ NB127_132.out _; refine zb ?_; refine blk_far ?_ NB127_132.out _; refine zb ?_; exact BK127.out) hb); replace BK132 := zQ (blk_below (g := gb132) (o := .cells #[.slice Ao15 t129.length co15, .slice none 0 0] 27 (0, 0)) (by refine zb ?_; refine blk_put (cs := #[.slice Ao15 t129.length co15, .slice none 0 0]) ?_ 1 _ rfl; refine zb ?_; refine blk_put (cs := #[.slice none 0 0, .slice none 0 0]) ?_ 0 _ rfl; refine zb ?_; exact BK132.out) hb); replace HB := zQ (below_step (by repeat (first | (with_reducible first | exact HB.out | apply below_alloc | apply pw_below_drewN | apply below_drew1 | refine below_set ?_ GE126.out | refine below_set ?_ GE127.out | refine below_set ?_ GE132.out) | exact HB.out)) hb); (try clear hb); have hcz21_0 := zc0 BK127.out; have hcz21_1 := zc1 BK127.out; have hfz21_0 := zfz BK127.out 0; have hfz21_1 := zfz BK127.out 1))
   refine bodyPost_ret (results_ct rfl _ _ gb127 27 #[.slice none 0 0, .slice none 0 0] (0, 0) _ rfl (by refine zb ?_; refine blk_put (cs := #[.slice none 0 0, .slice none 0 0]) ?_ 1 _ rfl; refine zb ?_; refine blk_put (cs := #[.slice none 0 0, .slice none 0 0]) ?_ 0 _ rfl; refine zb ?_; exact BK127.out) Try.underlying27 rfl (by kernel_rfl)) rfl ?_
   exact ⟨_, _, zE, by first | exact Kd.R_nil _ _ _ _ _ | exact Kd.N_nil _ _ _ _ _ | exact Kd.V_nil _ _ _ _ _ | exact Kd.Q_nil _ _ _ _ _ | exact Kd.S_nil _ _ _ _ _, by first | exact Kd.S_nil _ _ _ _ _ | exact Kd.N_nil _ _ _ _ _ | exact Kd.V_nil _ _ _ _ _ | exact Kd.Q_nil _ _ _ _ _ | exact Kd.R_nil _ _ _ _ _, by repeat (first | (with_reducible first | exact HB.out | apply below_alloc | apply pw_below_drewN | apply below_drew1 | refine below_set ?_ GE126.out | refine below_set ?_ GE127.out | refine below_set ?_ GE132.out) | exact HB.out)⟩
  ·rw [if_neg c7] at H
   have c7b0 : decide (t133 < 0) = false := decide_eq_false c7; clear c7; replace H := Option.bind_eq_some_iff.mp H; obtain ⟨t134, A220, H⟩ := H; replace H : (if t134 > 1000000 then (some (([] : List Int), ([] : List (List Int)), 5)) else (impl_Retuned.l0 k l0_1 (l0_1.length : Int) 0 t129 ([] : List (List Int)))) = some (r1, r2, r3) := H; have A22 := zQ A220; clear A220
   by_cases c23 : t134 > 1000000
   ·rw [if_pos c23] at H
    have c23b0 : decide (1000000 < t134) = true := decide_eq_true c23; clear c23
    simp only [Option.some.injEq, Prod.mk.injEq] at H
    obtain ⟨rfl, rfl, rfl⟩ := H
    go_enter Try.func20, Try.ntmps20
    go_wp2_with (first | ((with_reducible refine zd 2 ?_); refine zbx (N := 2) (cs := #[.slice A0_0 l0_0.length c0_0, .slice A0_1 l0_1.length c0_1]) (t := 27) ?_; intro gb126 hg w24 hbox hb; have BK126 := zQ (hbox); have GW126 := zgz hg HB.out; have GE126 := GW126; replace HB := zbs HB.out hb; clear hb hbox hg) | ((with_reducible refine zd 4 ?_); refine zbx (N := 4) (cs := #[.slice none 0 0, .slice none 0 0]) (t := 27) ?_; intro gb127 hg w25 hbox hb; have BK127 := zQ (hbox); have GW127 := zgz2 hg HB.out GE126.out; have GE127 := GW127; have NB126_127 := zQ ((by rw [hg]; exact Nat.ne_of_lt (blk_lt (g := gb126) (o := .cells #[.slice A0_0 l0_0.length c0_0, .slice A0_1 l0_1.length c0_1] 27 (0, 0)) (zb BK126.out)) : gb126 ≠ gb127)); have NB127_126 := zQ ((by rw [hg]; exact Nat.ne_of_gt (blk_lt (g := gb126) (o := .cells #[.slice A0_0 l0_0.length c0_0, .slice A0_1 l0_1.length c0_1] 27 (0, 0)) (zb BK126.out)) : gb127 ≠ gb126)); replace BK126 := zbl BK126.out hb; replace HB := zbs2 HB.out GE126.out hb; clear hb hbox hg; have hnb26 := NB126_127.out; have hnc26 := NB127_126.out; have hcz27_0 := zc0 BK126.out; have hcz27_1 := zc1 BK126.out; have hfz27_0 := zfz BK126.out 0; have hfz27_1 := zfz BK126.out 1) | ((with_reducible refine zgc 49 ?_); refine goesL_ (some 12) rfl rfl Try.func49 (by kernel_rfl) rfl #[.agg #[.slice A0_0 l0_0.length c0_0, .slice A0_1 l0_1.length c0_1], .slice A1 l1.length c1] rfl zM ?_; (with_reducible refine (impl_turnsCode.calls k _ _ l0_0 _ _ l0_1 _ _ l1 t128 _ (zC HR0_0.out HB.out) HC0_0.out (zC HR0_1.out HB.out) HC0_1.out (zC HR1.out HB.out) HC1.out A3.out).mono ?_); rintro e w28 ⟨rfl, hb⟩; refine ⟨_, rfl, ?_⟩; replace BK126 := zbl BK126.out hb; replace BK127 := zbl BK127.out hb; replace HB := zQ (below_step (zB3 HB.out GE126.out GE127.out) hb); (try clear hb); have hcz29_0 := zc0 BK126.out; have hcz29_1 := zc1 BK126.out; have hfz29_0 := zfz BK126.out 0; have hfz29_1 := zfz BK126.out 1) | ((with_reducible refine zgc 50 ?_); refine goesL_ (some 19) rfl rfl Try.func50 (by kernel_rfl) rfl #[.agg #[.slice A0_0 l0_0.length c0_0, .slice A0_1 l0_1.length c0_1], .slice A1 l1.length c1] rfl zM ?_; (with_reducible refine (impl_tensionsAfter.calls k _ _ l0_0 _ _ l0_1 _ _ l1 t129 _ (zC HR0_0.out HB.out) HC0_0.out (zC HR0_1.out HB.out) HC0_1.out (zC HR1.out HB.out) HC1.out A5.out).mono ?_); rintro e w30 ⟨v130, rfl, ho0, hb⟩; refine ⟨_, rfl, ?_⟩; have HO131 := zQ (Kd.R_lower ho0 (below_size (zB3 HB.out GE126.out GE127.out))); replace BK126 := zbl BK126.out hb; replace BK127 := zbl BK127.out hb; replace HB := zQ (below_step (zB3 HB.out GE126.out GE127.out) hb); (try clear hb); (try clear ho0); obtain ⟨Ao31, co31, eo31⟩ := Kd.R_slice HO131.out; subst eo31) | ((with_reducible refine zd 7 ?_); refine zbx (N := 7) (cs := #[.slice none 0 0, .slice none 0 0]) (t := 27) ?_; intro gb132 hg w32 hbox hb; have BK132 := zQ (hbox); have GW132 := zQ ((by rw [hg]; exact (below_size (zB3 HB.out GE126.out GE127.out)) : w.heap.size ≤ gb132)); have GE132 := zQ ((by rw [hg]; exact (below_size (zB3 HB.out GE126.out GE127.out)) : w.heap.size ≤ gb132)); have NB126_132 := zQ ((by rw [hg]; exact Nat.ne_of_lt (blk_lt (g := gb126) (o := .cells #[.slice A0_0 l0_0.length c0_0, .slice A0_1 l0_1.length c0_1] 27 (0, 0)) (zb BK126.out)) : gb126 ≠ gb132)); have NB132_126 := zQ ((by rw [hg]; exact Nat.ne_of_gt (blk_lt (g := gb126) (o := .cells #[.slice A0_0 l0_0.length c0_0, .slice A0_1 l0_1.length c0_1] 27 (0, 0)) (zb BK126.out)) : gb132 ≠ gb126)); have NB127_132 := zQ ((by rw [hg]; exact Nat.ne_of_lt (blk_lt (g := gb127) (o := .cells #[.slice none 0 0, .slice none 0 0] 27 (0, 0)) (zb BK127.out)) : gb127 ≠ gb132)); have NB132_127 := zQ ((by rw [hg]; exact Nat.ne_of_gt (blk_lt (g := gb127) (o := .cells #[.slice none 0 0, .slice none 0 0] 27 (0, 0)) (zb BK127.out)) : gb132 ≠ gb127)); replace HO131 := zQ (Kd.R_below (zR HO131.out) hb); replace BK126 := zbl BK126.out hb; replace BK127 := zbl BK127.out hb; replace HB := zQ (below_step (zB3 HB.out GE126.out GE127.out) hb); clear hb hbox hg; have hnb33 := NB132_126.out; have hnc33 := NB126_132.out; have hnb34 := NB132_127.out; have hnc34 := NB127_132.out; have hcz35_0 := zc0 BK132.out; have hcz35_1 := zc1 BK132.out; have hfz35_0 := zfz BK132.out 0; have hfz35_1 := zfz BK132.out 1) | ((with_reducible refine zgc 52 ?_); refine zgo (some 23) Try.func52 #[.slice Ao31 t129.length co31] ?_; (with_reducible refine (slices_Min_int64_int64.calls k _ _ t129 t133 _ ?side1 ((Kd.R_reads' HO131.out).2.1) A6.out).mono ?_); (case side1 => refine (Kd.R_reads' (e := 2) (base := w.heap.size) (ok := fun k_ => True) (n := t129.length) (c := co31) ?_).2.2; exact (by (with_reducible repeat (first | apply Kd.R_alloc | apply Kd.R_drewN | apply Kd.R_drew)); exact (Kd.R_mono (Kd.R_far (p := ⟨gb132, 1, none⟩) (Kd.R_far (p := ⟨gb132, 0, none⟩) (Kd.R_types HO131.out BK132.out (by decide)) (fun _ hk => hk.2) (.slice Ao31 t129.length co31)) (fun _ hk => hk.2) (.slice none 0 0)) (fun _ h_ => h_.1)))); rintro e w36 ⟨rfl, hb⟩; refine ⟨_, rfl, ?_⟩; replace HO131 := zQ (Kd.R_below (by (with_reducible repeat (first | apply Kd.R_alloc | apply Kd.R_drewN | apply Kd.R_drew)); exact (Kd.R_mono (Kd.R_far (p := ⟨gb132, 1, none⟩) (Kd.R_far (p := ⟨gb132, 0, none⟩) (Kd.R_types HO131.out BK132.out (by decide)) (fun _ hk => hk.2) (.slice Ao31 t129.length co31)) (fun _ hk => hk.2) (.slice none 0 0)) (fun _ h_ => h_.1))) hb); replace BK126 := zQ (blk_below (g := gb126) (o := .cells #[.slice A0_0 l0_0.length c0_0, .slice A0_1 l0_1.length c0_1] 27 (0, 0)) (by refine zb ?_; refine blk_far ?_ NB126_132.out _; refine zb ?_; refine blk_far ?_ NB126_132.out _; refine zb ?_; exact BK126.out) hb); replace BK127 := zQ (blk_below (g := gb127) (o := .cells #[.slice none 0 0, .slice none 0 0] 27 (0, 0)) (by refine zb ?_; refine blk_far ?_ NB127_132.out _; refine zb ?_; refine blk_far ?_ NB127_132.out _; refine zb ?_; exact BK127.out) hb); replace BK132 := zQ (blk_below (g := gb132) (o := .cells #[.slice Ao31 t129.length co31, .slice none 0 0] 27 (0, 0)) (by refine zb ?_; refine blk_put (cs := #[.slice Ao31 t129.length co31, .slice none 0 0]) ?_ 1 _ rfl; refine zb ?_; refine blk_put (cs := #[.slice none 0 0, .slice none 0 0]) ?_ 0 _ rfl; refine zb ?_; exact BK132.out) hb); replace HB := zQ (below_step (by repeat (first | (with_reducible first | exact HB.out | apply below_alloc | apply pw_below_drewN | apply below_drew1 | refine below_set ?_ GE126.out | refine below_set ?_ GE127.out | refine below_set ?_ GE132.out) | exact HB.out)) hb); (try clear hb); have hcz37_0 := zc0 BK132.out; have hcz37_1 := zc1 BK132.out; have hfz37_0 := zfz BK132.out 0; have hfz37_1 := zfz BK132.out 1) | ((with_reducible refine zgc 53 ?_); refine zgo (some 28) Try.func53 #[.slice Ao31 t129.length co31] ?_; (with_reducible refine (slices_Max_int64_int64.calls k _ _ t129 t134 _ ?side1 ((Kd.R_reads' HO131.out).2.1) A22.out).mono ?_); (case side1 => repeat (first | exact (Kd.R_reads' HO131.out).2.2 | (with_reducible refine Kd.C_alloc ?_ _) | (with_reducible refine Kd.C_drewN ?_ _) | (with_reducible refine Kd.C_drew ?_))); rintro e w38 ⟨rfl, hb⟩; refine ⟨_, rfl, ?_⟩; replace HO131 := zQ (Kd.R_below (zR HO131.out) hb); replace BK126 := zbl BK126.out hb; replace BK127 := zbl BK127.out hb; replace BK132 := zbl BK132.out hb; replace HB := zQ (below_step (by repeat (first | (with_reducible first | exact HB.out | apply below_alloc | apply pw_below_drewN | apply below_drew1 | refine below_set ?_ GE126.out | refine below_set ?_ GE127.out | refine below_set ?_ GE132.out) | exact HB.out)) hb); (try clear hb); have hcz39_0 := zc0 BK127.out; have hcz39_1 := zc1 BK127.out; have hfz39_0 := zfz BK127.out 0; have hfz39_1 := zfz BK127.out 1))
    refine bodyPost_ret (results_ct rfl _ _ gb127 27 #[.slice none 0 0, .slice none 0 0] (0, 0) _ rfl (by refine zb ?_; refine blk_put (cs := #[.slice none 0 0, .slice none 0 0]) ?_ 1 _ rfl; refine zb ?_; refine blk_put (cs := #[.slice none 0 0, .slice none 0 0]) ?_ 0 _ rfl; refine zb ?_; exact BK127.out) Try.underlying27 rfl (by kernel_rfl)) rfl ?_
    exact ⟨_, _, zE, by first | exact Kd.R_nil _ _ _ _ _ | exact Kd.N_nil _ _ _ _ _ | exact Kd.V_nil _ _ _ _ _ | exact Kd.Q_nil _ _ _ _ _ | exact Kd.S_nil _ _ _ _ _, by first | exact Kd.S_nil _ _ _ _ _ | exact Kd.N_nil _ _ _ _ _ | exact Kd.V_nil _ _ _ _ _ | exact Kd.Q_nil _ _ _ _ _ | exact Kd.R_nil _ _ _ _ _, by repeat (first | (with_reducible first | exact HB.out | apply below_alloc | apply pw_below_drewN | apply below_drew1 | refine below_set ?_ GE126.out | refine below_set ?_ GE127.out | refine below_set ?_ GE132.out) | exact HB.out)⟩
   ·rw [if_neg c23] at H
    have c23b0 : decide (1000000 < t134) = false := decide_eq_false c23; clear c23; have H' := zQ H; clear H
    go_enter Try.func20, Try.ntmps20
    go_wp2_with (first | ((with_reducible refine zd 2 ?_); refine zbx (N := 2) (cs := #[.slice A0_0 l0_0.length c0_0, .slice A0_1 l0_1.length c0_1]) (t := 27) ?_; intro gb126 hg w40 hbox hb; have BK126 := zQ (hbox); have GW126 := zgz hg HB.out; have GE126 := GW126; replace HB := zbs HB.out hb; clear hb hbox hg) | ((with_reducible refine zd 4 ?_); refine zbx (N := 4) (cs := #[.slice none 0 0, .slice none 0 0]) (t := 27) ?_; intro gb127 hg w41 hbox hb; have BK127 := zQ (hbox); have GW127 := zgz2 hg HB.out GE126.out; have GE127 := GW127; have NB126_127 := zQ ((by rw [hg]; exact Nat.ne_of_lt (blk_lt (g := gb126) (o := .cells #[.slice A0_0 l0_0.length c0_0, .slice A0_1 l0_1.length c0_1] 27 (0, 0)) (zb BK126.out)) : gb126 ≠ gb127)); have NB127_126 := zQ ((by rw [hg]; exact Nat.ne_of_gt (blk_lt (g := gb126) (o := .cells #[.slice A0_0 l0_0.length c0_0, .slice A0_1 l0_1.length c0_1] 27 (0, 0)) (zb BK126.out)) : gb127 ≠ gb126)); replace BK126 := zbl BK126.out hb; replace HB := zbs2 HB.out GE126.out hb; clear hb hbox hg; have hnb42 := NB126_127.out; have hnc42 := NB127_126.out; have hcz43_0 := zc0 BK126.out; have hcz43_1 := zc1 BK126.out; have hfz43_0 := zfz BK126.out 0; have hfz43_1 := zfz BK126.out 1) | ((with_reducible refine zgc 49 ?_); refine goesL_ (some 12) rfl rfl Try.func49 (by kernel_rfl) rfl #[.agg #[.slice A0_0 l0_0.length c0_0, .slice A0_1 l0_1.length c0_1], .slice A1 l1.length c1] rfl zM ?_; (with_reducible refine (impl_turnsCode.calls k _ _ l0_0 _ _ l0_1 _ _ l1 t128 _ (zC HR0_0.out HB.out) HC0_0.out (zC HR0_1.out HB.out) HC0_1.out (zC HR1.out HB.out) HC1.out A3.out).mono ?_); rintro e w44 ⟨rfl, hb⟩; refine ⟨_, rfl, ?_⟩; replace BK126 := zbl BK126.out hb; replace BK127 := zbl BK127.out hb; replace HB := zQ (below_step (zB3 HB.out GE126.out GE127.out) hb); (try clear hb); have hcz45_0 := zc0 BK126.out; have hcz45_1 := zc1 BK126.out; have hfz45_0 := zfz BK126.out 0; have hfz45_1 := zfz BK126.out 1) | ((with_reducible refine zgc 50 ?_); refine goesL_ (some 19) rfl rfl Try.func50 (by kernel_rfl) rfl #[.agg #[.slice A0_0 l0_0.length c0_0, .slice A0_1 l0_1.length c0_1], .slice A1 l1.length c1] rfl zM ?_; (with_reducible refine (impl_tensionsAfter.calls k _ _ l0_0 _ _ l0_1 _ _ l1 t129 _ (zC HR0_0.out HB.out) HC0_0.out (zC HR0_1.out HB.out) HC0_1.out (zC HR1.out HB.out) HC1.out A5.out).mono ?_); rintro e w46 ⟨v130, rfl, ho0, hb⟩; refine ⟨_, rfl, ?_⟩; have HO131 := zQ (Kd.R_lower ho0 (below_size (zB3 HB.out GE126.out GE127.out))); replace BK126 := zbl BK126.out hb; replace BK127 := zbl BK127.out hb; replace HB := zQ (below_step (zB3 HB.out GE126.out GE127.out) hb); (try clear hb); (try clear ho0); obtain ⟨Ao47, co47, eo47⟩ := Kd.R_slice HO131.out; subst eo47) | ((with_reducible refine zd 7 ?_); refine zbx (N := 7) (cs := #[.slice none 0 0, .slice none 0 0]) (t := 27) ?_; intro gb132 hg w48 hbox hb; have BK132 := zQ (hbox); have GW132 := zQ ((by rw [hg]; exact (below_size (zB3 HB.out GE126.out GE127.out)) : w.heap.size ≤ gb132)); have GE132 := zQ ((by rw [hg]; exact (below_size (zB3 HB.out GE126.out GE127.out)) : w.heap.size ≤ gb132)); have NB126_132 := zQ ((by rw [hg]; exact Nat.ne_of_lt (blk_lt (g := gb126) (o := .cells #[.slice A0_0 l0_0.length c0_0, .slice A0_1 l0_1.length c0_1] 27 (0, 0)) (zb BK126.out)) : gb126 ≠ gb132)); have NB132_126 := zQ ((by rw [hg]; exact Nat.ne_of_gt (blk_lt (g := gb126) (o := .cells #[.slice A0_0 l0_0.length c0_0, .slice A0_1 l0_1.length c0_1] 27 (0, 0)) (zb BK126.out)) : gb132 ≠ gb126)); have NB127_132 := zQ ((by rw [hg]; exact Nat.ne_of_lt (blk_lt (g := gb127) (o := .cells #[.slice none 0 0, .slice none 0 0] 27 (0, 0)) (zb BK127.out)) : gb127 ≠ gb132)); have NB132_127 := zQ ((by rw [hg]; exact Nat.ne_of_gt (blk_lt (g := gb127) (o := .cells #[.slice none 0 0, .slice none 0 0] 27 (0, 0)) (zb BK127.out)) : gb132 ≠ gb127)); replace HO131 := zQ (Kd.R_below (zR HO131.out) hb); replace BK126 := zbl BK126.out hb; replace BK127 := zbl BK127.out hb; replace HB := zQ (below_step (zB3 HB.out GE126.out GE127.out) hb); clear hb hbox hg; have hnb49 := NB132_126.out; have hnc49 := NB126_132.out; have hnb50 := NB132_127.out; have hnc50 := NB127_132.out; have hcz51_0 := zc0 BK132.out; have hcz51_1 := zc1 BK132.out; have hfz51_0 := zfz BK132.out 0; have hfz51_1 := zfz BK132.out 1) | ((with_reducible refine zgc 52 ?_); refine zgo (some 23) Try.func52 #[.slice Ao47 t129.length co47] ?_; (with_reducible refine (slices_Min_int64_int64.calls k _ _ t129 t133 _ ?side1 ((Kd.R_reads' HO131.out).2.1) A6.out).mono ?_); (case side1 => refine (Kd.R_reads' (e := 2) (base := w.heap.size) (ok := fun k_ => True) (n := t129.length) (c := co47) ?_).2.2; exact (by (with_reducible repeat (first | apply Kd.R_alloc | apply Kd.R_drewN | apply Kd.R_drew)); exact (Kd.R_mono (Kd.R_far (p := ⟨gb132, 1, none⟩) (Kd.R_far (p := ⟨gb132, 0, none⟩) (Kd.R_types HO131.out BK132.out (by decide)) (fun _ hk => hk.2) (.slice Ao47 t129.length co47)) (fun _ hk => hk.2) (.slice none 0 0)) (fun _ h_ => h_.1)))); rintro e w52 ⟨rfl, hb⟩; refine ⟨_, rfl, ?_⟩; replace HO131 := zQ (Kd.R_below (by (with_reducible repeat (first | apply Kd.R_alloc | apply Kd.R_drewN | apply Kd.R_drew)); exact (Kd.R_mono (Kd.R_far (p := ⟨gb132, 1, none⟩) (Kd.R_far (p := ⟨gb132, 0, none⟩) (Kd.R_types HO131.out BK132.out (by decide)) (fun _ hk => hk.2) (.slice Ao47 t129.length co47)) (fun _ hk => hk.2) (.slice none 0 0)) (fun _ h_ => h_.1))) hb); replace BK126 := zQ (blk_below (g := gb126) (o := .cells #[.slice A0_0 l0_0.length c0_0, .slice A0_1 l0_1.length c0_1] 27 (0, 0)) (by refine zb ?_; refine blk_far ?_ NB126_132.out _; refine zb ?_; refine blk_far ?_ NB126_132.out _; refine zb ?_; exact BK126.out) hb); replace BK127 := zQ (blk_below (g := gb127) (o := .cells #[.slice none 0 0, .slice none 0 0] 27 (0, 0)) (by refine zb ?_; refine blk_far ?_ NB127_132.out _; refine zb ?_; refine blk_far ?_ NB127_132.out _; refine zb ?_; exact BK127.out) hb); replace BK132 := zQ (blk_below (g := gb132) (o := .cells #[.slice Ao47 t129.length co47, .slice none 0 0] 27 (0, 0)) (by refine zb ?_; refine blk_put (cs := #[.slice Ao47 t129.length co47, .slice none 0 0]) ?_ 1 _ rfl; refine zb ?_; refine blk_put (cs := #[.slice none 0 0, .slice none 0 0]) ?_ 0 _ rfl; refine zb ?_; exact BK132.out) hb); replace HB := zQ (below_step (by repeat (first | (with_reducible first | exact HB.out | apply below_alloc | apply pw_below_drewN | apply below_drew1 | refine below_set ?_ GE126.out | refine below_set ?_ GE127.out | refine below_set ?_ GE132.out) | exact HB.out)) hb); (try clear hb); have hcz53_0 := zc0 BK132.out; have hcz53_1 := zc1 BK132.out; have hfz53_0 := zfz BK132.out 0; have hfz53_1 := zfz BK132.out 1) | ((with_reducible refine zgc 53 ?_); refine zgo (some 28) Try.func53 #[.slice Ao47 t129.length co47] ?_; (with_reducible refine (slices_Max_int64_int64.calls k _ _ t129 t134 _ ?side1 ((Kd.R_reads' HO131.out).2.1) A22.out).mono ?_); (case side1 => repeat (first | exact (Kd.R_reads' HO131.out).2.2 | (with_reducible refine Kd.C_alloc ?_ _) | (with_reducible refine Kd.C_drewN ?_ _) | (with_reducible refine Kd.C_drew ?_))); rintro e w54 ⟨rfl, hb⟩; refine ⟨_, rfl, ?_⟩; replace HO131 := zQ (Kd.R_below (zR HO131.out) hb); replace BK126 := zbl BK126.out hb; replace BK127 := zbl BK127.out hb; replace BK132 := zbl BK132.out hb; replace HB := zQ (below_step (by repeat (first | (with_reducible first | exact HB.out | apply below_alloc | apply pw_below_drewN | apply below_drew1 | refine below_set ?_ GE126.out | refine below_set ?_ GE127.out | refine below_set ?_ GE132.out) | exact HB.out)) hb); (try clear hb); have hcz55_0 := zc0 BK126.out; have hcz55_1 := zc1 BK126.out; have hfz55_0 := zfz BK126.out 0; have hfz55_1 := zfz BK126.out 1))
    go_loopg [34] k (fun kq v34 w' => ∃ (x34_1 : Int) (x133001_1 : List (List Int)) (u133001 : Value), v34 = .int .i64 x34_1 ∧ Aside0 (impl_Retuned.l0 kq l0_1 (l0_1.length : Int) x34_1 t129 x133001_1 = some (r1, r2, r3)) ∧ Aside0 (kq ≤ k) ∧ Aside0 (Kd.R (Kd.int .i64) 2 w' w.heap.size (fun _ => True) (.slice Ao47 t129.length co47) t129) ∧ Aside0 (Kd.S (Kd.slice 2 (Kd.int .i64)) 24 w' w.heap.size (fun k_ => some k_ ≠ ((.slice Ao47 t129.length co47) : Value).ownBlock) u133001 x133001_1) ∧ Aside0 (w'.heap[gb126]? = some (.cells #[(.slice A0_0 l0_0.length c0_0), (.slice A0_1 l0_1.length c0_1)] 27 (0, 0))) ∧ Aside0 (w'.heap[gb127]? = some (.cells #[(.slice none 0 0), (.slice none 0 0)] 27 (0, 0))) ∧ Aside0 (w'.heap[gb132]? = some (.cells #[(.slice Ao47 t129.length co47), u133001] 27 (0, 0))) ∧ Aside0 (Below w.heap.size w w'))
    case atStart => exact ⟨(0), (([] : List (List Int))), (.slice none 0 0), (zF), H', ⟨Nat.le_refl _⟩, ⟨zR HO131.out⟩, ⟨by first | exact Kd.S_nil _ _ _ _ _ | exact Kd.N_nil _ _ _ _ _ | exact Kd.V_nil _ _ _ _ _ | exact Kd.Q_nil _ _ _ _ _ | exact Kd.R_nil _ _ _ _ _⟩, ⟨zb BK126.out⟩, ⟨zb BK127.out⟩, ⟨zb BK132.out⟩, ⟨by repeat (first | (with_reducible first | exact HB.out | apply below_alloc | apply pw_below_drewN | apply below_drew1 | refine below_set ?_ GE126.out | refine below_set ?_ GE127.out | refine below_set ?_ GE132.out) | exact HB.out)⟩⟩
    case round =>
     clear H'; (try clear c1); (try clear c2); (try clear p2); (try clear c3); (try clear c4); (try clear c4b0); (try clear c4b1); (try clear c5); (try clear c7); (try clear c7b0); (try clear c10); (try clear c17); (try clear c18); (try clear c20); (try clear c23); (try clear c23b0); (try clear c26); (try clear c33); (try clear c34); (try clear c42); (try clear c49); (try clear c50); (try clear c52); (try clear c53); (try clear hcz11_0); (try clear hcz11_1); (try clear hcz13_0); (try clear hcz13_1); (try clear hcz19_0); (try clear hcz19_1); (try clear hcz21_0); (try clear hcz21_1); (try clear hcz27_0); (try clear hcz27_1); (try clear hcz29_0); (try clear hcz29_1); (try clear hcz35_0); (try clear hcz35_1); (try clear hcz37_0); (try clear hcz37_1); (try clear hcz39_0); (try clear hcz39_1); (try clear hcz43_0); (try clear hcz43_1); (try clear hcz45_0); (try clear hcz45_1); (try clear hcz51_0); (try clear hcz51_1); (try clear hcz53_0); (try clear hcz53_1); (try clear hcz55_0); (try clear hcz55_1); (try clear hfz11_0); (try clear hfz11_1); (try clear hfz13_0); (try clear hfz13_1); (try clear hfz19_0); (try clear hfz19_1); (try clear hfz21_0); (try clear hfz21_1); (try clear hfz27_0); (try clear hfz27_1); (try clear hfz29_0); (try clear hfz29_1); (try clear hfz35_0); (try clear hfz35_1); (try clear hfz37_0); (try clear hfz37_1); (try clear hfz39_0); (try clear hfz39_1); (try clear hfz43_0); (try clear hfz43_1); (try clear hfz45_0); (try clear hfz45_1); (try clear hfz51_0)
     (try clear hfz51_1); (try clear hfz53_0); (try clear hfz53_1); (try clear hfz55_0); (try clear hfz55_1); obtain ⟨x34_1, x133001_1, u133001, rfl, HA, HK1, HO_133000, HO_133001, BK126, BK127, BK132, HB⟩ := hrel
     cases gk with
     | zero => exact absurd HA.out (by simp [impl_Retuned.l0])
     | succ k1 =>
      have H := HA.out; clear HA
      simp only [impl_Retuned.l0] at H
      by_cases c56 : x34_1 < (l0_1.length : Int)
      ·rw [if_pos c56] at H
       have c56b0 : decide (x34_1 < (l0_1.length : Int)) = true := decide_eq_true c56; clear c56
       by_cases c57 : 0 ≤ x34_1
       ·rw [if_pos c57] at H
        have c57b0 : decide (0 ≤ x34_1) = true := decide_eq_true c57; clear c57
        by_cases c58 : x34_1 < (l0_1.length : Int)
        ·rw [if_pos c58] at H
         have c58b0 : decide (x34_1 < (l0_1.length : Int)) = true := decide_eq_true c58; clear c58; obtain ⟨y136, hy136⟩ : ∃ y_ : List Int, y_ = (([] : List Int)) := ⟨_, rfl⟩; replace H : (if y136.length + (rd_L1 l0_1 x34_1).length < 17592186044416 then (if x133001_1.length < 5864062014805 then (impl_Retuned.l0 k1 l0_1 (l0_1.length : Int) (wrap64 (x34_1 + 1)) t129 (x133001_1 ++ [(y136 ++ (rd_L1 l0_1 x34_1))])) else (none)) else (none)) = some (r1, r2, r3) := zh H; have Ny136 := zQ hy136; clear hy136
         by_cases c59 : y136.length + (rd_L1 l0_1 x34_1).length < 17592186044416
         ·rw [if_pos c59] at H
          have LMc59 := zQ c59; clear c59; obtain ⟨y139, hy139⟩ : ∃ y_ : List Int, y_ = (y136 ++ (rd_L1 l0_1 x34_1)) := ⟨_, rfl⟩; replace H : (if x133001_1.length < 5864062014805 then (impl_Retuned.l0 k1 l0_1 (l0_1.length : Int) (wrap64 (x34_1 + 1)) t129 (x133001_1 ++ [y139])) else (none)) = some (r1, r2, r3) := zh H; have Ny139 := zQ hy139; clear hy139
          by_cases c60 : x133001_1.length < 5864062014805
          ·rw [if_pos c60] at H
           have LMc60 := zQ c60; clear c60; obtain ⟨y142, hy142⟩ : ∃ y_ : List (List Int), y_ = (x133001_1 ++ [y139]) := ⟨_, rfl⟩; replace H : (impl_Retuned.l0 k1 l0_1 (l0_1.length : Int) (wrap64 (x34_1 + 1)) t129 y142) = some (r1, r2, r3) := zh H; have Ny142 := zQ hy142; clear hy142; have H' := zQ H; clear H; have p135 : 0 ≤ (x34_1 : Int) := of_decide_eq_true zA; have q135 : x34_1 < (l0_1.length : Int) := of_decide_eq_true zA; obtain ⟨ad135, A135_0, c135_0, e135, hx135_0, hl135_0, hi135_0⟩ := at_L1 HR0_1.out x34_1 p135 q135
           cases e135
           replace hx135_0 := zw HB.out hx135_0; have HR135_0 := zQ hi135_0; have HC135_0 := zQ hl135_0; clear hi135_0 hl135_0; replace p135 := eq_true p135; replace q135 := eq_true q135
           try go_wp2
           have n0_ := zQ (Kd.R_drew HO_133000.out); have n1_ := zQ (Kd.S_drew HO_133001.out); have n2_ := zQ (blk_drew BK126.out); have n3_ := zQ (blk_drew BK127.out); have n4_ := zQ (blk_drew BK132.out); have n5_ := zQ (below_drew1 HB.out); clear HO_133000; clear HO_133001; clear BK126; clear BK127; clear BK132; clear HB; have HO_133000 := n0_; have HO_133001 := n1_; have BK126 := n2_; have BK127 := n3_; have BK132 := n4_; have HB := n5_; clear n0_ n1_ n2_ n3_ n4_ n5_
           refine zs (fun w' => w'.cell? ⟨gb132, 0, none⟩ = some (.slice Ao47 t129.length co47) ∧ w'.cell? ⟨gb132, 1, none⟩ = some (u133001)) [8] 9 ⟨(blk_cell BK132.out 0).trans rfl, (blk_cell BK132.out 1).trans rfl⟩ (fun hHeld => ?_); refine with_tabW impl_Retuned.tab12 impl_Retuned.bits12 (fun HT_ HW_ => ?_)
           generalize wr.drew = w61 at HO_133000 HO_133001 BK126 BK127 BK132 HB hHeld ⊢
           refine zp 0 38 ?_
           refine zp 3 41 ?_
           refine zt 1 39 hHeld ?_
           refine zo 2 (some 40) (fun K hK => ?_)
           refine Kd.R_lit_step (Kd.int .i64) _ 2 ?hg (N := 40) ?hd (xs := ([] : List Int)) (inner := []) (ok := fun _ => True) (okp := fun _ => True) ?hr ?hp (fun _ hk => hk) trivial (Below.refl _ _) (Nat.le_refl _) (by simp) ?_; (case hd => rfl); (case hg => rfl); (case hr => first | (go_simp; done) | (go_simp; rfl)); (case hp => exact (Reps.none _ _))
           intro v137 w62 ho63 hb hg_ hnew_
           clear hg_ hnew_
           (first | rw [← Ny136.out] at ho63 | (simp only [Int.reduceToNat] at ho63; rw [← Ny136.out] at ho63))
           have n0_ := zQ (Kd.R_elder' (zR HO_133000.out) (Kd.R_base ho63) hb); have n1_ := zQ (Kd.S_elder' (zS HO_133001.out) (Kd.R_base ho63) hb); have n2_ := zQ (Kd.R_lower (Kd.R_new' ho63 (Kd.R_lt (zR HO_133000.out))) (below_size (by repeat (first | (with_reducible first | exact HB.out | apply below_alloc | apply pw_below_drewN | apply below_drew1 | refine below_set ?_ GE126.out | refine below_set ?_ GE127.out | refine below_set ?_ GE132.out) | exact HB.out)))); have n3_ := zbl BK126.out hb; have n4_ := zbl BK127.out hb; have n5_ := zbl BK132.out hb; have n6_ := zQ (below_step (by repeat (first | (with_reducible first | exact HB.out | apply below_alloc | apply pw_below_drewN | apply below_drew1 | refine below_set ?_ GE126.out | refine below_set ?_ GE127.out | refine below_set ?_ GE132.out) | exact HB.out)) hb); clear HO_133000; clear HO_133001; clear BK126; clear BK127; clear BK132; clear HB; have HO_133000 := n0_; have HO_133001 := n1_; have HO138 := n2_; have BK126 := n3_; have BK127 := n4_; have BK132 := n5_; have HB := n6_; clear n0_ n1_ n2_ n3_ n4_ n5_ n6_; clear hb ho63
           refine hK.out _ _ ⟨(blk_cell BK132.out 0).trans rfl, (blk_cell BK132.out 1).trans rfl⟩ (fun hHeld => ?_)
           clear hK K
           refine zn 40 ?_
           refine zo 4 (some 42) (fun K hK => ?_)
           refine Kd.R_append_rows_step (Kd.int .i64) (w0 := w) w.heap.size (by rfl) (.tmp 40) (.tmp 41) 24 2 (.int .i64 0) 8 rfl Try.underlying24 info2 rfl (by decide) (by omega) v137 y136 (rd_L1 l0_1 x34_1) _ _ _ (fun k_ => some k_ ≠ (.slice Ao47 t129.length co47 : Value).ownBlock) (fun _ => False) rfl rfl ?aO ?aR (fun _ _ h => h) (fun _ h => h.elim) ?aF ?aB ?aS ?aL ?_
           (case aR => exact zC HR135_0.out HB.out)
           (case aB => exact (by repeat (first | (with_reducible first | exact HB.out | apply below_alloc | apply pw_below_drewN | apply below_drew1 | refine below_set ?_ GE126.out | refine below_set ?_ GE127.out | refine below_set ?_ GE132.out) | exact HB.out)))
           (case aF => exact (fun k_ hk => Kd.fresh' (Kd.R_lt (zR HO_133000.out)) k_ hk))
           (case aO => exact (by (with_reducible repeat (first | apply Kd.R_alloc | apply Kd.R_drewN | apply Kd.R_drew)); exact Kd.R_mono HO138.out (fun _ hk => hk.2)))
           (case aS => exact (below_size (by repeat (first | (with_reducible first | exact HB.out | apply below_alloc | apply pw_below_drewN | apply below_drew1 | refine below_set ?_ GE126.out | refine below_set ?_ GE127.out | refine below_set ?_ GE132.out) | exact HB.out))))
           (case aL => have := LMc59.out; omega)
           intro v140 w64 ho hb hg hat
           rw [← Ny139.out] at ho; have n0_ := zQ (Kd.R_after (ok := (fun _ => True)) (zR HO_133000.out) hg hat); have n1_ := zQ (Kd.S_after (ok := (fun k_ => some k_ ≠ (.slice Ao47 t129.length co47 : Value).ownBlock)) (zS HO_133001.out) hg hat); have n2_ := zQ (blk_grown (g := gb126) (o := .cells #[.slice A0_0 l0_0.length c0_0, .slice (some ad135) l0_1.length c0_1] 27 (0, 0)) (zb BK126.out) hg (Kd.R_ne HO138.out BK126.out (by decide))); have n3_ := zQ (blk_grown (g := gb127) (o := .cells #[.slice none 0 0, .slice none 0 0] 27 (0, 0)) (zb BK127.out) hg (Kd.R_ne HO138.out BK127.out (by decide))); have n4_ := zQ (blk_grown (g := gb132) (o := .cells #[.slice Ao47 t129.length co47, u133001] 27 (0, 0)) (zb BK132.out) hg (Kd.R_ne HO138.out BK132.out (by decide))); have n5_ := zQ (hb); have n6_ := zQ (ho); clear HO_133000; clear HO_133001; clear BK126; clear BK127; clear BK132; clear HB; clear HO138; have HO_133000 := n0_; have HO_133001 := n1_; have BK126 := n2_; have BK127 := n3_; have BK132 := n4_; have HB := n5_; have HO141 := n6_; clear n0_ n1_ n2_ n3_ n4_ n5_ n6_; clear ho hb hg hat; obtain ⟨Ao66, co66, eo66⟩ := Kd.R_slice HO141.out
           (first | subst eo66 | (injection eo66 with f1_ f2_ f3_; have f4_ := f1_.symm; have f5_ := f3_.symm; clear f1_ f2_ f3_; subst f4_; subst f5_))
           refine hK.out _ _ ⟨(blk_cell BK132.out 0).trans rfl, (blk_cell BK132.out 1).trans rfl⟩ (fun hHeld => ?_)
           clear hK K
           refine zn 42 ?_
           refine zo 5 (some 43) (fun K hK => ?_)
           refine value_ (w1 := ?_) (v := ?_) (by rfl) rfl ?_ ?_
           rotate_left 2
           ·go_simp
            constructor
            ·rfl
            ·rfl
           refine hK.out _ _ ⟨(blk_cell (blk_alloc BK132.out _) 0).trans rfl, (blk_cell (blk_alloc BK132.out _) 1).trans rfl⟩ (fun hHeld => ?_)
           clear hK K
           refine zn 43 ?_
           refine zo 6 (some 44) (fun K hK => ?_)
           refine Kd.S_append_step (Kd.slice 2 (Kd.int .i64)) (w0 := w) w.heap.size (by rfl) (.tmp 39) (.tmp 43) 25 24 (.slice none 0 0) 24 rfl Try.underlying25 info24 rfl (by decide) (by omega) u133001 x133001_1 y139 [.slice Ao66 y139.length co66] (fun k_ => some k_ ≠ (.slice Ao47 t129.length co47 : Value).ownBlock) (fun k_ => some k_ = (.slice Ao66 y139.length co66 : Value).ownBlock) rfl rfl ?aP (fun k_ hk_ => ((Kd.R_mono (ok' := fun k_ => ((fun k_ => some k_ ≠ (.slice Ao47 t129.length co47 : Value).ownBlock)) k_ ∧ some k_ ≠ (u133001 : Value).ownBlock) (Kd.R_apart' (HO141.out) (Kd.S_typed HO_133001.out) (by decide)) (fun k_ hk => ⟨hk.1, hk.2⟩))).1 k_ hk_.symm) ?aF ?aO ?aB ?aS ?aL ?_
           (case aP => exact Kd.M_row (Kd.R_mono (Kd.R_tight rfl (Kd.R_mono (ok' := fun k_ => ((fun k_ => some k_ ≠ (.slice Ao47 t129.length co47 : Value).ownBlock)) k_ ∧ some k_ ≠ (u133001 : Value).ownBlock) (Kd.R_apart' (HO141.out) (Kd.S_typed HO_133001.out) (by decide)) (fun k_ hk => ⟨hk.1, hk.2⟩))) (fun _ h_ => h_)))
           (case aB => exact (by repeat (first | (with_reducible first | exact HB.out | apply below_alloc | apply pw_below_drewN | apply below_drew1 | refine below_set ?_ GE126.out | refine below_set ?_ GE127.out | refine below_set ?_ GE132.out) | exact HB.out)))
           (case aF => exact (fun k_ hk => Kd.fresh' (Kd.R_lt (zR HO_133000.out)) k_ hk))
           (case aO => exact (by (with_reducible repeat (first | apply Kd.S_alloc | apply Kd.S_drewN | apply Kd.S_drew)); exact Kd.S_mono HO_133001.out (fun k_ hk => ⟨hk.1, fun e_ => hk.2 e_⟩)))
           (case aS => exact (below_size (by repeat (first | (with_reducible first | exact HB.out | apply below_alloc | apply pw_below_drewN | apply below_drew1 | refine below_set ?_ GE126.out | refine below_set ?_ GE127.out | refine below_set ?_ GE132.out) | exact HB.out))))
           (case aL => have := LMc60.out; omega)
           intro v143 w65 ho hb hg hat
           rw [← Ny142.out] at ho; have n0_ := zQ (Kd.R_over' (zR HO_133000.out) (Kd.S_typed (zS HO_133001.out)) (by decide) hg); have n1_ := zQ (blk_grown (g := gb126) (o := .cells #[.slice A0_0 l0_0.length c0_0, .slice (some ad135) l0_1.length c0_1] 27 (0, 0)) (zb BK126.out) hg (Kd.S_ne HO_133001.out BK126.out (by decide))); have n2_ := zQ (blk_grown (g := gb127) (o := .cells #[.slice none 0 0, .slice none 0 0] 27 (0, 0)) (zb BK127.out) hg (Kd.S_ne HO_133001.out BK127.out (by decide))); have n3_ := zQ (blk_grown (g := gb132) (o := .cells #[.slice Ao47 t129.length co47, u133001] 27 (0, 0)) (zb BK132.out) hg (Kd.S_ne HO_133001.out BK132.out (by decide))); have n4_ := zQ (hb); have n5_ := zQ (ho); clear HO_133000; clear BK126; clear BK127; clear BK132; clear HB; clear HO_133001; clear HO141; have HO_133000 := n0_; have BK126 := n1_; have BK127 := n2_; have BK132 := n3_; have HB := n4_; have HO144 := n5_; clear n0_ n1_ n2_ n3_ n4_ n5_; clear ho hb hg hat; obtain ⟨Ao67, co67, eo67⟩ := Kd.S_slice HO144.out
           (first | subst eo67 | (injection eo67 with f1_ f2_ f3_; have f4_ := f1_.symm; have f5_ := f3_.symm; clear f1_ f2_ f3_; subst f4_; subst f5_))
           refine hK.out _ _ ⟨(blk_cell BK132.out 0).trans rfl, (blk_cell BK132.out 1).trans rfl⟩ (fun hHeld => ?_)
           clear hK K
           refine zn 44 ?_
           refine zp 7 45 ?_
           refine last_ (i := 8) (N := none) (zm 9 511) rfl rfl (one_of HT_.out (by kernel_rfl)) (by decide) (fun K hK => ?_)
           have hs68 : w65.cell? ⟨gb132, 1, none⟩ = some (u133001) := (blk_cell BK132.out 1).trans rfl; have hfs68 := zfz BK132.out 1; have hns68_0 := NB126_132.out; have hns68_1 := NB127_132.out; have hms68_0 := NB132_126.out; have hms68_1 := NB132_127.out
           refine skip_ (w1 := ?_) (by rfl) rfl ?_ ?_
           rotate_left
           ·go_simp
            rfl
           refine hK.out _ _ ?_
           clear hK K
           refine done_ (done_of HT_.out (by kernel_rfl)) ?_
           try go_wp2
           go_roundg k1
           case measure => have := HK1.out; omega
           case rel => exact ⟨(wrap64 (x34_1 + 1)), (y142), (.slice Ao67 y142.length co67), (zF), H', ⟨by have := HK1.out; omega⟩, ⟨by (with_reducible repeat (first | apply Kd.R_alloc | apply Kd.R_drewN | apply Kd.R_drew)); exact Kd.R_mono (Kd.R_far (p := ⟨gb132, 1, none⟩) (Kd.R_types HO_133000.out BK132.out (by decide)) (fun _ hk => hk.2) (.slice Ao67 y142.length co67)) (fun _ hk => trivial)⟩, ⟨by (with_reducible repeat (first | apply Kd.S_alloc | apply Kd.S_drewN | apply Kd.S_drew)); exact Kd.S_mono (Kd.S_far (p := ⟨gb132, 1, none⟩) (Kd.S_types HO144.out BK132.out (by decide)) (fun _ hk => hk.2) (.slice Ao67 y142.length co67)) (fun _ hk => hk.1)⟩, ⟨by refine zb ?_; refine blk_far ?_ NB126_132.out _; refine zb ?_; exact BK126.out⟩, ⟨by refine zb ?_; refine blk_far ?_ NB127_132.out _; refine zb ?_; exact BK127.out⟩, ⟨by refine zb ?_; refine blk_put (cs := #[.slice Ao47 t129.length co47, u133001]) ?_ 1 _ rfl; refine zb ?_; exact BK132.out⟩, ⟨by repeat (first | (with_reducible first | exact HB.out | apply below_alloc | apply pw_below_drewN | apply below_drew1 | refine below_set ?_ GE126.out | refine below_set ?_ GE127.out | refine below_set ?_ GE132.out) | exact HB.out)⟩⟩
          ·rw [if_neg c60] at H
           exact absurd H (by simp)
         ·rw [if_neg c59] at H
          exact absurd H (by simp)
        ·rw [if_neg c58] at H
         exact absurd H (by simp)
       ·rw [if_neg c57] at H
        exact absurd H (by simp)
      ·rw [if_neg c56] at H
       have c56b0 : decide (x34_1 < (l0_1.length : Int)) = false := decide_eq_false c56; clear c56
       simp only [Option.some.injEq, Prod.mk.injEq] at H
       obtain ⟨rfl, rfl, rfl⟩ := H; have hnb69 := NB132_126.out; have hnc69 := NB126_132.out; have hnb70 := NB132_127.out; have hnc70 := NB127_132.out; have hcz71_0 := zc0 BK132.out; have hcz71_1 := zc1 BK132.out; have hfz71_0 := zfz BK132.out 0; have hfz71_1 := zfz BK132.out 1; have hnb72 := NB127_126.out; have hnc72 := NB126_127.out; have hcz73_0 := zc0 BK127.out; have hcz73_1 := zc1 BK127.out; have hfz73_0 := zfz BK127.out 0; have hfz73_1 := zfz BK127.out 1; obtain ⟨Ao74, co74, eo74⟩ := Kd.S_slice HO_133001.out; subst eo74
       go_wp2
       refine bodyPost_ret (results_ct rfl _ _ gb127 27 #[.slice Ao47 t129.length co47, .slice Ao74 x133001_1.length co74] (0, 0) _ rfl (by refine zb ?_; refine blk_put (cs := #[.slice Ao47 t129.length co47, .slice none 0 0]) ?_ 1 _ rfl; refine zb ?_; refine blk_put (cs := #[.slice none 0 0, .slice none 0 0]) ?_ 0 _ rfl; refine zb ?_; exact BK127.out) Try.underlying27 rfl (by kernel_rfl)) rfl ?_
       exact ⟨_, _, zE, by (with_reducible repeat (first | apply Kd.R_alloc | apply Kd.R_drewN | apply Kd.R_drew)); exact Kd.R_mono (Kd.R_far (p := ⟨gb127, 1, none⟩) (Kd.R_far (p := ⟨gb127, 0, none⟩) (Kd.R_types HO_133000.out BK127.out (by decide)) (fun _ hk => hk.2) (.slice Ao47 t129.length co47)) (fun _ hk => hk.2) (.slice Ao74 x133001_1.length co74)) (fun _ hk => trivial), by (with_reducible repeat (first | apply Kd.S_alloc | apply Kd.S_drewN | apply Kd.S_drew)); exact Kd.S_mono (Kd.S_far (p := ⟨gb127, 1, none⟩) (Kd.S_far (p := ⟨gb127, 0, none⟩) (Kd.S_types HO_133001.out BK127.out (by decide)) (fun _ hk => hk.2) (.slice Ao47 t129.length co47)) (fun _ hk => hk.2) (.slice Ao74 x133001_1.length co74)) (fun _ hk => hk.1), by repeat (first | (with_reducible first | exact HB.out | apply below_alloc | apply pw_below_drewN | apply below_drew1 | refine below_set ?_ GE126.out | refine below_set ?_ GE127.out | refine below_set ?_ GE132.out) | exact HB.out)⟩
 ·rw [if_neg c4] at H
  have c4b0 : (t128 == 0) = false := beq_eq_false_iff_ne.mpr c4; have c4b1 : (t128 != 0) = true := bne_iff_ne.mpr c4
  simp only [Option.some.injEq, Prod.mk.injEq] at H
  obtain ⟨rfl, rfl, rfl⟩ := H
  go_enter Try.func20, Try.ntmps20
  go_wp2_with (first | ((with_reducible refine zd 2 ?_); refine zbx (N := 2) (cs := #[.slice A0_0 l0_0.length c0_0, .slice A0_1 l0_1.length c0_1]) (t := 27) ?_; intro gb126 hg w75 hbox hb; have BK126 := zQ (hbox); have GW126 := zgz hg HB.out; have GE126 := GW126; replace HB := zbs HB.out hb; clear hb hbox hg) | ((with_reducible refine zd 4 ?_); refine zbx (N := 4) (cs := #[.slice none 0 0, .slice none 0 0]) (t := 27) ?_; intro gb127 hg w76 hbox hb; have BK127 := zQ (hbox); have GW127 := zgz2 hg HB.out GE126.out; have GE127 := GW127; have NB126_127 := zQ ((by rw [hg]; exact Nat.ne_of_lt (blk_lt (g := gb126) (o := .cells #[.slice A0_0 l0_0.length c0_0, .slice A0_1 l0_1.length c0_1] 27 (0, 0)) (zb BK126.out)) : gb126 ≠ gb127)); have NB127_126 := zQ ((by rw [hg]; exact Nat.ne_of_gt (blk_lt (g := gb126) (o := .cells #[.slice A0_0 l0_0.length c0_0, .slice A0_1 l0_1.length c0_1] 27 (0, 0)) (zb BK126.out)) : gb127 ≠ gb126)); replace BK126 := zbl BK126.out hb; replace HB := zbs2 HB.out GE126.out hb; clear hb hbox hg; have hnb77 := NB126_127.out; have hnc77 := NB127_126.out; have hcz78_0 := zc0 BK126.out; have hcz78_1 := zc1 BK126.out; have hfz78_0 := zfz BK126.out 0; have hfz78_1 := zfz BK126.out 1) | ((with_reducible refine zgc 49 ?_); refine goesL_ (some 12) rfl rfl Try.func49 (by kernel_rfl) rfl #[.agg #[.slice A0_0 l0_0.length c0_0, .slice A0_1 l0_1.length c0_1], .slice A1 l1.length c1] rfl zM ?_; (with_reducible refine (impl_turnsCode.calls k _ _ l0_0 _ _ l0_1 _ _ l1 t128 _ (zC HR0_0.out HB.out) HC0_0.out (zC HR0_1.out HB.out) HC0_1.out (zC HR1.out HB.out) HC1.out A3.out).mono ?_); rintro e w79 ⟨rfl, hb⟩; refine ⟨_, rfl, ?_⟩; replace BK126 := zbl BK126.out hb; replace BK127 := zbl BK127.out hb; replace HB := zQ (below_step (zB3 HB.out GE126.out GE127.out) hb); (try clear hb); have hcz80_0 := zc0 BK127.out; have hcz80_1 := zc1 BK127.out; have hfz80_0 := zfz BK127.out 0; have hfz80_1 := zfz BK127.out 1))
  refine bodyPost_ret (results_ct rfl _ _ gb127 27 #[.slice none 0 0, .slice none 0 0] (0, 0) _ rfl (by refine zb ?_; refine blk_put (cs := #[.slice none 0 0, .slice none 0 0]) ?_ 1 _ rfl; refine zb ?_; refine blk_put (cs := #[.slice none 0 0, .slice none 0 0]) ?_ 0 _ rfl; refine zb ?_; exact BK127.out) Try.underlying27 rfl (by kernel_rfl)) rfl ?_
  exact ⟨_, _, zE, by first | exact Kd.R_nil _ _ _ _ _ | exact Kd.N_nil _ _ _ _ _ | exact Kd.V_nil _ _ _ _ _ | exact Kd.Q_nil _ _ _ _ _ | exact Kd.S_nil _ _ _ _ _, by first | exact Kd.S_nil _ _ _ _ _ | exact Kd.N_nil _ _ _ _ _ | exact Kd.V_nil _ _ _ _ _ | exact Kd.Q_nil _ _ _ _ _ | exact Kd.R_nil _ _ _ _ _, zB3 HB.out GE126.out GE127.out⟩

/-! ### laws_szInt64S: function 58 -/
def laws_szInt64S.f (l0 : List Int) (a1 : Int) : Option (Int) := if (wrap64 (a1 - (l0.length : Int))) < 0 then (some (-1)) else (some (wrap64 (a1 - (l0.length : Int))))
set_option maxHeartbeats 8000000 in
set_option maxRecDepth 100000 in
theorem laws_szInt64S.calls (A0 : Option Addr) (c0 : Nat) (l0 : List Int) (a1 : Int) (r : Int) (w : World) (hr0 : Kd.C (Kd.int .i64) w A0 l0.length l0) (hc0 : l0.length ≤ c0) (h : laws_szInt64S.f l0 a1 = some r) :
  Calls Try.prog 58 #[.slice A0 l0.length c0, .int .i64 a1] w fun e w' => e = .returned (.int .i64 r) ∧ Drawn0 w w' := by
 have HR0 := zQ hr0
 have HC0 := zQ hc0
 clear hr0 hc0
 have H : (if (wrap64 (a1 - (l0.length : Int))) < 0 then (some (-1)) else (some (wrap64 (a1 - (l0.length : Int))))) = some r := h
 clear h
 by_cases c3 : (wrap64 (a1 - (l0.length : Int))) < 0
 ·rw [if_pos c3] at H
  have c3b0 : decide ((wrap64 (a1 - (l0.length : Int))) < 0) = true := decide_eq_true c3; clear c3; obtain rfl := Option.some.inj H
  go_enter Try.func58, Try.ntmps58
  go_wp2
  go_ret
  exact ⟨zF, by repeat (first | exact Drawn0.refl _ | apply Drawn0.step)⟩
 ·rw [if_neg c3] at H
  have c3b0 : decide ((wrap64 (a1 - (l0.length : Int))) < 0) = false := decide_eq_false c3; clear c3; obtain rfl := Option.some.inj H
  go_enter Try.func58, Try.ntmps58
  go_wp2
  go_ret
  exact ⟨zF, by repeat (first | exact Drawn0.refl _ | apply Drawn0.step)⟩

/-! ### laws_szInt64SS: function 59 -/
def laws_szInt64SS.l0 : Nat → List (List Int) → Int → Int → Option (Int)
 | 0, _, _, _ => none
 | k + 1, x0, x1, x5 => if x5 < (x0.length : Int) then (if 0 ≤ x5 then ((laws_szInt64S.f (rd_L1 x0 x5) x1).bind fun t146 => (if t146 < 0 then (some (-1)) else (laws_szInt64SS.l0 k x0 t146 (wrap64 (x5 + 1))))) else (none)) else (some x1)
def laws_szInt64SS.f (k : Nat) (l0 : List (List Int)) (a1 : Int) : Option (Int) := if (wrap64 (a1 - (l0.length : Int))) < 0 then (some (-1)) else (laws_szInt64SS.l0 k l0 (wrap64 (a1 - (l0.length : Int))) 0)
theorem laws_szInt64SS.mono_l : ∀ k, (∀ y0 y1 y2, LeO (laws_szInt64SS.l0 k y0 y1 y2) (laws_szInt64SS.l0 (k + 1) y0 y1 y2))
 | 0 => fun _ _ _ r h => by simp [laws_szInt64SS.l0] at h
 | k + 1 => by
  have ih0 := laws_szInt64SS.mono_l k
  ·intro y0 y1 y2
   unfold laws_szInt64SS.l0
   (with_reducible repeat' first | apply ih0 | apply LeO.refl | apply LeO.none | refine LeO.ite ?_ ?_ | refine LeO.bind ?_ (fun _ => ?_))
   repeat' first | apply ih0 | apply LeO.none | refine LeO.ite ?_ ?_ | refine LeO.bind ?_ (fun _ => ?_)
theorem laws_szInt64SS.mono : ∀ a0 a1 k, LeO (laws_szInt64SS.f k a0 a1) (laws_szInt64SS.f (k + 1) a0 a1) := by
 intro a0 a1 k
 have ih0 := laws_szInt64SS.mono_l k
 unfold laws_szInt64SS.f
 (with_reducible repeat' first | apply ih0 | apply LeO.refl | apply LeO.none | refine LeO.ite ?_ ?_ | refine LeO.bind ?_ (fun _ => ?_))
 repeat' first | apply ih0 | apply LeO.none | refine LeO.ite ?_ ?_ | refine LeO.bind ?_ (fun _ => ?_)
set_option maxHeartbeats 8000000 in
set_option maxRecDepth 100000 in
theorem laws_szInt64SS.calls (k : Nat) (A0 : Option Addr) (c0 : Nat) (l0 : List (List Int)) (a1 : Int) (r : Int) (w : World) (hr0 : Kd.C (Kd.slice 2 (Kd.int .i64)) w A0 l0.length l0) (hc0 : l0.length ≤ c0) (h : laws_szInt64SS.f k l0 a1 = some r) :
  Calls Try.prog 59 #[.slice A0 l0.length c0, .int .i64 a1] w fun e w' => e = .returned (.int .i64 r) ∧ Drawn0 w w' := by
 have HR0 := zQ hr0
 have HC0 := zQ hc0
 clear hr0 hc0
 have H : (if (wrap64 (a1 - (l0.length : Int))) < 0 then (some (-1)) else (laws_szInt64SS.l0 k l0 (wrap64 (a1 - (l0.length : Int))) 0)) = some r := h
 clear h
 by_cases c3 : (wrap64 (a1 - (l0.length : Int))) < 0
 ·rw [if_pos c3] at H
  have c3b0 : decide ((wrap64 (a1 - (l0.length : Int))) < 0) = true := decide_eq_true c3; clear c3; obtain rfl := Option.some.inj H
  go_enter Try.func59, Try.ntmps59
  go_wp2
  go_ret
  exact ⟨zF, by repeat (first | exact Drawn0.refl _ | apply Drawn0.step)⟩
 ·rw [if_neg c3] at H
  have c3b0 : decide ((wrap64 (a1 - (l0.length : Int))) < 0) = false := decide_eq_false c3; clear c3; have H' := zQ H; clear H
  go_enter Try.func59, Try.ntmps59
  go_wp2
  go_loopg [1, 5] k (fun kq v1 v5 w' => ∃ (x1_1 : Int) (x5_1 : Int), v1 = .int .i64 x1_1 ∧ v5 = .int .i64 x5_1 ∧ Aside0 (laws_szInt64SS.l0 kq l0 x1_1 x5_1 = some r) ∧ Aside0 (kq ≤ k) ∧ Drawn0 w w')
  case atStart => exact ⟨(wrap64 (a1 - (l0.length : Int))), (0), (zF), (zF), H', ⟨Nat.le_refl _⟩, by repeat (first | exact Drawn0.refl _ | apply Drawn0.step)⟩
  case round =>
   clear H'; (try clear p2); (try clear c3); (try clear c3b0); obtain ⟨x1_1, x5_1, rfl, rfl, HA, HK1, ⟨m1, rfl⟩⟩ := hrel
   cases gk with
   | zero => exact absurd HA.out (by simp [laws_szInt64SS.l0])
   | succ k1 =>
    have H := HA.out; clear HA
    simp only [laws_szInt64SS.l0] at H
    by_cases c4 : x5_1 < (l0.length : Int)
    ·rw [if_pos c4] at H
     have c4b0 : decide (x5_1 < (l0.length : Int)) = true := decide_eq_true c4; clear c4
     by_cases c5 : 0 ≤ x5_1
     ·rw [if_pos c5] at H
      have c5b0 : decide (0 ≤ x5_1) = true := decide_eq_true c5; clear c5; replace H := Option.bind_eq_some_iff.mp H; obtain ⟨t146, A60, H⟩ := H; replace H : (if t146 < 0 then (some (-1)) else (laws_szInt64SS.l0 k1 l0 t146 (wrap64 (x5_1 + 1)))) = some r := H; have A6 := zQ A60; clear A60
      by_cases c7 : t146 < 0
      ·rw [if_pos c7] at H
       have c7b0 : decide (t146 < 0) = true := decide_eq_true c7; clear c7; obtain rfl := Option.some.inj H; have p145 : 0 ≤ (x5_1 : Int) := of_decide_eq_true zA; have q145 : x5_1 < (l0.length : Int) := of_decide_eq_true zA; obtain ⟨ad145, A145_0, c145_0, e145, hx145_0, hl145_0, hi145_0⟩ := at_L1 HR0.out x5_1 p145 q145
       cases e145
       have HR145_0 := zQ hi145_0; have HC145_0 := zQ hl145_0; clear hi145_0 hl145_0; replace p145 := eq_true p145; replace q145 := eq_true q145
       go_wp2_with (first | ((with_reducible refine zgc 58 ?_); refine zgo (some 23) Try.func58 #[.slice A145_0 (rd_L1 l0 x5_1).length c145_0, .int .i64 x1_1] ?_; (with_reducible refine (laws_szInt64S.calls _ _ (rd_L1 l0 x5_1) x1_1 t146 _ ?side1 HC145_0.out A6.out).mono ?_); (case side1 => repeat (first | exact HR145_0.out | (with_reducible refine Kd.C_alloc ?_ _) | (with_reducible refine Kd.C_drewN ?_ _) | (with_reducible refine Kd.C_drew ?_))); rintro e w' ⟨rfl, ⟨nd, rfl⟩⟩; refine ⟨_, rfl, ?_⟩))
       go_ret
       exact ⟨zF, by repeat (first | exact Drawn0.refl _ | apply Drawn0.step)⟩
      ·rw [if_neg c7] at H
       have c7b0 : decide (t146 < 0) = false := decide_eq_false c7; clear c7; have H' := zQ H; clear H; have p145 : 0 ≤ (x5_1 : Int) := of_decide_eq_true zA; have q145 : x5_1 < (l0.length : Int) := of_decide_eq_true zA; obtain ⟨ad145, A145_0, c145_0, e145, hx145_0, hl145_0, hi145_0⟩ := at_L1 HR0.out x5_1 p145 q145
       cases e145
       have HR145_0 := zQ hi145_0; have HC145_0 := zQ hl145_0; clear hi145_0 hl145_0; replace p145 := eq_true p145; replace q145 := eq_true q145
       go_wp2_with (first | ((with_reducible refine zgc 58 ?_); refine zgo (some 23) Try.func58 #[.slice A145_0 (rd_L1 l0 x5_1).length c145_0, .int .i64 x1_1] ?_; (with_reducible refine (laws_szInt64S.calls _ _ (rd_L1 l0 x5_1) x1_1 t146 _ ?side1 HC145_0.out A6.out).mono ?_); (case side1 => repeat (first | exact HR145_0.out | (with_reducible refine Kd.C_alloc ?_ _) | (with_reducible refine Kd.C_drewN ?_ _) | (with_reducible refine Kd.C_drew ?_))); rintro e w' ⟨rfl, ⟨nd, rfl⟩⟩; refine ⟨_, rfl, ?_⟩))
       go_roundg k1
       case measure => have := HK1.out; omega
       case rel => exact ⟨(t146), (wrap64 (x5_1 + 1)), (zF), (zF), H', ⟨by have := HK1.out; omega⟩, by repeat (first | exact Drawn0.refl _ | apply Drawn0.step)⟩
     ·rw [if_neg c5] at H
      exact absurd H (by simp)
    ·rw [if_neg c4] at H
     have c4b0 : decide (x5_1 < (l0.length : Int)) = false := decide_eq_false c4; clear c4; obtain rfl := Option.some.inj H
     go_wp2
     go_ret
     exact ⟨zF, by repeat (first | exact Drawn0.refl _ | apply Drawn0.step)⟩

/-! ### laws_szTuning: function 24 -/
def laws_szTuning.f (k : Nat) (l0_0 : List Int) (l0_1 : List (List Int)) (a1 : Int) : Option (Int) := (laws_szInt64S.f l0_0 a1).bind fun t148 => (if t148 < 0 then (some (-1)) else ((laws_szInt64SS.f k l0_1 t148).bind fun t149 => (if t149 < 0 then (some (-1)) else (some t149))))
theorem laws_szTuning.mono : ∀ a0 a1 a2 k, LeO (laws_szTuning.f k a0 a1 a2) (laws_szTuning.f (k + 1) a0 a1 a2) := by
 intro a0 a1 a2 k
 unfold laws_szTuning.f
 (with_reducible repeat' first | apply laws_szInt64SS.mono | apply LeO.refl | apply LeO.none | refine LeO.ite ?_ ?_ | refine LeO.bind ?_ (fun _ => ?_))
 repeat' first | apply laws_szInt64SS.mono | apply LeO.none | refine LeO.ite ?_ ?_ | refine LeO.bind ?_ (fun _ => ?_)
set_option maxHeartbeats 8000000 in
set_option maxRecDepth 100000 in
theorem laws_szTuning.calls (k : Nat) (A0_0 : Option Addr) (c0_0 : Nat) (l0_0 : List Int) (A0_1 : Option Addr) (c0_1 : Nat) (l0_1 : List (List Int)) (a1 : Int) (r : Int) (w : World) (hr0_0 : Kd.C (Kd.int .i64) w A0_0 l0_0.length l0_0) (hc0_0 : l0_0.length ≤ c0_0) (hr0_1 : Kd.C (Kd.slice 2 (Kd.int .i64)) w A0_1 l0_1.length l0_1) (hc0_1 : l0_1.length ≤ c0_1) (h : laws_szTuning.f k l0_0 l0_1 a1 = some r) :
  Calls Try.prog 24 #[.agg #[.slice A0_0 l0_0.length c0_0, .slice A0_1 l0_1.length c0_1], .int .i64 a1] w fun e w' => e = .returned (.int .i64 r) ∧ Below w.heap.size w w' := by
 have hu38 := Try.underlying38
 have HR0_0 := zQ hr0_0
 have HC0_0 := zQ hc0_0
 clear hr0_0 hc0_0
 have HR0_1 := zQ hr0_1
 have HC0_1 := zQ hc0_1
 clear hr0_1 hc0_1
 have HB := zQ (Below.refl w.heap.size w)
 have H : ((laws_szInt64S.f l0_0 a1).bind fun t148 => (if t148 < 0 then (some (-1)) else ((laws_szInt64SS.f k l0_1 t148).bind fun t149 => (if t149 < 0 then (some (-1)) else (some t149))))) = some r := h
 clear h
 replace H := Option.bind_eq_some_iff.mp H
 obtain ⟨t148, A30, H⟩ := H
 replace H : (if t148 < 0 then (some (-1)) else ((laws_szInt64SS.f k l0_1 t148).bind fun t149 => (if t149 < 0 then (some (-1)) else (some t149)))) = some r := H
 have A3 := zQ A30
 clear A30
 by_cases c4 : t148 < 0
 ·rw [if_pos c4] at H
  have c4b0 : decide (t148 < 0) = true := decide_eq_true c4; clear c4; obtain rfl := Option.some.inj H
  go_enter Try.func24, Try.ntmps24
  go_wp2_with (first | ((with_reducible refine zd 2 ?_); refine zbx (N := 2) (cs := #[.slice A0_0 l0_0.length c0_0, .slice A0_1 l0_1.length c0_1]) (t := 38) ?_; intro gb147 hg w5 hbox hb; have BK147 := zQ (hbox); have GW147 := zgz hg HB.out; have GE147 := GW147; replace HB := zbs HB.out hb; clear hb hbox hg; have hcz6_0 := zc0 BK147.out; have hcz6_1 := zc1 BK147.out; have hfz6_0 := zfz BK147.out 0; have hfz6_1 := zfz BK147.out 1) | ((with_reducible refine zgc 58 ?_); refine zgo (some 8) Try.func58 #[.slice A0_0 l0_0.length c0_0, .int .i64 a1] ?_; (with_reducible refine (laws_szInt64S.calls _ _ l0_0 a1 t148 _ (zC HR0_0.out HB.out) HC0_0.out A3.out).mono ?_); rintro e w' ⟨rfl, ⟨nd, rfl⟩⟩; refine ⟨_, rfl, ?_⟩))
  go_ret
  exact ⟨zE, zB2 HB.out GE147.out⟩
 ·rw [if_neg c4] at H
  have c4b0 : decide (t148 < 0) = false := decide_eq_false c4; clear c4; replace H := Option.bind_eq_some_iff.mp H; obtain ⟨t149, A70, H⟩ := H; replace H : (if t149 < 0 then (some (-1)) else (some t149)) = some r := H; have A7 := zQ A70; clear A70
  by_cases c8 : t149 < 0
  ·rw [if_pos c8] at H
   have c8b0 : decide (t149 < 0) = true := decide_eq_true c8; clear c8; obtain rfl := Option.some.inj H
   go_enter Try.func24, Try.ntmps24
   go_wp2_with (first | ((with_reducible refine zd 2 ?_); refine zbx (N := 2) (cs := #[.slice A0_0 l0_0.length c0_0, .slice A0_1 l0_1.length c0_1]) (t := 38) ?_; intro gb147 hg w9 hbox hb; have BK147 := zQ (hbox); have GW147 := zgz hg HB.out; have GE147 := GW147; replace HB := zbs HB.out hb; clear hb hbox hg; have hcz10_0 := zc0 BK147.out; have hcz10_1 := zc1 BK147.out; have hfz10_0 := zfz BK147.out 0; have hfz10_1 := zfz BK147.out 1) | ((with_reducible refine zgc 58 ?_); refine zgo (some 8) Try.func58 #[.slice A0_0 l0_0.length c0_0, .int .i64 a1] ?_; (with_reducible refine (laws_szInt64S.calls _ _ l0_0 a1 t148 _ (zC HR0_0.out HB.out) HC0_0.out A3.out).mono ?_); rintro e w' ⟨rfl, ⟨nd, rfl⟩⟩; refine ⟨_, rfl, ?_⟩) | ((with_reducible refine zgc 59 ?_); refine zgo (some 14) Try.func59 #[.slice A0_1 l0_1.length c0_1, .int .i64 t148] ?_; (with_reducible refine (laws_szInt64SS.calls k _ _ l0_1 t148 t149 _ ?side1 HC0_1.out A7.out).mono ?_); (case side1 => repeat (first | exact (Kd.C_below HR0_1.out (zB2 HB.out GE147.out)) | (with_reducible refine Kd.C_alloc ?_ _) | (with_reducible refine Kd.C_drewN ?_ _) | (with_reducible refine Kd.C_drew ?_))); rintro e w' ⟨rfl, ⟨nd, rfl⟩⟩; refine ⟨_, rfl, ?_⟩))
   go_ret
   exact ⟨zE, zB2 HB.out GE147.out⟩
  ·rw [if_neg c8] at H
   have c8b0 : decide (t149 < 0) = false := decide_eq_false c8; clear c8; obtain rfl := Option.some.inj H
   go_enter Try.func24, Try.ntmps24
   go_wp2_with (first | ((with_reducible refine zd 2 ?_); refine zbx (N := 2) (cs := #[.slice A0_0 l0_0.length c0_0, .slice A0_1 l0_1.length c0_1]) (t := 38) ?_; intro gb147 hg w11 hbox hb; have BK147 := zQ (hbox); have GW147 := zgz hg HB.out; have GE147 := GW147; replace HB := zbs HB.out hb; clear hb hbox hg; have hcz12_0 := zc0 BK147.out; have hcz12_1 := zc1 BK147.out; have hfz12_0 := zfz BK147.out 0; have hfz12_1 := zfz BK147.out 1) | ((with_reducible refine zgc 58 ?_); refine zgo (some 8) Try.func58 #[.slice A0_0 l0_0.length c0_0, .int .i64 a1] ?_; (with_reducible refine (laws_szInt64S.calls _ _ l0_0 a1 t148 _ (zC HR0_0.out HB.out) HC0_0.out A3.out).mono ?_); rintro e w' ⟨rfl, ⟨nd, rfl⟩⟩; refine ⟨_, rfl, ?_⟩) | ((with_reducible refine zgc 59 ?_); refine zgo (some 14) Try.func59 #[.slice A0_1 l0_1.length c0_1, .int .i64 t148] ?_; (with_reducible refine (laws_szInt64SS.calls k _ _ l0_1 t148 t149 _ ?side1 HC0_1.out A7.out).mono ?_); (case side1 => repeat (first | exact (Kd.C_below HR0_1.out (zB2 HB.out GE147.out)) | (with_reducible refine Kd.C_alloc ?_ _) | (with_reducible refine Kd.C_drewN ?_ _) | (with_reducible refine Kd.C_drew ?_))); rintro e w' ⟨rfl, ⟨nd, rfl⟩⟩; refine ⟨_, rfl, ?_⟩))
   go_ret
   exact ⟨zE, zB2 HB.out GE147.out⟩

/-! ### laws_toInt64S: function 32 -/
def laws_toInt64S.l0 : Nat → List Int → List Int → Int → Option (List Int)
 | 0, _, _, _ => none
 | k + 1, x0, x3, x4 => if x4 < (x0.length : Int) then (if 0 ≤ x4 then (if x4 < (x3.length : Int) then (laws_toInt64S.l0 k x0 (x3.set (x4 : Int).toNat (rd x0 x4)) (wrap64 (x4 + 1))) else (none)) else (none)) else (some x3)
def laws_toInt64S.f (k : Nat) (l0 : List Int) : Option (List Int) := if 0 ≤ (l0.length : Int) then (if ((l0.length : Int) : Int).toNat ≤ 35184372088832 then (laws_toInt64S.l0 k l0 (List.replicate ((l0.length : Int) : Int).toNat 0) 0) else (none)) else (none)
theorem laws_toInt64S.mono_l : ∀ k, (∀ y0 y1 y2, LeO (laws_toInt64S.l0 k y0 y1 y2) (laws_toInt64S.l0 (k + 1) y0 y1 y2))
 | 0 => fun _ _ _ r h => by simp [laws_toInt64S.l0] at h
 | k + 1 => by
  have ih0 := laws_toInt64S.mono_l k
  ·intro y0 y1 y2
   unfold laws_toInt64S.l0
   (with_reducible repeat' first | apply ih0 | apply LeO.refl | apply LeO.none | refine LeO.ite ?_ ?_ | refine LeO.bind ?_ (fun _ => ?_))
   repeat' first | apply ih0 | apply LeO.none | refine LeO.ite ?_ ?_ | refine LeO.bind ?_ (fun _ => ?_)
theorem laws_toInt64S.mono : ∀ a0 k, LeO (laws_toInt64S.f k a0) (laws_toInt64S.f (k + 1) a0) := by
 intro a0 k
 have ih0 := laws_toInt64S.mono_l k
 unfold laws_toInt64S.f
 (with_reducible repeat' first | apply ih0 | apply LeO.refl | apply LeO.none | refine LeO.ite ?_ ?_ | refine LeO.bind ?_ (fun _ => ?_))
 repeat' first | apply ih0 | apply LeO.none | refine LeO.ite ?_ ?_ | refine LeO.bind ?_ (fun _ => ?_)
set_option maxHeartbeats 8000000 in
set_option maxRecDepth 100000 in
theorem laws_toInt64S.calls (k : Nat) (A0 : Option Addr) (c0 : Nat) (l0 : List Int) (r : List Int) (w : World) (hr0 : Kd.C (Kd.int .i64) w A0 l0.length l0) (hc0 : l0.length ≤ c0) (h : laws_toInt64S.f k l0 = some r) :
  Calls Try.prog 32 #[.slice A0 l0.length c0] w fun e w' => ∃ v0_ : Value, e = .returned (v0_) ∧ Kd.R (Kd.int .i64) 2 w' w.heap.size (fun _ => True) v0_ r ∧ Below w.heap.size w w' := by
 have HR0 := zQ hr0
 have HC0 := zQ hc0
 clear hr0 hc0
 have HB := zQ (Below.refl w.heap.size w)
 have H : (if 0 ≤ (l0.length : Int) then (if ((l0.length : Int) : Int).toNat ≤ 35184372088832 then (laws_toInt64S.l0 k l0 (List.replicate ((l0.length : Int) : Int).toNat 0) 0) else (none)) else (none)) = some r := h
 clear h
 by_cases c2 : 0 ≤ (l0.length : Int)
 ·rw [if_pos c2] at H
  have c2b0 := eq_true c2; have c2b1 : decide (0 ≤ (l0.length : Int)) = true := decide_eq_true c2; clear c2
  by_cases c3 : ((l0.length : Int) : Int).toNat ≤ 35184372088832
  ·rw [if_pos c3] at H
   have c3b0 := eq_true c3; have c3b1 : decide (((l0.length : Int) : Int).toNat ≤ 35184372088832) = true := decide_eq_true c3; clear c3; obtain ⟨y150, hy150⟩ : ∃ y_ : List Int, y_ = (List.replicate ((l0.length : Int) : Int).toNat 0) := ⟨_, rfl⟩; replace H : (laws_toInt64S.l0 k l0 y150 0) = some r := zh H; have Ny150 := zQ hy150; clear hy150; have H' := zQ H; clear H
   go_enter Try.func32, Try.ntmps32
   go_wp2_with (first | ((with_reducible refine zd 7 ?_); refine Kd.R_make (Kd.int .i64) _ 2 rfl (N := 7) rfl 24 _ _ rfl (l0.length : Int) rfl rfl Try.underlying24 (.int .i64 0) 8 info2 rfl (by decide) (by omega) 0 (ok := fun _ => True) (okp := fun _ => True) rfl (fun _ hk => hk) trivial (of_decide_eq_true zA) (Nat.le_trans (Nat.mul_le_mul_right _ (of_decide_eq_true zA : (l0.length : Int).toNat ≤ 35184372088832)) (by omega)) (Below.refl _ _) (Nat.le_refl _) ?_; intro v151 w4 ho5 hb hg_ hnew_; clear hg_ hnew_; (first | rw [← Ny150.out] at ho5 | (simp only [Int.reduceToNat] at ho5; rw [← Ny150.out] at ho5)); have HO152 := zQ (Kd.R_lower ho5 (below_size (zB HB.out))); replace HB := zbs HB.out hb; clear hb ho5))
   go_loopg [4] k (fun kq v4 w' => ∃ (x3_1 : List Int) (x4_1 : Int), v4 = .int .i64 x4_1 ∧ Aside0 (laws_toInt64S.l0 kq l0 x3_1 x4_1 = some r) ∧ Aside0 (kq ≤ k) ∧ Aside0 (Kd.R (Kd.int .i64) 2 w' w.heap.size (fun _ => True) v151 x3_1) ∧ Aside0 (Below w.heap.size w w'))
   case atStart => exact ⟨(y150), (0), (zF), H', ⟨Nat.le_refl _⟩, ⟨zR HO152.out⟩, ⟨zB HB.out⟩⟩
   case round =>
    clear H'; (try clear c2); (try clear c2b0); (try clear c2b1); (try clear p2); (try clear c3); (try clear c3b0); (try clear c3b1); obtain ⟨x3_1, x4_1, rfl, HA, HK1, HO_3, HB⟩ := hrel
    cases gk with
    | zero => exact absurd HA.out (by simp [laws_toInt64S.l0])
    | succ k1 =>
     have H := HA.out; clear HA
     simp only [laws_toInt64S.l0] at H
     by_cases c6 : x4_1 < (l0.length : Int)
     ·rw [if_pos c6] at H
      have c6b0 : decide (x4_1 < (l0.length : Int)) = true := decide_eq_true c6; clear c6
      by_cases c7 : 0 ≤ x4_1
      ·rw [if_pos c7] at H
       have c7b0 : decide (0 ≤ x4_1) = true := decide_eq_true c7; clear c7
       by_cases c8 : x4_1 < (x3_1.length : Int)
       ·rw [if_pos c8] at H
        have c8b0 : decide (x4_1 < (x3_1.length : Int)) = true := decide_eq_true c8; clear c8; obtain ⟨y154, hy154⟩ : ∃ y_ : List Int, y_ = (x3_1.set (x4_1 : Int).toNat (rd l0 x4_1)) := ⟨_, rfl⟩; replace H : (laws_toInt64S.l0 k1 l0 y154 (wrap64 (x4_1 + 1))) = some r := zh H; have Ny154 := zQ hy154; clear hy154; have H' := zQ H; clear H; have p153 : 0 ≤ (x4_1 : Int) := of_decide_eq_true zA; have q153 : x4_1 < (l0.length : Int) := of_decide_eq_true zA; obtain ⟨ad153, e153, hx153_0⟩ := Kd.at_int HR0.out x4_1 p153 q153
        cases e153
        replace hx153_0 := zw HB.out hx153_0; replace p153 := eq_true p153; replace q153 := eq_true q153; have p9 : 0 ≤ (x4_1 : Int) := of_decide_eq_true zA; have q9 : (x4_1 : Int) < ((x3_1.length : Int) : Int) := of_decide_eq_true zA; obtain ⟨go9, co9, eo9, gb9, gl9, cl9, HG9⟩ := Kd.R_form HO_3.out (by omega)
        (first | cases eo9 | (injection eo9 with ea_ en_ ec_; (first | subst ea_ | (injection ea_ with ea_; subst ea_)); subst ec_; clear en_))
        have GB9 := zQ gb9; have GG9 := zQ HG9; clear gb9 gl9 HG9; obtain ⟨hx9_0, hf9_0⟩ := Kd.R_celln 0 HO_3.out (x4_1 : Int) p9 q9; replace p9 := eq_true p9; replace q9 := eq_true q9; have HP10 := Kd.R_putg HO_3.out (x4_1 : Int) (rd l0 x4_1)
        go_wp2_with (first | ((with_reducible refine gate_store (t := 2) (p := 20) rfl ?_); refine store_event (t := 2) (p := 20) (v := ?vo_w11) (w1 := (wr.setCell ⟨go9, (x4_1 : Int).toNat, none⟩ (.int .i64 (rd l0 x4_1)))) ?hg ?ho ?hn ?hr ?_; (case ho => rfl); (case hg => rfl); (case hn => rfl); (case hr => first | (go_simp; done) | (go_simp; rfl)); intro w11 hw; have hg : wr.grownBy w11 (some go9) := (by rw [hw]; exact HP10.2); have hp_ : Kd.R (Kd.int .i64) 2 w11 w.heap.size (fun _ => True) (.slice (some ⟨go9, 0, none⟩) x3_1.length co9) y154 := (by rw [hw, Ny154.out]; exact HP10.1); clear HP10; replace HO_3 := zQ (hp_); replace HB := zQ ((by rw [hw]; exact below_set (HB.out) GB9.out : Below w.heap.size w w11)); clear hg hw hp_))
        go_roundg k1
        case measure => have := HK1.out; omega
        case rel => exact ⟨(y154), (wrap64 (x4_1 + 1)), (zF), H', ⟨by have := HK1.out; omega⟩, ⟨zR HO_3.out⟩, ⟨zB HB.out⟩⟩
       ·rw [if_neg c8] at H
        exact absurd H (by simp)
      ·rw [if_neg c7] at H
       exact absurd H (by simp)
     ·rw [if_neg c6] at H
      have c6b0 : decide (x4_1 < (l0.length : Int)) = false := decide_eq_false c6; clear c6; obtain rfl := Option.some.inj H
      go_wp2
      go_ret
      exact ⟨_, zE, zR HO_3.out, zB HB.out⟩
  ·rw [if_neg c3] at H
   exact absurd H (by simp)
 ·rw [if_neg c2] at H
  exact absurd H (by simp)

end Go.Proofs.Ythfpaldhdohnkaa.PFnExactRetuned
