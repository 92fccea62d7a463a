import Derived.Test.YtimjblgepbhoaaaHStays0
import Derived.Test.YtimjblgepbhoaaaHStaysd
import Derived.Test.YtimjblgepbhoaaaHStaysg
import Derived.Test.YtimjblgepbhoaaaHStaysq
namespace Go.Proofs.Ytimjblgepbhoaaa.PStays
noncomputable section
open Go.RowKit Go.Proofs.YtimjblgepbhoaaaW.PrintWords Go.Proofs.YtimjblgepbhoaaaW.PrintLast Go.Proofs.YtimjblgepbhoaaaW.PrintMore
attribute [local go_sem] max2_int min2_int max_two min_two max_three min_three max_four min_four   -- for this text's walks alone
set_option linter.unusedVariables false
set_option linter.unusedSimpArgs false
set_option maxHeartbeats 8000000
set_option maxRecDepth 100000

noncomputable def spec_l11Holds.f (k : Nat) (l0_0 : List S164) (l0_1 : List S115) (l1 : List S113) (l2 : List Int) : Option (List Int × Int × Bool) :=
 (spec_l09Solve.f k l0_0 l0_1 l1 l2).bind fun x => if x.2.2 = true then (spec_l09Pushed.f k l0_0 l0_1 x.1 x.2.1).bind fun p => if 0 < p.length then some ([], 0, false) else some (x.1, x.2.1, true) else some ([], 0, false)
theorem spec_l11Holds.calls (k : Nat) (g0 : Nat) (A0_0 : Option Addr) (c0_0 : Nat) (l0_0 : List S164) (A0_1 : Option Addr) (c0_1 : Nat) (l0_1 : List S115) (A1 : Option Addr) (c1 : Nat) (l1 : List S113) (A2 : Option Addr) (c2 : Nat) (l2 : List Int) (r1 : List Int) (r2 : Int) (r3 : Bool) (w : World) (NB : w.heap[g0]? = some (.cells #[.slice A0_0 l0_0.length c0_0, .slice A0_1 l0_1.length c0_1] 27 (0, 0))) (IA : Kd.C k164 w A0_0 l0_0.length l0_0) (KA : l0_0.length ≤ c0_0) (GA : Kd.C k115 w A0_1 l0_1.length l0_1) (JA : l0_1.length ≤ c0_1) (CB : Kd.C k113 w A1 l1.length l1) (LB : l1.length ≤ c1) (BB : Kd.C (Kd.int .i64) w A2 l2.length l2) (KB : l2.length ≤ c2) (h : spec_l11Holds.f k l0_0 l0_1 l1 l2 = some (r1, r2, r3)) :
  Calls Try.prog 74 #[.pointer (some ⟨g0, 0, none⟩), .slice A1 l1.length c1, .slice A2 l2.length c2] w fun e w' => ∃ v0_ : Value, e = .returned (.tuple #[.agg #[v0_, .int .i64 r2], .bool r3]) ∧ Kd.R (Kd.int .i64) 2 w' w.heap.size (fun _ => True) v0_ r1 ∧ Below w.heap.size w w' := by
 have WD := Try.underlying31
 have WC := Try.underlying35
 unfold spec_l11Holds.f at h
 obtain ⟨⟨x1, x2, x3⟩, h0, h⟩ := Option.bind_eq_some_iff.mp h
 have HBK := zQ NB
 have sB := zQ IA
 have xB := zQ KA
 have jB := zQ GA
 have lB := zQ JA
 have vB := zQ CB
 have wB := zQ LB
 have gD := zQ BB
 have hD := zQ KB
 have H0 := zQ h0
 clear NB IA KA GA JA CB LB BB KB h0
 cases x3 with
 | false =>
  obtain ⟨rfl, rfl, rfl⟩ : r1 = [] ∧ r2 = 0 ∧ r3 = false := by
   simp at h
   exact ⟨h.1.symm ▸ rfl, h.2.1.symm, h.2.2⟩
  clear h
  go_enter Try.func74, Try.ntmps74
  go_wp2_with (first
   | ((with_reducible refine zd 6 ?_); refine zbx (N := 6) (cs := #[.slice none 0 0, .int .i64 0]) (t := 35) ?_; intro gr hgr w1 OA RA; have HB1 := zQ RA; have BR1 := zQ OA; have GR := zQ (show w.heap.size ≤ gr from by rw [hgr]; exact Nat.le_refl _); clear OA RA hgr)
   | (go_at_call 80; refine (spec_l09Solve.calls k g0 A0_0 c0_0 l0_0 A0_1 c0_1 l0_1 A1 c1 l1 A2 c2 l2 x1 x2 false _ (blk_below HBK.out HB1.out) (Kd.C_below sB.out HB1.out) xB.out (Kd.C_below jB.out HB1.out) lB.out (Kd.C_below vB.out HB1.out) wB.out (Kd.C_below gD.out HB1.out) hD.out H0.out).mono ?_; rintro e w2 ⟨v2, rfl, NA, EA⟩; obtain ⟨Ax, cx, ev2⟩ := Kd.R_slice NA; subst ev2; have ZB := zQ NA; have HB2 := zQ (below_step HB1.out EA); have BR2 := zQ (blk_below BR1.out EA); have H12 := zQ (show w1.heap.size ≤ w2.heap.size ∧ gr < w1.heap.size from ⟨below_size EA, blk_lt BR1.out⟩); clear NA EA)
   | ((with_reducible refine zd 8 ?_); refine zbx (N := 8) (cs := #[.slice none 0 0, .int .i64 0]) (t := 35) ?_; intro gx hgx w3 AA FA; have GX := zQ (show w.heap.size ≤ gx ∧ gr ≠ gx from by have := H12.out; rw [hgx]; exact ⟨below_size HB2.out, by omega⟩); have XB := zQ (Kd.R_below (R_tell (ok' := fun k => k ≠ gr ∧ k ≠ gx) rfl ZB.out (fun k e h_ hb_ hl_ => ⟨by have := H12.out; omega, by rw [hgx]; exact Nat.ne_of_lt hl_⟩)) FA); have HB3 := zQ (below_step HB2.out FA); have BR3 := zQ (blk_below BR2.out FA); have BX3 := zQ AA; have cx0 : w3.cell? ⟨gx, 0, none⟩ = some (.slice none 0 0) := (blk_cell AA 0).trans rfl; have cx1 : w3.cell? ⟨gx, 1, none⟩ = some (.int .i64 0) := (blk_cell AA 1).trans rfl; have fx0 := zfz AA 0; have fx1 := zfz AA 1; clear AA FA hgx)
   | ((with_reducible refine gate_store (t := 35) (p := 8) rfl ?_); refine store_event (t := 35) (p := 8) (v := ?vo_w4) (w1 := (w3.setCell ⟨gx, 0, none⟩ (.slice Ax x1.length cx)).setCell ⟨gx, 1, none⟩ (.int .i64 x2)) ?hg ?ho ?hn ?hr ?_; (case ho => rfl); (case hg => rfl); (case hn => rfl); (case hr => first | (go_simp; done) | (go_simp; rfl)); intro w4 BA; have BX4 := zQ (show w4.heap[gx]? = some (.cells #[.slice Ax x1.length cx, .int .i64 x2] 35 (0, 0)) from by rw [BA]; exact blk_put (cs := #[.slice Ax x1.length cx, .int .i64 0]) (blk_put (cs := #[.slice none 0 0, .int .i64 0]) BX3.out 0 _ rfl) 1 _ rfl); have BR4 := zQ (show w4.heap[gr]? = some (.cells #[.slice none 0 0, .int .i64 0] 35 (0, 0)) from by rw [BA]; exact (Below.heap_setCell _ ⟨gx, 1, none⟩ _ gr GX.out.2).trans ((Below.heap_setCell _ ⟨gx, 0, none⟩ _ gr GX.out.2).trans BR3.out)); have kB := zQ (show Kd.R (Kd.int .i64) 2 w4 w1.heap.size (fun k => k ≠ gr ∧ k ≠ gx) (.slice Ax x1.length cx) x1 from by rw [BA]; exact Kd.R_far (p := ⟨gx, 1, none⟩) (Kd.R_far (p := ⟨gx, 0, none⟩) XB.out (fun _ hk => hk.2) _) (fun _ hk => hk.2) _); have HB4 := zQ (show Below w.heap.size w w4 from by rw [BA]; exact below_set (below_set HB3.out GX.out.1) GX.out.1); clear BA cx0 cx1 fx0 fx1; have cr0 : w4.cell? ⟨gr, 0, none⟩ = some (.slice none 0 0) := (blk_cell BR4.out 0).trans rfl; have cr1 : w4.cell? ⟨gr, 1, none⟩ = some (.int .i64 0) := (blk_cell BR4.out 1).trans rfl; have fr0 := zfz BR4.out 0; have fr1 := zfz BR4.out 1))
  refine bodyPost_ret (results_ct rfl _ _ gr 35 #[.slice none 0 0, .int .i64 0] (0, 0) _ rfl (by refine zb ?_; refine blk_put (cs := #[.slice none 0 0, .int .i64 0]) ?_ 1 _ rfl; refine blk_put (cs := #[.slice none 0 0, .int .i64 0]) ?_ 0 _ rfl; refine zb ?_; exact BR4.out) Try.underlying35 rfl (by kernel_rfl)) rfl ?_
  exact ⟨_, by first | rfl | (simp; done), Kd.R_nil _ _ _ _ _, by repeat (first | (with_reducible first | exact HB4.out | apply pw_below_drewN | apply below_drew1 | refine below_set ?_ GR.out) | exact HB4.out)⟩
 | true =>
  simp only [if_true] at h
  obtain ⟨p, hp, h⟩ := Option.bind_eq_some_iff.mp h; have HP := zQ hp; clear hp
  by_cases hpl : 0 < p.length
  ·rw [if_pos hpl] at h
   simp only [Option.some.injEq, Prod.mk.injEq] at h
   obtain ⟨rfl, rfl, rfl⟩ := h; have hpb : decide ((p.length : Int) > 0) = true := decide_eq_true (by omega); have YC : decide (0 < (p.length : Int)) = true := decide_eq_true (by omega); have XC : decide (0 < p.length) = true := decide_eq_true hpl
   go_enter Try.func74, Try.ntmps74
   go_wp2_with (first
    | ((with_reducible refine zd 6 ?_); refine zbx (N := 6) (cs := #[.slice none 0 0, .int .i64 0]) (t := 35) ?_; intro gr hgr w1 OA RA; have HB1 := zQ RA; have BR1 := zQ OA; have GR := zQ (show w.heap.size ≤ gr from by rw [hgr]; exact Nat.le_refl _); clear OA RA hgr)
    | (go_at_call 80; refine (spec_l09Solve.calls k g0 A0_0 c0_0 l0_0 A0_1 c0_1 l0_1 A1 c1 l1 A2 c2 l2 x1 x2 true _ (blk_below HBK.out HB1.out) (Kd.C_below sB.out HB1.out) xB.out (Kd.C_below jB.out HB1.out) lB.out (Kd.C_below vB.out HB1.out) wB.out (Kd.C_below gD.out HB1.out) hD.out H0.out).mono ?_; rintro e w2 ⟨v2, rfl, NA, EA⟩; obtain ⟨Ax, cx, ev2⟩ := Kd.R_slice NA; subst ev2; have ZB := zQ NA; have HB2 := zQ (below_step HB1.out EA); have BR2 := zQ (blk_below BR1.out EA); have H12 := zQ (show w1.heap.size ≤ w2.heap.size ∧ gr < w1.heap.size from ⟨below_size EA, blk_lt BR1.out⟩); clear NA EA)
    | ((with_reducible refine zd 8 ?_); refine zbx (N := 8) (cs := #[.slice none 0 0, .int .i64 0]) (t := 35) ?_; intro gx hgx w3 AA FA; have GX := zQ (show w.heap.size ≤ gx ∧ gr ≠ gx from by have := H12.out; rw [hgx]; exact ⟨below_size HB2.out, by omega⟩); have XB := zQ (Kd.R_below (R_tell (ok' := fun k => k ≠ gr ∧ k ≠ gx) rfl ZB.out (fun k e h_ hb_ hl_ => ⟨by have := H12.out; omega, by rw [hgx]; exact Nat.ne_of_lt hl_⟩)) FA); have HB3 := zQ (below_step HB2.out FA); have BR3 := zQ (blk_below BR2.out FA); have BX3 := zQ AA; have cx0 : w3.cell? ⟨gx, 0, none⟩ = some (.slice none 0 0) := (blk_cell AA 0).trans rfl; have cx1 : w3.cell? ⟨gx, 1, none⟩ = some (.int .i64 0) := (blk_cell AA 1).trans rfl; have fx0 := zfz AA 0; have fx1 := zfz AA 1; clear AA FA hgx)
    | ((with_reducible refine gate_store (t := 35) (p := 8) rfl ?_); refine store_event (t := 35) (p := 8) (v := ?vo_w4) (w1 := (w3.setCell ⟨gx, 0, none⟩ (.slice Ax x1.length cx)).setCell ⟨gx, 1, none⟩ (.int .i64 x2)) ?hg ?ho ?hn ?hr ?_; (case ho => rfl); (case hg => rfl); (case hn => rfl); (case hr => first | (go_simp; done) | (go_simp; rfl)); intro w4 BA; have BX4 := zQ (show w4.heap[gx]? = some (.cells #[.slice Ax x1.length cx, .int .i64 x2] 35 (0, 0)) from by rw [BA]; exact blk_put (cs := #[.slice Ax x1.length cx, .int .i64 0]) (blk_put (cs := #[.slice none 0 0, .int .i64 0]) BX3.out 0 _ rfl) 1 _ rfl); have BR4 := zQ (show w4.heap[gr]? = some (.cells #[.slice none 0 0, .int .i64 0] 35 (0, 0)) from by rw [BA]; exact (Below.heap_setCell _ ⟨gx, 1, none⟩ _ gr GX.out.2).trans ((Below.heap_setCell _ ⟨gx, 0, none⟩ _ gr GX.out.2).trans BR3.out)); have kB := zQ (show Kd.R (Kd.int .i64) 2 w4 w1.heap.size (fun k => k ≠ gr ∧ k ≠ gx) (.slice Ax x1.length cx) x1 from by rw [BA]; exact Kd.R_far (p := ⟨gx, 1, none⟩) (Kd.R_far (p := ⟨gx, 0, none⟩) XB.out (fun _ hk => hk.2) _) (fun _ hk => hk.2) _); have HB4 := zQ (show Below w.heap.size w w4 from by rw [BA]; exact below_set (below_set HB3.out GX.out.1) GX.out.1); clear BA cx0 cx1 fx0 fx1; have cr0 : w4.cell? ⟨gr, 0, none⟩ = some (.slice none 0 0) := (blk_cell BR4.out 0).trans rfl; have cr1 : w4.cell? ⟨gr, 1, none⟩ = some (.int .i64 0) := (blk_cell BR4.out 1).trans rfl; have fr0 := zfz BR4.out 0; have fr1 := zfz BR4.out 1)
    | ((with_reducible refine zgc 81 ?_); (try (refine gate_guard (by rfl) ?_; dsimp only)); refine goesL_ (some 21) rfl rfl Try.func81 (by kernel_rfl) rfl #[.pointer (some ⟨g0, 0, none⟩), .pointer (some ⟨gx, 0, none⟩)] rfl (by (try simp only [List.map_toArray, List.map_cons, List.map_nil]); first | done | rfl) ?_; (with_reducible refine (spec_l09Pushed.calls k g0 A0_0 c0_0 l0_0 A0_1 c0_1 l0_1 gx Ax cx x1 x2 p _ (blk_below HBK.out HB4.out) BX4.out (Kd.C_below sB.out HB4.out) xB.out (Kd.C_below jB.out HB4.out) lB.out (Kd.R_reads' kB.out).2.2 (Kd.R_reads' kB.out).2.1 HP.out).mono ?_); rintro e w5 ⟨v5, rfl, EB, MA⟩; refine ⟨_, rfl, ?_⟩; obtain ⟨Ap, cp, ev5⟩ := Kd.R_slice EB; subst ev5; have HB5 := zQ (below_step HB4.out MA); have BR5 := zQ (blk_below BR4.out MA); have BX5 := zQ (blk_below BX4.out MA); have HD := zQ (Kd.R_below kB.out MA); have cr0 : w5.cell? ⟨gr, 0, none⟩ = some (.slice none 0 0) := (blk_cell BR5.out 0).trans rfl; have cr1 : w5.cell? ⟨gr, 1, none⟩ = some (.int .i64 0) := (blk_cell BR5.out 1).trans rfl; have fr0 := zfz BR5.out 0; have fr1 := zfz BR5.out 1; have cx0 : w5.cell? ⟨gx, 0, none⟩ = some (.slice Ax x1.length cx) := (blk_cell BX5.out 0).trans rfl; have cx1 : w5.cell? ⟨gx, 1, none⟩ = some (.int .i64 x2) := (blk_cell BX5.out 1).trans rfl; clear EB MA))
   refine bodyPost_ret (results_ct rfl _ _ gr 35 #[.slice none 0 0, .int .i64 0] (0, 0) _ rfl (by refine zb ?_; refine blk_put (cs := #[.slice none 0 0, .int .i64 0]) ?_ 1 _ rfl; refine blk_put (cs := #[.slice none 0 0, .int .i64 0]) ?_ 0 _ rfl; refine zb ?_; exact BR5.out) Try.underlying35 rfl (by kernel_rfl)) rfl ?_
   exact ⟨_, by first | rfl | (simp; done), Kd.R_nil _ _ _ _ _, by repeat (first | (with_reducible first | exact HB5.out | apply pw_below_drewN | apply below_drew1 | refine below_set ?_ GR.out) | exact HB5.out)⟩
  ·rw [if_neg hpl] at h
   simp only [Option.some.injEq, Prod.mk.injEq] at h
   obtain ⟨rfl, rfl, rfl⟩ := h; have hpb : decide ((p.length : Int) > 0) = false := decide_eq_false (by omega); have YC : decide (0 < (p.length : Int)) = false := decide_eq_false (by omega); have XC : decide (0 < p.length) = false := decide_eq_false hpl
   go_enter Try.func74, Try.ntmps74
   go_wp2_with (first
    | ((with_reducible refine zd 6 ?_); refine zbx (N := 6) (cs := #[.slice none 0 0, .int .i64 0]) (t := 35) ?_; intro gr hgr w1 OA RA; have HB1 := zQ RA; have BR1 := zQ OA; have GR := zQ (show w.heap.size ≤ gr from by rw [hgr]; exact Nat.le_refl _); clear OA RA hgr)
    | (go_at_call 80; refine (spec_l09Solve.calls k g0 A0_0 c0_0 l0_0 A0_1 c0_1 l0_1 A1 c1 l1 A2 c2 l2 x1 x2 true _ (blk_below HBK.out HB1.out) (Kd.C_below sB.out HB1.out) xB.out (Kd.C_below jB.out HB1.out) lB.out (Kd.C_below vB.out HB1.out) wB.out (Kd.C_below gD.out HB1.out) hD.out H0.out).mono ?_; rintro e w2 ⟨v2, rfl, NA, EA⟩; obtain ⟨Ax, cx, ev2⟩ := Kd.R_slice NA; subst ev2; have ZB := zQ NA; have HB2 := zQ (below_step HB1.out EA); have BR2 := zQ (blk_below BR1.out EA); have H12 := zQ (show w1.heap.size ≤ w2.heap.size ∧ gr < w1.heap.size from ⟨below_size EA, blk_lt BR1.out⟩); clear NA EA)
    | ((with_reducible refine zd 8 ?_); refine zbx (N := 8) (cs := #[.slice none 0 0, .int .i64 0]) (t := 35) ?_; intro gx hgx w3 AA FA; have GX := zQ (show w.heap.size ≤ gx ∧ gr ≠ gx from by have := H12.out; rw [hgx]; exact ⟨below_size HB2.out, by omega⟩); have XB := zQ (Kd.R_below (R_tell (ok' := fun k => k ≠ gr ∧ k ≠ gx) rfl ZB.out (fun k e h_ hb_ hl_ => ⟨by have := H12.out; omega, by rw [hgx]; exact Nat.ne_of_lt hl_⟩)) FA); have HB3 := zQ (below_step HB2.out FA); have BR3 := zQ (blk_below BR2.out FA); have BX3 := zQ AA; have cx0 : w3.cell? ⟨gx, 0, none⟩ = some (.slice none 0 0) := (blk_cell AA 0).trans rfl; have cx1 : w3.cell? ⟨gx, 1, none⟩ = some (.int .i64 0) := (blk_cell AA 1).trans rfl; have fx0 := zfz AA 0; have fx1 := zfz AA 1; clear AA FA hgx)
    | ((with_reducible refine gate_store (t := 35) (p := 8) rfl ?_); refine store_event (t := 35) (p := 8) (v := ?vo_w4) (w1 := (w3.setCell ⟨gx, 0, none⟩ (.slice Ax x1.length cx)).setCell ⟨gx, 1, none⟩ (.int .i64 x2)) ?hg ?ho ?hn ?hr ?_; (case ho => rfl); (case hg => rfl); (case hn => rfl); (case hr => first | (go_simp; done) | (go_simp; rfl)); intro w4 BA; have BX4 := zQ (show w4.heap[gx]? = some (.cells #[.slice Ax x1.length cx, .int .i64 x2] 35 (0, 0)) from by rw [BA]; exact blk_put (cs := #[.slice Ax x1.length cx, .int .i64 0]) (blk_put (cs := #[.slice none 0 0, .int .i64 0]) BX3.out 0 _ rfl) 1 _ rfl); have BR4 := zQ (show w4.heap[gr]? = some (.cells #[.slice none 0 0, .int .i64 0] 35 (0, 0)) from by rw [BA]; exact (Below.heap_setCell _ ⟨gx, 1, none⟩ _ gr GX.out.2).trans ((Below.heap_setCell _ ⟨gx, 0, none⟩ _ gr GX.out.2).trans BR3.out)); have kB := zQ (show Kd.R (Kd.int .i64) 2 w4 w1.heap.size (fun k => k ≠ gr ∧ k ≠ gx) (.slice Ax x1.length cx) x1 from by rw [BA]; exact Kd.R_far (p := ⟨gx, 1, none⟩) (Kd.R_far (p := ⟨gx, 0, none⟩) XB.out (fun _ hk => hk.2) _) (fun _ hk => hk.2) _); have HB4 := zQ (show Below w.heap.size w w4 from by rw [BA]; exact below_set (below_set HB3.out GX.out.1) GX.out.1); clear BA cx0 cx1 fx0 fx1; have cr0 : w4.cell? ⟨gr, 0, none⟩ = some (.slice none 0 0) := (blk_cell BR4.out 0).trans rfl; have cr1 : w4.cell? ⟨gr, 1, none⟩ = some (.int .i64 0) := (blk_cell BR4.out 1).trans rfl; have fr0 := zfz BR4.out 0; have fr1 := zfz BR4.out 1)
    | ((with_reducible refine zgc 81 ?_); (try (refine gate_guard (by rfl) ?_; dsimp only)); refine goesL_ (some 21) rfl rfl Try.func81 (by kernel_rfl) rfl #[.pointer (some ⟨g0, 0, none⟩), .pointer (some ⟨gx, 0, none⟩)] rfl (by (try simp only [List.map_toArray, List.map_cons, List.map_nil]); first | done | rfl) ?_; (with_reducible refine (spec_l09Pushed.calls k g0 A0_0 c0_0 l0_0 A0_1 c0_1 l0_1 gx Ax cx x1 x2 p _ (blk_below HBK.out HB4.out) BX4.out (Kd.C_below sB.out HB4.out) xB.out (Kd.C_below jB.out HB4.out) lB.out (Kd.R_reads' kB.out).2.2 (Kd.R_reads' kB.out).2.1 HP.out).mono ?_); rintro e w5 ⟨v5, rfl, EB, MA⟩; refine ⟨_, rfl, ?_⟩; obtain ⟨Ap, cp, ev5⟩ := Kd.R_slice EB; subst ev5; have HB5 := zQ (below_step HB4.out MA); have BR5 := zQ (blk_below BR4.out MA); have BX5 := zQ (blk_below BX4.out MA); have HD := zQ (Kd.R_below kB.out MA); have cr0 : w5.cell? ⟨gr, 0, none⟩ = some (.slice none 0 0) := (blk_cell BR5.out 0).trans rfl; have cr1 : w5.cell? ⟨gr, 1, none⟩ = some (.int .i64 0) := (blk_cell BR5.out 1).trans rfl; have fr0 := zfz BR5.out 0; have fr1 := zfz BR5.out 1; have cx0 : w5.cell? ⟨gx, 0, none⟩ = some (.slice Ax x1.length cx) := (blk_cell BX5.out 0).trans rfl; have cx1 : w5.cell? ⟨gx, 1, none⟩ = some (.int .i64 x2) := (blk_cell BX5.out 1).trans rfl; clear EB MA))
   refine bodyPost_ret (results_ct rfl _ _ gr 35 #[.slice Ax x1.length cx, .int .i64 x2] (0, 0) _ rfl (by refine zb ?_; refine blk_put (cs := #[.slice Ax x1.length cx, .int .i64 0]) ?_ 1 _ rfl; refine blk_put (cs := #[.slice none 0 0, .int .i64 0]) ?_ 0 _ rfl; refine zb ?_; exact BR5.out) Try.underlying35 rfl (by kernel_rfl)) rfl ?_
   exact ⟨_, by first | rfl | (simp; done), by (with_reducible repeat (first | apply Kd.R_alloc | apply Kd.R_drewN | apply Kd.R_drew)); exact Kd.R_lower (Kd.R_mono (Kd.R_far (p := ⟨gr, 1, none⟩) (Kd.R_far (p := ⟨gr, 0, none⟩) HD.out (fun _ hk => hk.1) _) (fun _ hk => hk.1) _) (fun _ _ => trivial)) (below_size HB1.out), by repeat (first | (with_reducible first | exact HB5.out | apply pw_below_drewN | apply below_drew1 | refine below_set ?_ GR.out) | exact HB5.out)⟩

def spec_l11Part.l0 : Nat → List Int → Int → List Int → Int → Option (List Int)
 | 0, _, _, _, _ => none
 | k + 1, x0, x1, x5, x6 => if x6 < (x0.length : Int) then (if 0 ≤ (IntKind.u64.wrap (x6)) then (if (Go.bits .and .i64 (shr .i64 x1 (IntKind.u64.wrap (x6))) 1) = 1 then (if 0 ≤ x6 then (if x5.length < 17592186044416 then (spec_l11Part.l0 k x0 x1 (x5 ++ [rd x0 x6]) (wrap64 (x6 + 1))) else (none)) else (none)) else (spec_l11Part.l0 k x0 x1 x5 (wrap64 (x6 + 1)))) else (none)) else (some x5)
def spec_l11Part.f (k : Nat) (l0 : List Int) (a1 : Int) : Option (List Int) := spec_l11Part.l0 k l0 a1 (([] : List Int)) 0
theorem spec_l11Part.calls (k : Nat) (A0 : Option Addr) (c0 : Nat) (l0 : List Int) (a1 : Int) (r : List Int) (w : World) (DB : Kd.C (Kd.int .i64) w A0 l0.length l0) (MB : l0.length ≤ c0) (h : spec_l11Part.f k l0 a1 = some r) :
  Calls Try.prog 111 #[.slice A0 l0.length c0, .int .i64 a1] w fun e w' => ∃ v0_ : Value, e = .returned (v0_) ∧ Kd.R (Kd.int .i64) 2 w' w.heap.size (fun _ => True) v0_ r ∧ Below w.heap.size w w' := by
 have sB := zQ DB
 have xB := zQ MB
 clear DB MB
 have HB := zQ (Below.refl w.heap.size w)
 have H : (spec_l11Part.l0 k l0 a1 (([] : List Int)) 0) = some r := h
 clear h
 obtain ⟨AB, gB⟩ : ∃ y_ : List Int, y_ = (([] : List Int)) := ⟨_, rfl⟩
 replace H : (spec_l11Part.l0 k l0 a1 AB 0) = some r := zh H
 have iB := zQ gB
 clear gB
 have H' := zQ H
 clear H
 go_enter Try.func111, Try.ntmps111
 go_wp2_with (first | ((with_reducible refine zd 7 ?_); refine Kd.R_lit (Kd.int .i64) _ 2 ?hg (N := 7) ?hd (xs := ([] : List Int)) (inner := []) (ok := fun _ => True) (okp := fun _ => True) ?hr ?hp (fun _ hk => hk) trivial (Below.refl _ _) (Nat.le_refl _) (by simp) ?_; (case hd => rfl); (case hg => rfl); (case hr => first | (go_simp; done) | (go_simp; rfl)); (case hp => exact (Reps.none _ _)); intro TD w3 FB hb hg_ hnew_; clear hg_ hnew_; (first | rw [← iB.out] at FB | (simp only [Int.reduceToNat] at FB; rw [← iB.out] at FB)); have bC := zQ (Kd.R_lower FB (below_size (zB HB.out))); replace HB := zbs HB.out hb; clear hb FB))
 go_loopg [5, 6] k (fun kq v5 v6 w' => ∃ (yA : List Int) (rA : Int), v6 = .int .i64 rA ∧ Aside0 (spec_l11Part.l0 kq l0 a1 yA rA = some r) ∧ Aside0 (kq ≤ k) ∧ Aside0 (Kd.R (Kd.int .i64) 2 w' w.heap.size (fun _ => True) v5 yA) ∧ Aside0 (Below w.heap.size w w'))
 case atStart => exact ⟨(AB), (0), (zF), H', ⟨Nat.le_refl _⟩, ⟨zR bC.out⟩, ⟨zB HB.out⟩⟩
 case round =>
  clear H'; (try clear c1); (try clear p2); obtain ⟨yA, rA, rfl, HA, OC, dB, HB⟩ := hrel
  cases gk with
  | zero => exact absurd HA.out (by simp [spec_l11Part.l0])
  | succ k1 =>
   have H := HA.out; clear HA
   simp only [spec_l11Part.l0] at H
   by_cases c5 : rA < (l0.length : Int)
   ·rw [if_pos c5] at H
    have fD := decide_eq_true c5; clear c5; obtain ⟨qB, JB⟩ : ∃ j_ : Int, (IntKind.u64.wrap (rA)) = j_ := ⟨_, rfl⟩
    replace H : (if 0 ≤ (qB) then (if (Go.bits .and .i64 (shr .i64 a1 (qB)) 1) = 1 then (if 0 ≤ rA then (if yA.length < 17592186044416 then (spec_l11Part.l0 k1 l0 a1 (yA ++ [rd l0 rA]) (wrap64 (rA + 1))) else (none)) else (none)) else (spec_l11Part.l0 k1 l0 a1 yA (wrap64 (rA + 1)))) else (none)) = some r := by first | (rw [JB] at H; exact H) | (simp only [JB] at H ⊢; exact H)
    by_cases c7 : 0 ≤ (qB)
    ·rw [if_pos c7] at H
     have iE := eq_true c7; have hE := decide_eq_true c7; clear c7; obtain ⟨eB, ZA⟩ : ∃ j_ : Int, (shr .i64 a1 (qB)) = j_ := ⟨_, rfl⟩
     replace H : (if (Go.bits .and .i64 (eB) 1) = 1 then (if 0 ≤ rA then (if yA.length < 17592186044416 then (spec_l11Part.l0 k1 l0 a1 (yA ++ [rd l0 rA]) (wrap64 (rA + 1))) else (none)) else (none)) else (spec_l11Part.l0 k1 l0 a1 yA (wrap64 (rA + 1)))) = some r := by first | (rw [ZA] at H; exact H) | (simp only [ZA] at H ⊢; exact H)
     have hji8_ : (a1 / 2 ^ min (qB).toNat 64) = eB := ZA; have hji8z : (qB) ≤ 64 → (a1 / 2 ^ (qB).toNat) = eB := shr_small ZA
     by_cases c9 : (Go.bits .and .i64 (eB) 1) = 1
     ·rw [if_pos c9] at H
      have eD : ((Go.bits .and .i64 (eB) 1) == 1) = true := beq_iff_eq.mpr c9; have dD : ((Go.bits .and .i64 (eB) 1) != 1) = false := bne_eq_false_iff_eq.mpr c9; clear c9
      by_cases NC : 0 ≤ rA
      ·rw [if_pos NC] at H
       have FD := decide_eq_true NC; clear NC
       by_cases MC : yA.length < 17592186044416
       ·rw [if_pos MC] at H
        have RB := zQ MC; clear MC; obtain ⟨yB, fB⟩ : ∃ y_ : List Int, y_ = (yA ++ [rd l0 rA]) := ⟨_, rfl⟩; replace H : (spec_l11Part.l0 k1 l0 a1 yB (wrap64 (rA + 1))) = some r := zh H; have QB := zQ fB; clear fB; have H' := zQ H; clear H; have pB : 0 ≤ (rA : Int) := zD; have oB : rA < (l0.length : Int) := zD; obtain ⟨GD, bD, QA⟩ := Kd.at_int sB.out rA pB oB
        cases bD
        replace QA := zw HB.out QA; replace pB := eq_true pB; replace oB := eq_true oB
        go_wp2_with (first | ((with_reducible refine gate_builtin (b := .append) (xs := #[.tmp 20, .tmp 25]) rfl ?_); at_builtin; refine Kd.R_append (Kd.int .i64) (w0 := w) w.heap.size rfl (.tmp 20) (.tmp 25) 31 2 (.int .i64 0) 8 rfl Try.underlying31 info2 rfl (by decide) (by omega) u5 yA (rd l0 rA) [.int .i64 (rd l0 rA)] (fun _ => True) (fun _ => False) rfl rfl ?aP (fun _ hk => hk.elim) ?aF ?aO ?aB ?aS ?aL ?_; (case aP => exact rfl); (case aB => exact (zB HB.out)); (case aF => exact (fun _ _ => trivial)); (case aO => exact (zR dB.out)); (case aS => exact (below_size (zB HB.out))); (case aL => have := RB.out; omega); intro SD mB ho hb hg hat; rw [← QB.out] at ho; have aC := zQ (ho); replace HB := zQ (hb); clear dB ho hb hg hat))
        go_roundg k1
        case measure => have := OC.out; omega
        case rel => exact ⟨(yB), (wrap64 (rA + 1)), (zF), H', ⟨by have := OC.out; omega⟩, ⟨zR aC.out⟩, ⟨zB HB.out⟩⟩
       ·rw [if_neg MC] at H
        exact absurd H (by simp)
      ·rw [if_neg NC] at H
       exact absurd H (by simp)
     ·rw [if_neg c9] at H
      have eD : ((Go.bits .and .i64 (eB) 1) == 1) = false := beq_eq_false_iff_ne.mpr c9; have dD : ((Go.bits .and .i64 (eB) 1) != 1) = true := bne_iff_ne.mpr c9; have H' := zQ H; clear H
      go_wp2
      go_roundg k1
      case measure => have := OC.out; omega
      case rel => exact ⟨(yA), (wrap64 (rA + 1)), (zF), H', ⟨by have := OC.out; omega⟩, ⟨zR dB.out⟩, ⟨zB HB.out⟩⟩
    ·rw [if_neg c7] at H
     exact absurd H (by simp)
   ·rw [if_neg c5] at H
    have fD := decide_eq_false c5; clear c5; obtain rfl := Option.some.inj H
    go_wp2
    go_ret
    exact ⟨_, zE, zR dB.out, zB HB.out⟩

def combs (bs : List Int) : Nat → List Int → Nat → List (List Int)
 | 0, list, _ => [list]
 | m + 1, list, i => (List.range' i (bs.length - m - i)).flatMap (fun j => combs bs m (list ++ [bs.getD j 0]) (j + 1))
structure BlW (w0 : World) (go gb ge : Nat) (A : Option Addr) (n cp : Nat) (v : Value) (outs : List (List Int)) (w : World) : Prop where
 bo : w.heap[go]? = some (.cells #[v] 88 (0, 0))
 bb : w.heap[gb]? = some (.cells #[.slice A n cp] 31 (0, 0))
 be : w.heap[ge]? = some (.cells #[.func (.func 116) #[] #[.pointer (some ⟨go, 0, none⟩), .pointer (some ⟨gb, 0, none⟩), .pointer (some ⟨ge, 0, none⟩)]] 136 (0, 0))
 os : Kd.S (Kd.slice 2 (Kd.int .i64)) 31 w w0.heap.size (fun k => w0.heap.size ≤ k ∧ k ≠ go ∧ k ≠ gb ∧ k ≠ ge) v outs
 bel : Below w0.heap.size w0 w
 lo : w0.heap.size ≤ go ∧ w0.heap.size ≤ gb ∧ w0.heap.size ≤ ge
 ne : go ≠ gb ∧ go ≠ ge
theorem BlW.below {w0 w w' : World} {go gb ge n cp : Nat} {A : Option Addr} {v : Value} {outs : List (List Int)} (h : BlW w0 go gb ge A n cp v outs w) (hb : Below w.heap.size w w') : BlW w0 go gb ge A n cp v outs w' :=
 ⟨blk_below h.bo hb, blk_below h.bb hb, blk_below h.be hb, Kd.S_below h.os hb, below_step h.bel hb, h.lo, h.ne⟩
theorem bl_okp {w0 w w2 : World} {go gb ge n cp : Nat} {A : Option Addr} {v u : Value} {outs : List (List Int)} {ys : List Int} (h : BlW w0 go gb ge A n cp v outs w) (hy : Kd.R (Kd.int .i64) 2 w2 w.heap.size (fun k => w.heap.size ≤ k) u ys) (k : Nat) (hk : some k = u.ownBlock) : (w0.heap.size ≤ k ∧ k ≠ go ∧ k ≠ gb ∧ k ≠ ge) ∧ some k ≠ v.ownBlock := by
 have h1 := Kd.R_base hy k hk.symm
 have := blk_lt h.bo
 have := blk_lt h.bb
 have := blk_lt h.be
 have := below_size h.bel
 exact ⟨⟨by omega, by omega, by omega, by omega⟩, fun e => by have := Kd.S_lt h.os k e.symm; omega⟩
theorem bl_fresh {w0 w : World} {go gb ge n cp : Nat} {A : Option Addr} {v : Value} {outs : List (List Int)} (h : BlW w0 go gb ge A n cp v outs w) (k : Nat) (hk : w.heap.size ≤ k) : w0.heap.size ≤ k ∧ k ≠ go ∧ k ≠ gb ∧ k ≠ ge := by
 have := blk_lt h.bo
 have := blk_lt h.bb
 have := blk_lt h.be
 have := below_size h.bel
 exact ⟨by omega, by omega, by omega, by omega⟩
theorem bl_apart {w0 w w2 : World} {go gb ge n cp : Nat} {A : Option Addr} {v u : Value} {outs : List (List Int)} {ys : List Int} (h : BlW w0 go gb ge A n cp v outs w) (hy : Kd.R (Kd.int .i64) 2 w2 w.heap.size (fun k => w.heap.size ≤ k) u ys) (hb : Below w.heap.size w w2) : Kd.S (Kd.slice 2 (Kd.int .i64)) 31 w2 w0.heap.size (fun k => (w0.heap.size ≤ k ∧ k ≠ go ∧ k ≠ gb ∧ k ≠ ge) ∧ ¬ some k = u.ownBlock) v outs :=
 Kd.S_mono (Kd.S_old h.os hb) (fun k hk => ⟨hk.1, fun e => by have := Kd.R_base hy k e.symm; omega⟩)
theorem bl_box {w0 w w1 : World} {go gb ge n cp : Nat} {A : Option Addr} {v : Value} {outs : List (List Int)} (h : BlW w0 go gb ge A n cp v outs w) (hg : w.grownBy w1 v.ownBlock) : w1.heap[go]? = some (.cells #[v] 88 (0, 0)) ∧ w1.heap[gb]? = some (.cells #[.slice A n cp] 31 (0, 0)) ∧ w1.heap[ge]? = some (.cells #[.func (.func 116) #[] #[.pointer (some ⟨go, 0, none⟩), .pointer (some ⟨gb, 0, none⟩), .pointer (some ⟨ge, 0, none⟩)]] 136 (0, 0)) := by
 have hr := Kd.S_R h.os
 exact ⟨blk_grown h.bo hg (fun e => (hr.1 go e.symm).2.1 rfl), blk_grown h.bb hg (fun e => (hr.1 gb e.symm).2.2.1 rfl), blk_grown h.be hg (fun e => (hr.1 ge e.symm).2.2.2 rfl)⟩
theorem BlW.store {w0 w w1 : World} {go gb ge n cp : Nat} {A : Option Addr} {v v1 : Value} {outs outs1 : List (List Int)} (h : BlW w0 go gb ge A n cp v outs w) (hg : w.grownBy w1 v.ownBlock) (ho : Kd.S (Kd.slice 2 (Kd.int .i64)) 31 w1 w0.heap.size (fun k => w0.heap.size ≤ k ∧ k ≠ go ∧ k ≠ gb ∧ k ≠ ge) v1 outs1) (hb : Below w0.heap.size w0 w1) : BlW w0 go gb ge A n cp v1 outs1 (w1.setCell ⟨go, 0, none⟩ v1) := by
 obtain ⟨h1, h2, h3⟩ := bl_box h hg
 refine ⟨blk_put h1 0 v1 rfl, ?_, ?_, Kd.S_far ho (fun k hk => hk.2.1) v1, below_set hb h.lo.1, h.lo, h.ne⟩
 ·exact (Below.heap_setCell w1 ⟨go, 0, none⟩ v1 gb (fun e => h.ne.1 e.symm)).trans h2
 ·exact (Below.heap_setCell w1 ⟨go, 0, none⟩ v1 ge (fun e => h.ne.2 e.symm)).trans h3
theorem bl_list {w0 w w' : World} {go gb ge n cp : Nat} {A : Option Addr} {v u : Value} {outs : List (List Int)} {ys : List Int} {base : Nat} (h : BlW w0 go gb ge A n cp v outs w) (hy : Kd.R (Kd.int .i64) 2 w base (fun _ => True) u ys) (hk : Kept w w' (fun k => k = go ∨ some k = v.ownBlock)) : Kd.R (Kd.int .i64) 2 w' base (fun _ => True) u ys := by
 refine Kd.R_mono (Kd.R_kept (Kd.R_tight rfl hy) hk (fun k e hs => ?_)) (fun _ _ => trivial)
 rcases hs with hs | hs
 ·subst hs
  exact Kd.R_ne hy h.bo (by decide) e
 ·obtain ⟨c1, e1⟩ := Kd.R_typed hy k e.symm
  obtain ⟨c2, e2⟩ := Kd.S_typed h.os k hs.symm; rw [e1] at e2
  simp at e2
theorem infoBL : (Try.prog.info? 31).map (fun i => (i.zero, i.size, i.bytes)) = some (some (.slice none 0 0), 1, 24) := by kernel_rfl
theorem bl_reps1 {Rr : Int → List Value → Prop} {b : Int} (h : Rr b [.int .i64 b]) : Reps Rr 1 [b] [.int .i64 b] := by
 simpa using Reps.snoc (Reps.none Rr 1) h rfl
theorem combs_len (bs : List Int) : ∀ m list i, i ≤ bs.length → (combs bs m list i).length ≤ 2 ^ (bs.length - i)
 | 0, list, i, _ => by simp only [combs, List.length_cons, List.length_nil]; exact Nat.one_le_two_pow
 | m + 1, list, i, h => by
  unfold combs
  have key : ∀ q i, i + q ≤ bs.length → ((List.range' i q).flatMap (fun j => combs bs m (list ++ [bs.getD j 0]) (j + 1))).length ≤ 2 ^ (bs.length - i) := by
   intro q
   induction q with
   | zero => intro i hi; simp
   | succ q ih =>
    intro i hi
    rw [List.range'_succ, List.flatMap_cons, List.length_append]; have h1 := combs_len bs m (list ++ [bs.getD i 0]) (i + 1) (by omega); have h2 := ih (i + 1) (by omega)
    have : bs.length - i = (bs.length - (i + 1)) + 1 := by omega
    rw [this, Nat.pow_succ]
    omega
  exact key _ i (by omega)
theorem combs_part {bs : List Int} {m i j : Nat} {list : List Int} (h1 : i ≤ j) (h2 : j + m + 1 ≤ bs.length) : ((List.range' i (j - i)).flatMap (fun j => combs bs m (list ++ [bs.getD j 0]) (j + 1))).length + (combs bs m (list ++ [bs.getD j 0]) (j + 1)).length ≤ (combs bs (m + 1) list i).length := by
 rw [show combs bs (m + 1) list i = (List.range' i (bs.length - m - i)).flatMap (fun j => combs bs m (list ++ [bs.getD j 0]) (j + 1)) from rfl]
 rw [show bs.length - m - i = (j - i) + (1 + (bs.length - m - j - 1)) from by omega, ← List.range'_append_1, ← List.range'_append_1, List.flatMap_append, List.flatMap_append, show i + (j - i) = j from by omega]
 simp only [List.length_append]
 rw [show List.range' j 1 = [j] from rfl, List.flatMap_cons, List.flatMap_nil, List.append_nil]
 omega
theorem combs_next {bs : List Int} {m i j : Nat} {list : List Int} (h1 : i ≤ j) : (List.range' i (j + 1 - i)).flatMap (fun j => combs bs m (list ++ [bs.getD j 0]) (j + 1)) = (List.range' i (j - i)).flatMap (fun j => combs bs m (list ++ [bs.getD j 0]) (j + 1)) ++ combs bs m (list ++ [bs.getD j 0]) (j + 1) := by
 rw [show j + 1 - i = (j - i) + 1 from by omega, ← List.range'_append_1, List.flatMap_append, show i + (j - i) = j from by omega, show List.range' j 1 = [j] from rfl, List.flatMap_cons, List.flatMap_nil, List.append_nil]
theorem barLists1_calls (w0 : World) (go gb ge : Nat) (A : Option Addr) (cp : Nat) (bs : List Int) (hbs : bs.length ≤ 1024) (hrB : Kd.C (Kd.int .i64) w0 A bs.length bs) :
  ∀ (m i : Nat) (Al : Option Addr) (cl : Nat) (list : List Int) (v : Value) (outs : List (List Int)) (w : World), i ≤ bs.length → list.length ≤ i → m ≤ bs.length → outs.length + (combs bs m list i).length ≤ 1048576 → BlW w0 go gb ge A bs.length cp v outs w → Kd.R (Kd.int .i64) 2 w w0.heap.size (fun _ => True) (.slice Al list.length cl) list →
  Calls Try.prog 116 #[.slice Al list.length cl, .int .i64 (i : Int), .int .i64 (m : Int), .pointer (some ⟨go, 0, none⟩), .pointer (some ⟨gb, 0, none⟩), .pointer (some ⟨ge, 0, none⟩)] w fun e w' => e = .returned (.tuple #[]) ∧ ∃ v', BlW w0 go gb ge A bs.length cp v' (outs ++ combs bs m list i) w' ∧ (v'.ownBlock = v.ownBlock ∨ ∃ b, v'.ownBlock = some b ∧ w.heap.size ≤ b) ∧ Kept w w' (fun k => k = go ∨ some k = v.ownBlock) := by
 intro m
 induction m with
 | zero =>
  intro i Al cl list v outs w hi hll hm hlo hF hl
  have HLL := zQ (show list.length ≤ 1024 from by omega); have HLO := zQ (show outs.length ≤ 1048576 from by omega); have HF := zQ hF; have HL := zQ hl; have hee : (((0 : Nat) : Int) == 0) = true := rfl; clear hF hl hi hll hm hlo
  go_enter Try.func116, Try.ntmps116
  go_wp2
  refine zs (fun w' => w'.cell? ⟨go, 0, none⟩ = some v) [6] 7 ((blk_cell HF.out.bo 0).trans rfl) (fun cA => ?_)
  have H20 := zQ (HF.out.below (below_drew1 (Below.refl _ _))); have PA := zQ (Kd.C_below (Kd.R_reads' HL.out).2.2 (below_drew1 (Below.refl _ _))); have HK20 := zQ (Kept.of_below (below_drew1 (Below.refl w.heap.size w)) (fun k => k = go ∨ some k = v.ownBlock)); have HS20 := zQ (below_size H20.out.bel); have HZ20 := zQ (show w.drew.heap.size = w.heap.size from rfl)
  generalize w.drew = xA at H20 PA HK20 HS20 HZ20 cA ⊢
  refine zp 2 14 ?_
  refine zt 0 12 cA ?_
  refine zo 1 (some 13) (fun K hK => ?_)
  refine Kd.R_lit_step (Kd.int .i64) (w0 := xA) xA.heap.size 2 (by rfl) rfl (xs := []) (inner := []) (ok := fun k => xA.heap.size ≤ k) (okp := fun _ => False) (by first | (go_simp; done) | (go_simp; rfl)) (Reps.none _ _) (fun _ h => h.elim) (Nat.le_refl _) (Below.refl _ _) (Nat.le_refl _) (by simp) ?_
  intro RD rE ho hb hg hat
  have HA := zQ ho; have HAb := zQ hb; clear ho hb hg hat; have H21 := zQ (H20.out.below HAb.out)
  refine hK.out _ _ ((blk_cell H21.out.bo 0).trans rfl) (fun cA => ?_)
  clear hK K
  refine zn 13 ?_
  refine zo 3 (some 15) (fun K hK => ?_)
  refine Kd.R_append_rows_step (Kd.int .i64) (w0 := xA) xA.heap.size (by rfl) (.tmp 13) (.tmp 14) 31 2 (.int .i64 0) 8 rfl Try.underlying31 info2 rfl (by decide) (by omega) RD [] list _ _ _ (fun k => xA.heap.size ≤ k) (fun _ => False) rfl rfl HA.out (Kd.C_below PA.out HAb.out) (fun _ _ h => h) (fun _ h => h.elim) (fun _ h => Nat.le_trans HAb.out.size h) HAb.out HAb.out.size (by have := HLL.out; simp; omega) ?_
  intro uE qE ho hb hg hat
  rw [List.nil_append] at ho; have HY := zQ ho; have HYb := zQ hb; have H22 := zQ (H20.out.below hb); clear ho hb hg hat; obtain ⟨PC, LC, eE⟩ := Kd.R_slice HY.out; subst eE
  refine hK.out _ _ ((blk_cell H22.out.bo 0).trans rfl) (fun cA => ?_)
  clear hK K
  refine zn 15 ?_
  refine zo 4 (some 16) (fun K hK => ?_)
  refine value_ (w1 := ?_) (v := ?_) (by rfl) rfl ?_ ?_
  rotate_left 2
  ·go_simp
   constructor
   ·rfl
   ·rfl
  have H23 := zQ (H22.out.below (below_alloc (Below.refl _ _) (.cells #[.slice PC list.length LC] 31)))
  refine hK.out _ _ ((blk_cell H23.out.bo 0).trans rfl) (fun cA => ?_)
  clear hK K
  refine zn 16 ?_
  refine zo 5 (some 17) (fun K hK => ?_)
  refine Kd.S_append_step (Kd.slice 2 (Kd.int .i64)) (w0 := w0) w0.heap.size (by rfl) (.tmp 12) (.tmp 16) 88 31 (.slice none 0 0) 24 rfl Try.underlying88 infoBL rfl (by decide) (by omega) v outs list [.slice PC list.length LC] (fun k => w0.heap.size ≤ k ∧ k ≠ go ∧ k ≠ gb ∧ k ≠ ge) (fun k => some k = (.slice PC list.length LC : Value).ownBlock) rfl rfl ⟨.slice PC list.length LC, rfl, Kd.R_lower (Kd.R_tight rfl HY.out) HS20.out⟩ (bl_okp H20.out HY.out) (bl_fresh H22.out) (bl_apart H20.out HY.out HYb.out) H22.out.bel (below_size H22.out.bel) (by have := HLO.out; omega) ?_
  intro tE KD ho hb hg hat
  have H24 := zQ (bl_box H22.out hg); have HO := zQ ho; have HB24 := zQ hb; have HG := zQ hg; have HAT := zQ hat; clear ho hb hg hat; obtain ⟨lE, jE, ED⟩ := Kd.S_slice HO.out; rw [show (outs ++ [list]).length = outs.length + 1 from by simp] at ED; subst ED
  refine hK.out _ _ ((blk_cell H24.out.1 0).trans rfl) (fun cA => ?_)
  clear hK K
  refine zn 17 ?_
  refine last_ (i := 6) (N := none) (zm 7 127) rfl rfl (by kernel_rfl) (by decide) (fun K hK => ?_)
  have cD := (blk_cell H24.out.1 0).trans rfl; have fo24 := zfz H24.out.1 0
  refine skip_ (w1 := ?_) (by rfl) rfl ?_ ?_
  rotate_left
  ·go_simp
   rfl
  refine hK.out _ _ ?_
  clear hK K cD fo24
  refine done_ (by kernel_rfl) ?_
  have HF9 := zQ (BlW.store H22.out HG.out HO.out HB24.out); have HK24 := zQ (Kept.setCell (p := ⟨go, 0, none⟩) (Kept.of_grown HG.out (Kept.below HK20.out HYb.out) (fun k hk => .inl (.inr hk.symm))) (.inl (.inl rfl)) (.slice lE (outs.length + 1) jE))
  go_wp2
  first | go_end0 | (simp only [Exit.inBlock, Exit.then]; refine bodyPost_ret (results_none rfl _ _ _) rfl ?_) | refine bodyPost_ret (results_none rfl _ _ _) rfl ?_
  refine ⟨by first | rfl | (simp; done), _, HF9.out, ?_, HK24.out⟩
  rcases HAT.out with h | ⟨b, h1, h2⟩
  ·exact .inl h
  ·exact .inr ⟨b, h1, by have := HYb.out.size; have := HZ20.out; omega⟩
 | succ m ih =>
  intro i Al cl list v outs w hi hll hm hlo hF hl
  have HLL := zQ (show list.length ≤ i ∧ i ≤ bs.length ∧ bs.length ≤ 1024 ∧ m + 1 ≤ bs.length from ⟨hll, hi, hbs, hm⟩); have HLO := zQ hlo; have HF := zQ hF; have HL := zQ hl; have IH := zQ ih; obtain ⟨M1, hM1⟩ : ∃ z : Int, ((m + 1 : Nat) : Int) = z := ⟨_, rfl⟩
  have hee : (M1 == 0) = false := by rw [beq_eq_false_iff_ne]; omega
  rw [hM1]; have HM1 := zQ (show M1 = (m : Int) + 1 from by omega); clear hM1; clear hF hl hi hll hm hlo ih
  go_enter Try.func116, Try.ntmps116
  go_wp2
  go_loopw [9] (fun v9 wr => ∃ (j : Nat) (vr : Value), v9 = .int .i64 (j : Int) ∧ Aside0 (i ≤ j ∧ (j = i ∨ j + m ≤ bs.length)) ∧ Aside0 (BlW w0 go gb ge A bs.length cp vr (outs ++ (List.range' i (j - i)).flatMap (fun j => combs bs m (list ++ [bs.getD j 0]) (j + 1))) wr) ∧ Aside0 (Kd.R (Kd.int .i64) 2 wr w0.heap.size (fun _ => True) (.slice Al list.length cl) list) ∧ Aside0 (vr.ownBlock = v.ownBlock ∨ ∃ b, vr.ownBlock = some b ∧ w.heap.size ≤ b) ∧ Aside0 (Kept w wr (fun k => k = go ∨ some k = v.ownBlock))) (fun v9 _ => (2000 - intOf v9).toNat)
  case atStart => exact ⟨i, v, rfl, ⟨by omega, by omega⟩, ⟨by rw [show i - i = 0 from by omega]; simpa using HF.out⟩, HL, ⟨.inl rfl⟩, ⟨Kept.refl _ _⟩⟩
  case round =>
   obtain ⟨j, vr, rfl, HJN, HFr, HLr, HAr, HKr⟩ := hrel; have cb : wr.cell? ⟨gb, 0, none⟩ = some (.slice A bs.length cp) := (blk_cell HFr.out.bb 0).trans rfl; have hjb := HJN.out; have hlb := HLL.out
   by_cases hc : j + (m + 1) ≤ bs.length
   ·have hcb : decide (wrap64 ((j : Int) + M1) ≤ (bs.length : Int)) = true := decide_eq_true (by have := HM1.out; unfold wrap64; omega)
    have HJM := zQ hc; obtain ⟨adB, hA, hx⟩ := Kd.at_int hrB (j : Int) (by omega) (by omega); subst hA; rw [Int.toNat_natCast, show rd bs (j : Int) = bs.getD j 0 from by show bs.getD (Int.toNat (j : Int)) 0 = _; rw [Int.toNat_natCast]] at hx; obtain ⟨b, hb⟩ : ∃ z, bs.getD j 0 = z := ⟨_, rfl⟩; rw [hb] at hx; have HBV := zQ hb; have HBJ := zQ hx; have p5 : (0 ≤ (j : Int)) = True := eq_true (by omega); have q5 : ((j : Int) < (bs.length : Int)) = True := eq_true (by omega)
    have e5 : wrap64 ((j : Int) + 1) = ((j + 1 : Nat) : Int) := by unfold wrap64; omega
    have e6 : wrap64 (M1 - 1) = (m : Int) := by have := HM1.out; unfold wrap64; omega
    clear hx hb hjb hlb
    go_wp2
    refine zs (fun w' => w'.cell? ⟨ge, 0, none⟩ = some (.func (.func 116) #[] #[.pointer (some ⟨go, 0, none⟩), .pointer (some ⟨gb, 0, none⟩), .pointer (some ⟨ge, 0, none⟩)]) ∧ w'.cell? ⟨gb, 0, none⟩ = some (.slice (some adB) bs.length cp) ∧ w'.cell? (adB.add j) = some (.int .i64 b)) [] 15 ⟨(blk_cell HFr.out.be 0).trans rfl, (blk_cell HFr.out.bb 0).trans rfl, (HFr.out.bel.cell (World.block_lt_of_cell? w0 _ HBJ.out)).trans HBJ.out⟩ (fun cA => ?_)
    have H20 := zQ (HFr.out.below (below_drew1 (Below.refl _ _))); have PA := zQ (Kd.C_below (Kd.R_reads' HLr.out).2.2 (below_drew1 (Below.refl _ _))); have WB := zQ (Kd.R_below HLr.out (below_drew1 (Below.refl _ _))); have HK20 := zQ (Kept.below HKr.out (below_drew1 (Below.refl _ _)))
    generalize wr.drew = xA at H20 PA WB HK20 cA ⊢
    clear cb
    refine zp 2 29 ?_
    refine zp 5 32 ?_
    refine zp 10 37 ?_
    refine zp 11 38 ?_
    refine zp 12 39 ?_
    refine zp 13 40 ?_
    refine zt 0 27 cA ?_
    refine zt 4 31 cA ?_
    refine zp 6 33 ?_
    refine zt 7 34 cA ?_
    refine join_ (σ := Value × Value × Value) 2 (zm 15 15871) (fun s => [(28, s.1), (30, s.2.1), (35, s.2.2)]) (fun s w' => Kd.R (Kd.int .i64) 2 w' xA.heap.size (fun _ => True) s.2.1 list ∧ Kd.R (Kd.int .i64) 2 w' xA.heap.size (fun _ => True) s.2.2 [b] ∧ Below xA.heap.size xA w') ?_ ?_
    rotate_left
    ·intro hCont
     refine two_ (i := 1) (j := 8) (Ni := some 28) (Nj := some 35) (zm 15 15607) (zm 15 15861) rfl rfl rfl rfl (by kernel_rfl) (by decide) (by decide) (fun K hK => ?_) (fun K hK => ?_)
     ·skip
      refine Kd.R_lit_step (Kd.int .i64) (w0 := xA) xA.heap.size 2 (by rfl) rfl (xs := []) (inner := []) (ok := fun k => xA.heap.size ≤ k) (okp := fun _ => False) (by first | (go_simp; done) | (go_simp; rfl)) (Reps.none _ _) (fun _ h => h.elim) (Nat.le_refl _) (Below.refl _ _) (Nat.le_refl _) (by simp) ?_
      intro v1 w1 ho hb hg hat
      have HA1 := zQ ho; have HA1b := zQ hb; clear ho hb hg hat; have H1 := zQ (H20.out.below HA1b.out); have uB := zQ HA1b.out
      refine hK.out _ _ ⟨(blk_cell H1.out.be 0).trans rfl, (blk_cell H1.out.bb 0).trans rfl, (H1.out.bel.cell (World.block_lt_of_cell? w0 _ HBJ.out)).trans HBJ.out⟩ (fun cA => ?_)
      clear hK K
      refine zn 28 ?_
      refine two_ (i := 3) (j := 8) (Ni := some 30) (Nj := some 35) (zm 15 15615) (zm 15 15863) rfl rfl rfl rfl (by kernel_rfl) (by decide) (by decide) (fun K hK => ?_) (fun K hK => ?_)
      ·skip
       refine Kd.R_append_rows_step (Kd.int .i64) (w0 := xA) xA.heap.size (by rfl) (.tmp 28) (.tmp 29) 31 2 (.int .i64 0) 8 rfl Try.underlying31 info2 rfl (by decide) (by omega) v1 [] list _ _ _ (fun k => xA.heap.size ≤ k) (fun _ => False) rfl rfl (HA1.out) (Kd.C_below PA.out uB.out) (fun _ _ h => h) (fun _ h => h.elim) (fun _ h => Nat.le_trans uB.out.size h) uB.out uB.out.size (by have := HLL.out; simp; omega) ?_
       intro VD QC ho hb hg hat
       rw [List.nil_append] at ho; have HY13 := zQ ho; have VB := zQ hb; have H13 := zQ (H20.out.below hb); clear ho hb hg hat
       refine hK.out _ _ ⟨(blk_cell H13.out.be 0).trans rfl, (blk_cell H13.out.bb 0).trans rfl, (H13.out.bel.cell (World.block_lt_of_cell? w0 _ HBJ.out)).trans HBJ.out⟩ (fun cA => ?_)
       clear hK K
       refine zn 30 ?_
       refine zo 8 (some 35) (fun K hK => ?_)
       refine Kd.R_lit_step (Kd.int .i64) (w0 := QC) QC.heap.size 2 (by rfl) rfl (xs := [b]) (inner := [.int .i64 b]) (ok := fun k => QC.heap.size ≤ k) (okp := fun _ => False) (by first | (go_simp; done) | (go_simp; rfl)) (bl_reps1 rfl) (fun _ h => h.elim) (Nat.le_refl _) (Below.refl _ _) (Nat.le_refl _) (by simp) ?_
       intro UC OD ho hb hg hat
       have HQ138 := zQ ho; have HQ138b := zQ hb; clear ho hb hg hat; have H138 := zQ (H13.out.below HQ138b.out); have UB := zQ (below_step VB.out HQ138b.out)
       refine hK.out _ _ ⟨(blk_cell H138.out.be 0).trans rfl, (blk_cell H138.out.bb 0).trans rfl, (H138.out.bel.cell (World.block_lt_of_cell? w0 _ HBJ.out)).trans HBJ.out⟩ (fun cA => ?_)
       clear hK K
       refine zn 35 ?_
       exact norm_ (by simp only [putAll, Act.put, List.setIfInBounds_toArray, List.set_cons_zero, List.set_cons_succ]) (hCont (v1, VD, UC) _ ⟨Kd.R_mono (Kd.R_below HY13.out HQ138b.out) (fun _ _ => trivial), Kd.R_mono (Kd.R_lower HQ138.out VB.out.size) (fun _ _ => trivial), UB.out⟩)
      ·skip
       refine Kd.R_lit_step (Kd.int .i64) (w0 := w1) w1.heap.size 2 (by rfl) rfl (xs := [b]) (inner := [.int .i64 b]) (ok := fun k => w1.heap.size ≤ k) (okp := fun _ => False) (by first | (go_simp; done) | (go_simp; rfl)) (bl_reps1 rfl) (fun _ h => h.elim) (Nat.le_refl _) (Below.refl _ _) (Nat.le_refl _) (by simp) ?_
       intro UD MD ho hb hg hat
       have HQ18 := zQ ho; have HQ18b := zQ hb; clear ho hb hg hat; have H18 := zQ (H1.out.below HQ18b.out); have cB := zQ (below_step uB.out HQ18b.out)
       refine hK.out _ _ ⟨(blk_cell H18.out.be 0).trans rfl, (blk_cell H18.out.bb 0).trans rfl, (H18.out.bel.cell (World.block_lt_of_cell? w0 _ HBJ.out)).trans HBJ.out⟩ (fun cA => ?_)
       clear hK K
       refine zn 35 ?_
       refine zo 3 (some 30) (fun K hK => ?_)
       refine Kd.R_append_rows_step (Kd.int .i64) (w0 := xA) xA.heap.size (by rfl) (.tmp 28) (.tmp 29) 31 2 (.int .i64 0) 8 rfl Try.underlying31 info2 rfl (by decide) (by omega) v1 [] list _ _ _ (fun k => xA.heap.size ≤ k) (fun _ => False) rfl rfl ((Kd.R_below HA1.out HQ18b.out)) (Kd.C_below PA.out cB.out) (fun _ _ h => h) (fun _ h => h.elim) (fun _ h => Nat.le_trans cB.out.size h) cB.out cB.out.size (by have := HLL.out; simp; omega) ?_
       intro TC LD ho hb hg hat
       rw [List.nil_append] at ho; have HY183 := zQ ho; have TB := zQ hb; have H183 := zQ (H20.out.below hb); have HQ183 := zQ (Kd.R_grown HQ18.out hg (fun k hk e => by have := Kd.R_lt HA1.out k e.symm; omega)); clear ho hb hg hat
       refine hK.out _ _ ⟨(blk_cell H183.out.be 0).trans rfl, (blk_cell H183.out.bb 0).trans rfl, (H183.out.bel.cell (World.block_lt_of_cell? w0 _ HBJ.out)).trans HBJ.out⟩ (fun cA => ?_)
       clear hK K
       refine zn 30 ?_
       exact norm_ (by simp only [putAll, Act.put, List.setIfInBounds_toArray, List.set_cons_zero, List.set_cons_succ]) (hCont (v1, TC, UD) _ ⟨Kd.R_mono HY183.out (fun _ _ => trivial), Kd.R_mono (Kd.R_lower HQ183.out uB.out.size) (fun _ _ => trivial), TB.out⟩)
     ·skip
      refine Kd.R_lit_step (Kd.int .i64) (w0 := xA) xA.heap.size 2 (by rfl) rfl (xs := [b]) (inner := [.int .i64 b]) (ok := fun k => xA.heap.size ≤ k) (okp := fun _ => False) (by first | (go_simp; done) | (go_simp; rfl)) (bl_reps1 rfl) (fun _ h => h.elim) (Nat.le_refl _) (Below.refl _ _) (Nat.le_refl _) (by simp) ?_
      intro v8 w8 ho hb hg hat
      have HQ8 := zQ ho; have HQ8b := zQ hb; clear ho hb hg hat; have H8 := zQ (H20.out.below HQ8b.out)
      refine hK.out _ _ ⟨(blk_cell H8.out.be 0).trans rfl, (blk_cell H8.out.bb 0).trans rfl, (H8.out.bel.cell (World.block_lt_of_cell? w0 _ HBJ.out)).trans HBJ.out⟩ (fun cA => ?_)
      clear hK K
      refine zn 35 ?_
      refine zo 1 (some 28) (fun K hK => ?_)
      refine Kd.R_lit_step (Kd.int .i64) (w0 := w8) w8.heap.size 2 (by rfl) rfl (xs := []) (inner := []) (ok := fun k => w8.heap.size ≤ k) (okp := fun _ => False) (by first | (go_simp; done) | (go_simp; rfl)) (Reps.none _ _) (fun _ h => h.elim) (Nat.le_refl _) (Below.refl _ _) (Nat.le_refl _) (by simp) ?_
      intro kD mE ho hb hg hat
      have HA81 := zQ ho; have HA81b := zQ hb; clear ho hb hg hat; have H81 := zQ (H8.out.below HA81b.out); have HQ81 := zQ (Kd.R_below HQ8.out HA81b.out); have bB := zQ (below_step HQ8b.out HA81b.out)
      refine hK.out _ _ ⟨(blk_cell H81.out.be 0).trans rfl, (blk_cell H81.out.bb 0).trans rfl, (H81.out.bel.cell (World.block_lt_of_cell? w0 _ HBJ.out)).trans HBJ.out⟩ (fun cA => ?_)
      clear hK K
      refine zn 28 ?_
      refine zo 3 (some 30) (fun K hK => ?_)
      refine Kd.R_append_rows_step (Kd.int .i64) (w0 := xA) xA.heap.size (by rfl) (.tmp 28) (.tmp 29) 31 2 (.int .i64 0) 8 rfl Try.underlying31 info2 rfl (by decide) (by omega) kD [] list _ _ _ (fun k => xA.heap.size ≤ k) (fun _ => False) rfl rfl (Kd.R_lower (Kd.R_mono HA81.out (fun k hk => Nat.le_trans HQ8b.out.size hk)) HQ8b.out.size) (Kd.C_below PA.out bB.out) (fun _ _ h => h) (fun _ h => h.elim) (fun _ h => Nat.le_trans bB.out.size h) bB.out bB.out.size (by have := HLL.out; simp; omega) ?_
      intro RC ID ho hb hg hat
      rw [List.nil_append] at ho; have HY813 := zQ ho; have SB := zQ hb; have H813 := zQ (H20.out.below hb); have HQ813 := zQ (Kd.R_grown (Kd.R_tight rfl HQ81.out) hg (fun k hk e => by have := Kd.R_lt HQ8.out k hk.symm; have := Kd.R_base HA81.out k e.symm; omega)); clear ho hb hg hat
      refine hK.out _ _ ⟨(blk_cell H813.out.be 0).trans rfl, (blk_cell H813.out.bb 0).trans rfl, (H813.out.bel.cell (World.block_lt_of_cell? w0 _ HBJ.out)).trans HBJ.out⟩ (fun cA => ?_)
      clear hK K
      refine zn 30 ?_
      exact norm_ (by simp only [putAll, Act.put, List.setIfInBounds_toArray, List.set_cons_zero, List.set_cons_succ]) (hCont (kD, RC, v8) _ ⟨Kd.R_mono HY813.out (fun _ _ => trivial), Kd.R_mono HQ813.out (fun _ _ => trivial), SB.out⟩)
    rintro ⟨ve_, vy_, vq_⟩ wj ⟨hy_, hq_, hx_⟩
    dsimp only at hy_ hq_
    have HY := zQ hy_; have HQ := zQ hq_; have HX := zQ hx_; have HJ := zQ (H20.out.below hx_); clear hy_ hq_ hx_; obtain ⟨AQ, cQ, eQ⟩ := Kd.R_slice HQ.out; subst eQ; have cA : wj.cell? ⟨ge, 0, none⟩ = some (.func (.func 116) #[] #[.pointer (some ⟨go, 0, none⟩), .pointer (some ⟨gb, 0, none⟩), .pointer (some ⟨ge, 0, none⟩)]) ∧ wj.cell? ⟨gb, 0, none⟩ = some (.slice (some adB) bs.length cp) ∧ wj.cell? (adB.add j) = some (.int .i64 b) := ⟨(blk_cell HJ.out.be 0).trans rfl, (blk_cell HJ.out.bb 0).trans rfl, (HJ.out.bel.cell (World.block_lt_of_cell? w0 _ HBJ.out)).trans HBJ.out⟩
    refine norm_ (a' := ?_) ?_ ?_
    rotate_left
    ·simp only [putAll, Act.put, List.setIfInBounds_toArray, List.set_cons_zero, List.set_cons_succ]
     rfl
    refine zo 9 (some 36) (fun K hK => ?_)
    refine Kd.R_append_rows_step (Kd.int .i64) (w0 := xA) xA.heap.size (by rfl) (.tmp 30) (.tmp 35) 31 2 (.int .i64 0) 8 rfl Try.underlying31 info2 rfl (by decide) (by omega) vy_ list [b] _ _ _ (fun _ => True) (fun _ => False) rfl rfl HY.out (Kd.R_reads' HQ.out).2.2 (fun _ _ h => h) (fun _ h => h.elim) (fun _ _ => trivial) HX.out HX.out.size (by have := HLL.out; simp; omega) ?_
    intro v9 w9 ho hb hg hat
    have HZ := zQ ho; have HXZ := zQ hb; have H9 := zQ (H20.out.below hb); clear ho hb hg hat; obtain ⟨AZ, cZ, eZ⟩ := Kd.R_slice HZ.out
    have hLZ : (list ++ [b]).length = list.length + 1 := by simp
    rw [hLZ] at eZ; subst eZ; have HLZ := zQ hLZ; clear hLZ
    refine hK.out _ _ ⟨(blk_cell H9.out.be 0).trans rfl, (blk_cell H9.out.bb 0).trans rfl, (H9.out.bel.cell (World.block_lt_of_cell? w0 _ HBJ.out)).trans HBJ.out⟩ (fun cA => ?_)
    clear hK K
    refine zn 36 ?_
    refine zo 14 (some 41) (fun K hK => ?_)
    refine call_ 116 #[.slice AZ (list.length + 1) cZ, .int .i64 ((j + 1 : Nat) : Int), .int .i64 (m : Int), .pointer (some ⟨go, 0, none⟩), .pointer (some ⟨gb, 0, none⟩), .pointer (some ⟨ge, 0, none⟩)] (by rfl) rfl (by go_simp; first | rfl | (simp; done) | skip) ?_
    have ih_ := IH.out (j + 1) AZ cZ (list ++ [b]) vr _ w9 (by have := HJM.out; omega) (by have := HLL.out; have := HJN.out; rw [HLZ.out]; omega) (by have := HLL.out; omega) (by rw [← HBV.out]; have := combs_part (bs := bs) (list := list) HJN.out.1 (show j + m + 1 ≤ bs.length from by have := HJM.out; omega); have := HLO.out; rw [List.length_append]; omega) H9.out (by rw [HLZ.out]; exact Kd.R_lower HZ.out (below_size H20.out.bel)); rw [HLZ.out] at ih_
    refine ih_.mono ?_
    clear ih_
    rintro e oE ⟨rfl, QD, H25_, hB, IB⟩
    refine ⟨_, rfl, ?_⟩
    have H25 := zQ H25_; have HAT25 := zQ hB; have HK25 := zQ IB; clear H25_ hB IB
    refine hK.out _ _ ⟨(blk_cell H25.out.be 0).trans rfl, (blk_cell H25.out.bb 0).trans rfl, (H25.out.bel.cell (World.block_lt_of_cell? w0 _ HBJ.out)).trans HBJ.out⟩ (fun cA => ?_)
    clear hK K
    refine zn 41 ?_
    refine done_ (by kernel_rfl) ?_
    go_wp2
    go_roundw
    case rel =>
     refine ⟨j + 1, QD, by first | rfl | (simp; omega) | (congr 1; omega), ⟨by have := HJN.out; omega, by have := HJM.out; omega⟩, ⟨?_⟩, ⟨?_⟩, ⟨?_⟩, ⟨?_⟩⟩
     ·rw [combs_next HJN.out.1, HBV.out, ← List.append_assoc]
      exact H25.out
     ·exact bl_list H9.out (Kd.R_below WB.out HXZ.out) HK25.out
     ·rcases HAT25.out with h | ⟨b', h1, h2⟩
      ·rw [h]; exact HAr.out
      ·exact .inr ⟨b', h1, by have := HK20.out.1; have := HXZ.out.size; omega⟩
     ·exact Kept.then_ (Kept.below HK20.out HXZ.out) HK25.out (fun k hk => by
       rcases hk with hk | hk
       ·exact .inl (.inl hk)
       ·rcases HAr.out with h | ⟨b', h1, h2⟩
        ·exact .inl (.inr (by rw [hk, h]))
        ·refine .inr ?_
         rw [h1] at hk
         injection hk with hk
         omega)
    case measure => have := HJM.out; have := HLL.out; simp [intOf]; omega
   ·have hcb : decide (wrap64 ((j : Int) + M1) ≤ (bs.length : Int)) = false := decide_eq_false (by have := HM1.out; unfold wrap64; omega)
    have hq : j - i = bs.length - m - i := by omega
    clear hjb hlb
    go_wp2
    first | go_end0 | (simp only [Exit.inBlock, Exit.then]; refine bodyPost_ret (results_none rfl _ _ _) rfl ?_) | refine bodyPost_ret (results_none rfl _ _ _) rfl ?_
    have h := HFr.out; rw [hq] at h
    exact ⟨by first | rfl | (simp; done), vr, h, HAr.out, HKr.out⟩
def barsOf (bs : List Int) : List (List Int) := (List.range (bs.length + 1)).flatMap (fun n => combs bs n [] 0)
def impl_barLists.f (k : Nat) (l0 : List Int) : Option (List (List Int)) := if l0.length ≤ 1024 ∧ (barsOf l0).length ≤ 1048576 then some (barsOf l0) else none
theorem bars_part {bs : List Int} {n : Nat} (h : n ≤ bs.length) : ((List.range n).flatMap (fun n => combs bs n [] 0)).length + (combs bs n [] 0).length ≤ (barsOf bs).length := by
 unfold barsOf
 rw [show bs.length + 1 = n + (1 + (bs.length - n)) from by omega, List.range_eq_range', List.range_eq_range', ← List.range'_append_1, ← List.range'_append_1, List.flatMap_append, List.flatMap_append]
 simp only [List.length_append, Nat.zero_add]
 rw [show List.range' n 1 = [n] from rfl, List.flatMap_cons, List.flatMap_nil, List.append_nil]
 omega
theorem bl_meas {n : Nat} {z : Int} (e : z = ((n + 1 : Nat) : Int)) (h : n ≤ 1024) : (2000 - z).toNat < (2000 - (n : Int)).toNat := by omega
theorem bl_meas2 {n : Nat} {z : Int} (e : z = ((n + 1 : Nat) : Int)) (h : n ≤ 1024) : (2000 - intOf (.int .i64 z)).toNat < (2000 - intOf (.int .i64 (n : Int))).toNat := bl_meas e h
theorem bars_next (bs : List Int) (n : Nat) : (List.range (n + 1)).flatMap (fun n => combs bs n [] 0) = (List.range n).flatMap (fun n => combs bs n [] 0) ++ combs bs n [] 0 := by
 rw [List.range_succ, List.flatMap_append, List.flatMap_cons, List.flatMap_nil, List.append_nil]
theorem impl_barLists.calls (k : Nat) (A0 : Option Addr) (c0 : Nat) (l0 : List Int) (r : List (List Int)) (w : World) (DB : Kd.C (Kd.int .i64) w A0 l0.length l0) (MB : l0.length ≤ c0) (h : impl_barLists.f k l0 = some r) :
  Calls Try.prog 68 #[.slice A0 l0.length c0] w fun e w' => ∃ v0_ : Value, e = .returned (v0_) ∧ Kd.S (Kd.slice 2 (Kd.int .i64)) 31 w' w.heap.size (fun _ => True) v0_ r ∧ Below w.heap.size w w' := by
 unfold impl_barLists.f at h
 by_cases hg : l0.length ≤ 1024 ∧ (barsOf l0).length ≤ 1048576
 ·rw [if_pos hg] at h
  obtain rfl := Option.some.inj h; clear h; have HG := zQ hg; have HR := zQ DB; have HC := zQ MB; clear hg DB MB
  go_enter Try.func68, Try.ntmps68
  go_wp2_with (first
   | ((with_reducible refine zd 1 ?_); refine zbx (N := 1) (cs := #[.slice A0 l0.length c0]) (t := 31) ?_; intro g1 yD w1 OA RA; have B1 := zQ OA; have HB1 := zQ RA; have G1 := zQ yD; clear OA RA yD)
   | ((with_reducible refine zd 6 ?_); refine Kd.S_lit (Kd.slice 2 (Kd.int .i64)) (w0 := w) w.heap.size 31 rfl rfl (xs := []) (inner := []) (ok := fun k => k = w1.heap.size) (okp := fun _ => False) ?hr (Reps.none _ _) (fun _ h => h.elim) rfl HB1.out HB1.out.size (by simp) ?_; (case hr => first | (go_simp; done) | (go_simp; rfl)); intro v2 w2 NA EA rB OB; obtain ⟨A2, c2, e2⟩ := Kd.S_slice NA; subst e2; have B2 := zQ (blk_grown B1.out rB (by simp)); have HS2 := zQ NA; have HB2 := zQ EA; have HA2 := zQ OB; have HW2 := zQ rB.size; clear NA EA rB OB)
   | ((with_reducible refine zd 3 ?_); refine zbx (N := 3) (cs := #[.slice none 0 0]) (t := 88) ?_; intro g3 xD w3 AA FA; have B3 := zQ (blk_below B2.out FA); have O3 := zQ AA; have HS3 := zQ (Kd.S_below HS2.out FA); have HB3 := zQ (below_step HB2.out FA); have G3 := zQ xD; have fE : w3.cell? ⟨g3, 0, none⟩ = some (.slice none 0 0) := (blk_cell AA 0).trans rfl; have fo3 := zfz AA 0; clear AA FA xD)
   | ((with_reducible refine gate_store (t := 88) (p := 3) rfl ?_); refine store_event (t := 88) (p := 3) (v := ?vo_w4) (w1 := (w3.setCell ⟨g3, 0, none⟩ (.slice A2 0 c2))) ?hg ?ho ?hn ?hr ?_; (case ho => rfl); (case hg => rfl); (case hn => rfl); (case hr => first | (go_simp; done) | (go_simp; rfl)); intro w4 BA; have B4 := zQ (show w4.heap[g1]? = some (.cells #[.slice A0 l0.length c0] 31 (0, 0)) from by rw [BA]; exact (Below.heap_setCell w3 ⟨g3, 0, none⟩ _ g1 (fun e => by have := G3.out; have := blk_lt B2.out; simp at e; omega)).trans B3.out); have O4 := zQ (show w4.heap[g3]? = some (.cells #[.slice A2 0 c2] 88 (0, 0)) from by rw [BA]; exact blk_put (cs := #[.slice none 0 0]) O3.out 0 _ rfl); have HS4 := zQ (show Kd.S (Kd.slice 2 (Kd.int .i64)) 31 w4 w.heap.size (fun k => k = w1.heap.size) (.slice A2 0 c2) [] from by rw [BA]; exact Kd.S_far HS3.out (fun k hk => by have := G3.out; have := HW2.out; simp; obtain ⟨b, OA, EA⟩ := HA2.out; have := Kd.S_lt HS2.out b OA; omega) _); have HB4 := zQ (show Below w.heap.size w w4 from by rw [BA]; exact below_set HB3.out (by have := G3.out; have := HB2.out.size; omega)); clear BA fE fo3)
   | ((with_reducible refine zd 4 ?_); refine zbx (N := 4) (cs := #[.nilFunc]) (t := 136) ?_; intro g5 wD w5 MA GB; have B5 := zQ (blk_below B4.out GB); have O5 := zQ (blk_below O4.out GB); have E5 := zQ MA; have HS5 := zQ (Kd.S_below HS4.out GB); have HB5 := zQ (below_step HB4.out GB); have G5 := zQ wD; have ce5 : w5.cell? ⟨g5, 0, none⟩ = some .nilFunc := (blk_cell MA 0).trans rfl; have fe5 := zfz MA 0; clear MA GB wD)
   | (
     (with_reducible refine gate_store (t := 136) (p := 4) rfl ?_); refine store_event (t := 136) (p := 4) (v := ?vo_w6) (w1 := (w5.setCell ⟨g5, 0, none⟩ (.func (.func 116) #[] #[.pointer (some ⟨g3, 0, none⟩), .pointer (some ⟨g1, 0, none⟩), .pointer (some ⟨g5, 0, none⟩)]))) ?hg ?ho ?hn ?hr ?_; (case ho => rfl); (case hg => rfl); (case hn => rfl); (case hr => first | (go_simp; done) | (go_simp; rfl)); intro w6 lD
     have hgs : g1 < w1.heap.size ∧ w1.heap.size < g3 ∧ g3 < g5 ∧ w.heap.size ≤ g1 := by
      have h1 := blk_lt B1.out; have h2 := G3.out; have h3 := blk_lt O4.out; have h4 := G5.out; have h5 := G1.out; obtain ⟨b, OA, EA⟩ := HA2.out; have h6 := Kd.S_lt HS2.out b OA
      omega
     have HF6 := zQ (show BlW w g3 g1 g5 A0 l0.length c0 (.slice A2 0 c2) [] w6 from by
      rw [lD]
      refine ⟨?_, ?_, blk_put (cs := #[.nilFunc]) E5.out 0 _ rfl, ?_, below_set HB5.out (by omega), ⟨by omega, by omega, by omega⟩, ⟨by omega, by omega⟩⟩
      ·exact (Below.heap_setCell w5 ⟨g5, 0, none⟩ _ g3 (fun e => by simp at e; omega)).trans O5.out
      ·exact (Below.heap_setCell w5 ⟨g5, 0, none⟩ _ g1 (fun e => by simp at e; omega)).trans B5.out
      ·exact Kd.S_mono (Kd.S_far HS5.out (fun k hk => by simp; omega) _) (fun k hk => ⟨by omega, by omega, by omega, by omega⟩))
     clear lD ce5 fe5 hgs))
  clear B1 B2 B3 B4 B5 O3 O4 O5 E5 HS2 HS3 HS4 HS5 HB1 HB2 HB3 HB4 HB5 HA2 HW2 G1 G3 G5
  go_loopw [5] (fun v5 wr => ∃ (n : Nat) (vr : Value), v5 = .int .i64 (n : Int) ∧ Aside0 (n ≤ l0.length + 1) ∧ Aside0 (BlW w g3 g1 g5 A0 l0.length c0 vr ((List.range n).flatMap (fun n => combs l0 n [] 0)) wr)) (fun v5 _ => (2000 - intOf v5).toNat)
  case atStart => exact ⟨0, _, rfl, ⟨by omega⟩, HF6⟩
  case round =>
   obtain ⟨n, vr, rfl, HN, HF⟩ := hrel; have cb : wr.cell? ⟨g1, 0, none⟩ = some (.slice A0 l0.length c0) := (blk_cell HF.out.bb 0).trans rfl; have ce : wr.cell? ⟨g5, 0, none⟩ = some (.func (.func 116) #[] #[.pointer (some ⟨g3, 0, none⟩), .pointer (some ⟨g1, 0, none⟩), .pointer (some ⟨g5, 0, none⟩)]) := (blk_cell HF.out.be 0).trans rfl; have co : wr.cell? ⟨g3, 0, none⟩ = some vr := (blk_cell HF.out.bo 0).trans rfl
   by_cases hc : n ≤ l0.length
   ·have hcb : decide ((n : Int) ≤ (l0.length : Int)) = true := decide_eq_true (by omega)
    have hcc : decide (n ≤ l0.length) = true := decide_eq_true hc; have HNL := zQ hc
    have e5 : wrap64 ((n : Int) + 1) = ((n + 1 : Nat) : Int) := by have := HG.out.1; unfold wrap64; omega
    clear hc
    go_wp2_with (first
     | (go_at_call 116; refine calls_of_args (args' := #[.slice none ([] : List Int).length 0, .int .i64 ((0 : Nat) : Int), .int .i64 (n : Int), .pointer (some ⟨g3, 0, none⟩), .pointer (some ⟨g1, 0, none⟩), .pointer (some ⟨g5, 0, none⟩)]) (by first | rfl | simp) ?_; refine (barLists1_calls w g3 g1 g5 A0 c0 l0 HG.out.1 HR.out n 0 none 0 [] vr _ wr (by omega) (by simp) HNL.out (by have := bars_part (bs := l0) HNL.out; have := HG.out; omega) HF.out (Kd.R_nil _ _ _ _ _)).mono ?_; rintro e w9 ⟨rfl, v9, hF9, _, _⟩; have HF9 := zQ hF9; clear hF9))
    go_roundw
    case rel => exact ⟨n + 1, v9, by first | rfl | (simp; omega) | (congr 1; omega), ⟨by have := HNL.out; omega⟩, ⟨by rw [bars_next]; exact HF9.out⟩⟩
    case measure => exact bl_meas2 e5 (Nat.le_trans HNL.out HG.out.1)
   ·have hcb : decide ((n : Int) ≤ (l0.length : Int)) = false := decide_eq_false (by omega)
    have hcc : decide (n ≤ l0.length) = false := decide_eq_false (by omega)
    have hn : n = l0.length + 1 := by have := HN.out; omega
    clear hc
    go_wp2
    go_ret
    subst hn
    exact ⟨vr, by first | rfl | (simp; done), Kd.S_mono HF.out.os (fun _ _ => trivial), HF.out.bel⟩
 ·rw [if_neg hg] at h
  cases h

def impl_holdsAlone.f (k : Nat) (l0_0 : List (S164)) (l0_1 : List (S115)) (l1 : List (S113)) (l2 : List Int) : Option (List Int × Int × Bool) := (impl_solveBars.f k l0_0 l0_1 l1 l2).bind fun CA => (if CA.2.2 = true then ((impl_pushedWires.f k l0_0 l0_1 CA.1 CA.2.1).bind fun nB => (some (CA.1, CA.2.1, ((nB.length : Int) == 0)))) else (some (CA.1, CA.2.1, false)))
def impl_holdsAlone.T2 : Bool × List (List Nat × List Nat) := (true, [([], []), ([], []), ([1], [1]), ([2], [2]), ([2], [2]), ([3, 4, 2, 2], [2, 3, 4]), ([5, 2], [2, 5]), ([6, 2], [2, 6]), ([2, 7], [2, 7]), ([0, 5, 0], [0]), ([8, 9, 0, 1, 2, 3, 4, 5, 6, 7, 8, 9], [8])])
def impl_holdsAlone.B2 : List Nat := [0, 0, 2, 6, 6, 30, 62, 126, 254, 63, 1023]
theorem impl_holdsAlone.tab2 : rtab .any (opsOf Try.f70 2) = impl_holdsAlone.T2 := by kernel_rfl
theorem impl_holdsAlone.bits2 : waitsOk impl_holdsAlone.T2.2 impl_holdsAlone.B2 = true := by kernel_rfl
theorem impl_holdsAlone.calls (k : Nat) (A0_0 : Option Addr) (c0_0 : Nat) (l0_0 : List (S164)) (A0_1 : Option Addr) (c0_1 : Nat) (l0_1 : List (S115)) (A1 : Option Addr) (c1 : Nat) (l1 : List (S113)) (A2 : Option Addr) (c2 : Nat) (l2 : List Int) (r1 : List Int) (r2 : Int) (r3 : Bool) (w : World) (IA : Kd.C k164 w A0_0 l0_0.length l0_0) (KA : l0_0.length ≤ c0_0) (GA : Kd.C k115 w A0_1 l0_1.length l0_1) (JA : l0_1.length ≤ c0_1) (CB : Kd.C k113 w A1 l1.length l1) (LB : l1.length ≤ c1) (BB : Kd.C (Kd.int .i64) w A2 l2.length l2) (KB : l2.length ≤ c2) (h : impl_holdsAlone.f k l0_0 l0_1 l1 l2 = some (r1, r2, r3)) :
  Calls Try.prog 70 #[.agg #[.slice A0_0 l0_0.length c0_0, .slice A0_1 l0_1.length c0_1], .slice A1 l1.length c1, .slice A2 l2.length c2] w fun e w' => ∃ v0_ : Value, e = .returned (.tuple #[.agg #[v0_, .int .i64 r2], .bool r3]) ∧ Kd.R (Kd.int .i64) 2 w' w.heap.size (fun _ => True) v0_ r1 ∧ Below w.heap.size w w' := by
 have XD := Try.underlying27
 have WC := Try.underlying35
 have TA := zQ IA
 have VA := zQ KA
 clear IA KA
 have SA := zQ GA
 have UA := zQ JA
 clear GA JA
 have jB := zQ CB
 have lB := zQ LB
 clear CB LB
 have vB := zQ BB
 have wB := zQ KB
 clear BB KB
 have HB := zQ (Below.refl w.heap.size w)
 have H := h; unfold impl_holdsAlone.f at H
 clear h
 replace H := zob H; obtain ⟨⟨lA, pA, VC⟩, A4, H⟩ := H
 by_cases c5 : VC = true
 ·subst c5
  rw [if_pos rfl] at H; replace H := zob H; obtain ⟨nB, A6, H⟩ := H
  simp only [Option.some.injEq, Prod.mk.injEq] at H
  obtain ⟨rfl, rfl, rfl⟩ := H
  go_enter Try.func70, Try.ntmps70
  try go_wp2_with (first | ((with_reducible refine zd 3 ?_); (try (refine gate_guard (by rfl) ?_; dsimp only)); refine zbx (N := 3) (cs := #[.slice A0_0 l0_0.length c0_0, .slice A0_1 l0_1.length c0_1]) (t := 27) ?_; intro LA hg w7 sA hb; have aA := zQ (sA); have XA := zgz hg HB.out; have mA := XA; replace HB := zbs HB.out hb; clear hb sA hg) | ((with_reducible refine zd 6 ?_); (try (refine gate_guard (by rfl) ?_; dsimp only)); refine zbx (N := 6) (cs := #[.slice none 0 0, .int .i64 0]) (t := 35) ?_; intro kA hg w8 sA hb; have bA := zQ (sA); have WA := zgz2 hg HB.out mA.out; have qA := WA; have jA := zn1 hg aA.out; have nA := zn2 hg aA.out; replace aA := zbl aA.out hb; replace HB := zbs2 HB.out mA.out hb; clear hb sA hg; have dE := jA.out; have cE := nA.out; obtain ⟨KC, JC, BC, AC⟩ := zy2 aA.out) | ((with_reducible refine zgc 73 ?_); refine zgo (some 14) Try.func73 #[.agg #[.slice A0_0 l0_0.length c0_0, .slice A0_1 l0_1.length c0_1], .slice A1 l1.length c1, .slice A2 l2.length c2] ?_; (with_reducible refine (impl_solveBars.calls k _ _ l0_0 _ _ l0_1 _ _ l1 _ _ l2 lA pA true _ (zC TA.out HB.out) VA.out (zC SA.out HB.out) UA.out (zC jB.out HB.out) lB.out (zC vB.out HB.out) wB.out A4.out).mono ?_); rintro e sE ⟨SC, rfl, YA, hb⟩; refine ⟨_, rfl, ?_⟩; have fA := zQ (Kd.R_lower YA (below_size (zB3 HB.out mA.out qA.out))); replace aA := zbl aA.out hb; replace bA := zbl bA.out hb; replace HB := zQ (below_step (zB3 HB.out mA.out qA.out) hb); (try clear hb); (try clear YA)) | ((with_reducible refine zd 8 ?_); (try (refine gate_guard (by rfl) ?_; dsimp only)); refine zbx (N := 8) (cs := #[.slice none 0 0, .int .i64 0]) (t := 35) ?_; intro dA hg mB sA hb; have gA := zQ (sA); have cC := zQ ((by rw [hg]; exact (below_size (zB3 HB.out mA.out qA.out)) : w.heap.size ≤ dA)); have DA := zQ ((by rw [hg]; exact (below_size (zB3 HB.out mA.out qA.out)) : w.heap.size ≤ dA)); have oA := zn1 hg aA.out; have zA := zn2 hg aA.out; have iA := zn1 hg bA.out; have eA := zn2 hg bA.out; replace fA := zRb fA.out hb; replace aA := zbl aA.out hb; replace bA := zbl bA.out hb; replace HB := zQ (below_step (zB3 HB.out mA.out qA.out) hb); clear hb sA hg; obtain ⟨uA, tA, aD⟩ := Kd.R_slice fA.out; subst aD; have vD := zA.out; have qD := oA.out; have uD := eA.out; have pD := iA.out; obtain ⟨IC, GC, yC, xC⟩ := zy2 gA.out))
  have n0_ : Aside0 (Kd.R (Kd.int .i64) 2 ((mB.setCell ⟨dA, 0, none⟩ (.slice uA lA.length tA)).setCell ⟨dA, 1, none⟩ (.int .i64 pA)) w.heap.size (fun _ => True) (.slice uA lA.length tA) lA) := ⟨by (with_reducible repeat (first | apply Kd.R_alloc | apply Kd.R_drewN | apply Kd.R_drew)); exact Kd.R_mono (Kd.R_far (p := ⟨dA, 1, none⟩) (Kd.R_far (p := ⟨dA, 0, none⟩) (Kd.R_types fA.out gA.out (by decide)) (fun _ hk => hk.2) (.slice uA lA.length tA)) (fun _ hk => hk.2) (.int .i64 pA)) (fun _ hk => trivial)⟩; have n1_ : Aside0 (((mB.setCell ⟨dA, 0, none⟩ (.slice uA lA.length tA)).setCell ⟨dA, 1, none⟩ (.int .i64 pA)).heap[LA]? = some (.cells #[.slice A0_0 l0_0.length c0_0, .slice A0_1 l0_1.length c0_1] 27 (0, 0))) := ⟨by refine zb ?_; refine blk_far ?_ oA.out _; refine zb ?_; refine blk_far ?_ oA.out _; refine zb ?_; exact aA.out⟩; have n2_ : Aside0 (((mB.setCell ⟨dA, 0, none⟩ (.slice uA lA.length tA)).setCell ⟨dA, 1, none⟩ (.int .i64 pA)).heap[kA]? = some (.cells #[.slice none 0 0, .int .i64 0] 35 (0, 0))) := ⟨by refine zb ?_; refine blk_far ?_ iA.out _; refine zb ?_; refine blk_far ?_ iA.out _; refine zb ?_; exact bA.out⟩
  have n3_ : Aside0 (((mB.setCell ⟨dA, 0, none⟩ (.slice uA lA.length tA)).setCell ⟨dA, 1, none⟩ (.int .i64 pA)).heap[dA]? = some (.cells #[.slice uA lA.length tA, .int .i64 pA] 35 (0, 0))) := ⟨by refine zb ?_; refine blk_put (cs := #[.slice uA lA.length tA, .int .i64 0]) ?_ 1 _ rfl; refine zb ?_; refine blk_put (cs := #[.slice none 0 0, .int .i64 0]) ?_ 0 _ rfl; refine zb ?_; exact gA.out⟩; have n4_ : Aside0 (Below w.heap.size w ((mB.setCell ⟨dA, 0, none⟩ (.slice uA lA.length tA)).setCell ⟨dA, 1, none⟩ (.int .i64 pA))) := ⟨by repeat (first | (with_reducible first | exact HB.out | apply below_alloc | apply pw_below_drewN | apply below_drew1 | refine below_set ?_ mA.out | refine below_set ?_ qA.out | refine below_set ?_ DA.out) | exact HB.out)⟩
  (try clear fA)
  (try clear aA)
  (try clear bA)
  (try clear gA)
  (try clear HB)
  generalize ((mB.setCell ⟨dA, 0, none⟩ (.slice uA lA.length tA)).setCell ⟨dA, 1, none⟩ (.int .i64 pA)) = ND at n0_ n1_ n2_ n3_ n4_ ⊢
  have fA := n0_; have aA := n1_; have bA := n2_; have gA := n3_; have HB := n4_; clear n0_ n1_ n2_ n3_ n4_; have n0_ := zQ (Kd.R_drew fA.out); have n1_ := zQ (blk_drew aA.out); have n2_ := zQ (blk_drew bA.out); have n3_ := zQ (blk_drew gA.out); have n4_ := zQ (below_drew1 HB.out); clear fA; clear aA; clear bA; clear gA; clear HB; have fA := n0_; have aA := n1_; have bA := n2_; have gA := n3_; have HB := n4_; clear n0_ n1_ n2_ n3_ n4_
  refine zs (fun w' => w'.cell? ⟨dA, 0, none⟩ = some (.slice uA lA.length tA) ∧ w'.cell? ⟨dA, 1, none⟩ = some (.int .i64 pA) ∧ w'.cell? ⟨LA, 0, none⟩ = some (.slice A0_0 l0_0.length c0_0) ∧ w'.cell? ⟨LA, 1, none⟩ = some (.slice A0_1 l0_1.length c0_1)) [] 11 ⟨(blk_cell gA.out 0).trans rfl, (blk_cell gA.out 1).trans rfl, (blk_cell aA.out 0).trans rfl, (blk_cell aA.out 1).trans rfl⟩ (fun cA => ?_); refine with_tabW impl_holdsAlone.tab2 impl_holdsAlone.bits2 (fun HT_ HW_ => ?_)
  generalize ND.drew = MD at fA aA bA gA HB cA ⊢
  refine zp 1 18 ?_
  refine zp 2 19 ?_
  refine zt 0 17 cA ?_
  refine zt 3 20 cA ?_
  refine zt 4 21 cA ?_
  refine zo 5 (some 22) (fun K hK => ?_)
  refine goes_ Try.func77 (by kernel_rfl) rfl #[.agg #[.slice A0_0 l0_0.length c0_0, .slice A0_1 l0_1.length c0_1], .agg #[.slice uA lA.length tA, .int .i64 pA]] (by rfl) rfl rfl zM ?_
  with_reducible refine (impl_pushedWires.calls k _ _ l0_0 _ _ l0_1 _ _ lA pA nB _ ?side1 ?side2 ?side3 ?side4 ?side5 ?side6 A6.out).mono ?_
  (case side1 => exact zC TA.out HB.out)
  (case side2 => exact VA.out)
  (case side3 => exact zC SA.out HB.out)
  (case side4 => exact UA.out)
  (case side5 => exact zk (Kd.R_reads' fA.out).2.2)
  (case side6 => exact (Kd.R_reads' fA.out).2.1)
  rintro e jD ⟨PD, rfl, YA, hb⟩
  refine ⟨_, rfl, ?_⟩
  have n0_ := zQ (Kd.R_elder' (zR fA.out) (Kd.R_base YA) hb); have n1_ := zQ (Kd.R_lower (Kd.R_new' YA (Kd.R_lt (zR fA.out))) (below_size (by repeat (first | (with_reducible first | exact HB.out | apply below_alloc | apply pw_below_drewN | apply below_drew1 | refine below_set ?_ mA.out | refine below_set ?_ qA.out | refine below_set ?_ DA.out) | exact HB.out)))); have n2_ := zbl aA.out hb; have n3_ := zbl bA.out hb; have n4_ := zbl gA.out hb; have n5_ := zQ (below_step (by repeat (first | (with_reducible first | exact HB.out | apply below_alloc | apply pw_below_drewN | apply below_drew1 | refine below_set ?_ mA.out | refine below_set ?_ qA.out | refine below_set ?_ DA.out) | exact HB.out)) hb); clear fA; clear aA; clear bA; clear gA; clear HB; have fA := n0_; have YB := n1_; have aA := n2_; have bA := n3_; have gA := n4_; have HB := n5_; clear n0_ n1_ n2_ n3_ n4_ n5_
  (try clear hb)
  (try clear EA)
  (try clear hk)
  (try clear hi)
  (try clear YA)
  obtain ⟨kE, gE, PB⟩ := Kd.R_slice YB.out
  (first | subst PB | (injection PB with f1_ f2_ f3_; have f4_ := f1_.symm; have f5_ := f3_.symm; clear f1_ f2_ f3_; subst f4_; subst f5_))
  refine hK.out _ _ ⟨(blk_cell gA.out 0).trans rfl, (blk_cell gA.out 1).trans rfl, (blk_cell aA.out 0).trans rfl, (blk_cell aA.out 1).trans rfl⟩ (fun cA => ?_)
  clear hK K
  refine zn 22 ?_
  refine zp 6 23 ?_
  refine zp 7 24 ?_
  refine zp 8 25 ?_
  refine zo 9 none (fun K hK => ?_)
  have bE : jD.cell? ⟨kA, 0, none⟩ = some (.slice none 0 0) := (blk_cell bA.out 0).trans rfl; have DD := zfz bA.out 0; have kC := jA.out; have jC := eA.out; have sC := nA.out; have rC := iA.out; have aE : jD.cell? ⟨kA, 1, none⟩ = some (.int .i64 0) := (blk_cell bA.out 1).trans rfl; have CD := zfz bA.out 1; have iC := jA.out; have hC := eA.out; have qC := nA.out; have pC := iA.out
  refine skip_ (w1 := ?_) (by rfl) rfl ?_ ?_
  rotate_left
  ·go_simp
   rfl
  refine hK.out _ _ ⟨((cell_far (p := ⟨kA, _, none⟩) eA.out _).trans (((cell_far (p := ⟨kA, _, none⟩) eA.out _).trans (cA.1)))), ((cell_far (p := ⟨kA, _, none⟩) eA.out _).trans (((cell_far (p := ⟨kA, _, none⟩) eA.out _).trans (cA.2.1)))), ((cell_far (p := ⟨kA, _, none⟩) jA.out _).trans (((cell_far (p := ⟨kA, _, none⟩) jA.out _).trans (cA.2.2.1)))), ((cell_far (p := ⟨kA, _, none⟩) jA.out _).trans (((cell_far (p := ⟨kA, _, none⟩) jA.out _).trans (cA.2.2.2))))⟩ (fun cA => ?_)
  clear hK K
  refine zp 10 7 ?_
  refine done_ (done_of HT_.out (by kernel_rfl)) ?_
  try go_wp2
  refine bodyPost_ret (results_ct rfl _ _ kA 35 #[.slice uA lA.length tA, .int .i64 pA] (0, 0) _ rfl (by refine zb ?_; refine blk_put (cs := #[.slice uA lA.length tA, .int .i64 0]) ?_ 1 _ rfl; refine zb ?_; refine blk_put (cs := #[.slice none 0 0, .int .i64 0]) ?_ 0 _ rfl; refine zb ?_; exact bA.out) Try.underlying35 rfl (by kernel_rfl)) rfl ?_
  exact ⟨_, zE, by (with_reducible repeat (first | apply Kd.R_alloc | apply Kd.R_drewN | apply Kd.R_drew)); exact Kd.R_mono (Kd.R_far (p := ⟨kA, 1, none⟩) (Kd.R_far (p := ⟨kA, 0, none⟩) (Kd.R_types fA.out bA.out (by decide)) (fun _ hk => hk.2) (.slice uA lA.length tA)) (fun _ hk => hk.2) (.int .i64 pA)) (fun _ hk => trivial), by repeat (first | (with_reducible first | exact HB.out | apply below_alloc | apply pw_below_drewN | apply below_drew1 | refine below_set ?_ mA.out | refine below_set ?_ qA.out | refine below_set ?_ DA.out) | exact HB.out)⟩
 ·replace c5 := Bool.eq_false_iff.mpr c5
  subst c5
  rw [if_neg Bool.false_ne_true] at H
  simp only [Option.some.injEq, Prod.mk.injEq] at H
  obtain ⟨rfl, rfl, rfl⟩ := H
  go_enter Try.func70, Try.ntmps70
  try go_wp2_with (first | ((with_reducible refine zd 3 ?_); (try (refine gate_guard (by rfl) ?_; dsimp only)); refine zbx (N := 3) (cs := #[.slice A0_0 l0_0.length c0_0, .slice A0_1 l0_1.length c0_1]) (t := 27) ?_; intro LA hg pE sA hb; have aA := zQ (sA); have XA := zgz hg HB.out; have mA := XA; replace HB := zbs HB.out hb; clear hb sA hg) | ((with_reducible refine zd 6 ?_); (try (refine gate_guard (by rfl) ?_; dsimp only)); refine zbx (N := 6) (cs := #[.slice none 0 0, .int .i64 0]) (t := 35) ?_; intro kA hg KD sA hb; have bA := zQ (sA); have WA := zgz2 hg HB.out mA.out; have qA := WA; have jA := zn1 hg aA.out; have nA := zn2 hg aA.out; replace aA := zbl aA.out hb; replace HB := zbs2 HB.out mA.out hb; clear hb sA hg; have tD := jA.out; have oD := nA.out; obtain ⟨FC, EC, wC, vC⟩ := zy2 aA.out) | ((with_reducible refine zgc 73 ?_); refine zgo (some 14) Try.func73 #[.agg #[.slice A0_0 l0_0.length c0_0, .slice A0_1 l0_1.length c0_1], .slice A1 l1.length c1, .slice A2 l2.length c2] ?_; (with_reducible refine (impl_solveBars.calls k _ _ l0_0 _ _ l0_1 _ _ l1 _ _ l2 lA pA false _ (zC TA.out HB.out) VA.out (zC SA.out HB.out) UA.out (zC jB.out HB.out) lB.out (zC vB.out HB.out) wB.out A4.out).mono ?_); rintro e nE ⟨SC, rfl, YA, hb⟩; refine ⟨_, rfl, ?_⟩; have fA := zQ (Kd.R_lower YA (below_size (zB3 HB.out mA.out qA.out))); replace aA := zbl aA.out hb; replace bA := zbl bA.out hb; replace HB := zQ (below_step (zB3 HB.out mA.out qA.out) hb); (try clear hb); (try clear YA)) | ((with_reducible refine zd 8 ?_); (try (refine gate_guard (by rfl) ?_; dsimp only)); refine zbx (N := 8) (cs := #[.slice none 0 0, .int .i64 0]) (t := 35) ?_; intro dA hg tB sA hb; have gA := zQ (sA); have cC := zQ ((by rw [hg]; exact (below_size (zB3 HB.out mA.out qA.out)) : w.heap.size ≤ dA)); have DA := zQ ((by rw [hg]; exact (below_size (zB3 HB.out mA.out qA.out)) : w.heap.size ≤ dA)); have oA := zn1 hg aA.out; have zA := zn2 hg aA.out; have iA := zn1 hg bA.out; have eA := zn2 hg bA.out; replace fA := zRb fA.out hb; replace aA := zbl aA.out hb; replace bA := zbl bA.out hb; replace HB := zQ (below_step (zB3 HB.out mA.out qA.out) hb); clear hb sA hg; obtain ⟨wA, vA, ZC⟩ := Kd.R_slice fA.out; subst ZC; have sD := zA.out; have nD := oA.out; have rD := eA.out; have mD := iA.out; obtain ⟨DC, CC, uC, tC⟩ := zy2 gA.out))
  have n0_ : Aside0 (Kd.R (Kd.int .i64) 2 ((tB.setCell ⟨dA, 0, none⟩ (.slice wA lA.length vA)).setCell ⟨dA, 1, none⟩ (.int .i64 pA)) w.heap.size (fun _ => True) (.slice wA lA.length vA) lA) := ⟨by (with_reducible repeat (first | apply Kd.R_alloc | apply Kd.R_drewN | apply Kd.R_drew)); exact Kd.R_mono (Kd.R_far (p := ⟨dA, 1, none⟩) (Kd.R_far (p := ⟨dA, 0, none⟩) (Kd.R_types fA.out gA.out (by decide)) (fun _ hk => hk.2) (.slice wA lA.length vA)) (fun _ hk => hk.2) (.int .i64 pA)) (fun _ hk => trivial)⟩; have n1_ : Aside0 (((tB.setCell ⟨dA, 0, none⟩ (.slice wA lA.length vA)).setCell ⟨dA, 1, none⟩ (.int .i64 pA)).heap[LA]? = some (.cells #[.slice A0_0 l0_0.length c0_0, .slice A0_1 l0_1.length c0_1] 27 (0, 0))) := ⟨by refine zb ?_; refine blk_far ?_ oA.out _; refine zb ?_; refine blk_far ?_ oA.out _; refine zb ?_; exact aA.out⟩; have n2_ : Aside0 (((tB.setCell ⟨dA, 0, none⟩ (.slice wA lA.length vA)).setCell ⟨dA, 1, none⟩ (.int .i64 pA)).heap[kA]? = some (.cells #[.slice none 0 0, .int .i64 0] 35 (0, 0))) := ⟨by refine zb ?_; refine blk_far ?_ iA.out _; refine zb ?_; refine blk_far ?_ iA.out _; refine zb ?_; exact bA.out⟩
  have n3_ : Aside0 (((tB.setCell ⟨dA, 0, none⟩ (.slice wA lA.length vA)).setCell ⟨dA, 1, none⟩ (.int .i64 pA)).heap[dA]? = some (.cells #[.slice wA lA.length vA, .int .i64 pA] 35 (0, 0))) := ⟨by refine zb ?_; refine blk_put (cs := #[.slice wA lA.length vA, .int .i64 0]) ?_ 1 _ rfl; refine zb ?_; refine blk_put (cs := #[.slice none 0 0, .int .i64 0]) ?_ 0 _ rfl; refine zb ?_; exact gA.out⟩; have n4_ : Aside0 (Below w.heap.size w ((tB.setCell ⟨dA, 0, none⟩ (.slice wA lA.length vA)).setCell ⟨dA, 1, none⟩ (.int .i64 pA))) := ⟨by repeat (first | (with_reducible first | exact HB.out | apply below_alloc | apply pw_below_drewN | apply below_drew1 | refine below_set ?_ mA.out | refine below_set ?_ qA.out | refine below_set ?_ DA.out) | exact HB.out)⟩
  (try clear fA)
  (try clear aA)
  (try clear bA)
  (try clear gA)
  (try clear HB)
  generalize ((tB.setCell ⟨dA, 0, none⟩ (.slice wA lA.length vA)).setCell ⟨dA, 1, none⟩ (.int .i64 pA)) = JD at n0_ n1_ n2_ n3_ n4_ ⊢
  have fA := n0_; have aA := n1_; have bA := n2_; have gA := n3_; have HB := n4_; clear n0_ n1_ n2_ n3_ n4_; have n0_ := zQ (Kd.R_drew fA.out); have n1_ := zQ (blk_drew aA.out); have n2_ := zQ (blk_drew bA.out); have n3_ := zQ (blk_drew gA.out); have n4_ := zQ (below_drew1 HB.out); clear fA; clear aA; clear bA; clear gA; clear HB; have fA := n0_; have aA := n1_; have bA := n2_; have gA := n3_; have HB := n4_; clear n0_ n1_ n2_ n3_ n4_
  refine zs (fun w' => w'.cell? ⟨dA, 0, none⟩ = some (.slice wA lA.length vA) ∧ w'.cell? ⟨dA, 1, none⟩ = some (.int .i64 pA)) [] 11 ⟨(blk_cell gA.out 0).trans rfl, (blk_cell gA.out 1).trans rfl⟩ (fun cA => ?_); refine with_tabW impl_holdsAlone.tab2 impl_holdsAlone.bits2 (fun HT_ HW_ => ?_)
  generalize JD.drew = iD at fA aA bA gA HB cA ⊢
  refine zp 1 18 ?_
  refine zp 2 19 ?_
  refine zg 3 20 ?_
  refine zg 4 21 ?_
  refine zg 5 22 ?_
  refine zg 6 23 ?_
  refine zg 7 24 ?_
  refine zp 8 25 ?_
  refine zt 0 17 cA ?_
  refine zo 9 none (fun K hK => ?_)
  have ZD : iD.cell? ⟨kA, 0, none⟩ = some (.slice none 0 0) := (blk_cell bA.out 0).trans rfl; have BD := zfz bA.out 0; have gC := jA.out; have fC := eA.out; have oC := nA.out; have nC := iA.out; have YD : iD.cell? ⟨kA, 1, none⟩ = some (.int .i64 0) := (blk_cell bA.out 1).trans rfl; have AD := zfz bA.out 1; have eC := jA.out; have dC := eA.out; have mC := nA.out; have lC := iA.out
  refine skip_ (w1 := ?_) (by rfl) rfl ?_ ?_
  rotate_left
  ·go_simp
   rfl
  refine hK.out _ _ ⟨((cell_far (p := ⟨kA, _, none⟩) eA.out _).trans (((cell_far (p := ⟨kA, _, none⟩) eA.out _).trans (cA.1)))), ((cell_far (p := ⟨kA, _, none⟩) eA.out _).trans (((cell_far (p := ⟨kA, _, none⟩) eA.out _).trans (cA.2))))⟩ (fun cA => ?_)
  clear hK K
  refine zp 10 7 ?_
  refine done_ (done_of HT_.out (by kernel_rfl)) ?_
  try go_wp2
  refine bodyPost_ret (results_ct rfl _ _ kA 35 #[.slice wA lA.length vA, .int .i64 pA] (0, 0) _ rfl (by refine zb ?_; refine blk_put (cs := #[.slice wA lA.length vA, .int .i64 0]) ?_ 1 _ rfl; refine zb ?_; refine blk_put (cs := #[.slice none 0 0, .int .i64 0]) ?_ 0 _ rfl; refine zb ?_; exact bA.out) Try.underlying35 rfl (by kernel_rfl)) rfl ?_
  exact ⟨_, zE, by (with_reducible repeat (first | apply Kd.R_alloc | apply Kd.R_drewN | apply Kd.R_drew)); exact Kd.R_mono (Kd.R_far (p := ⟨kA, 1, none⟩) (Kd.R_far (p := ⟨kA, 0, none⟩) (Kd.R_types fA.out bA.out (by decide)) (fun _ hk => hk.2) (.slice wA lA.length vA)) (fun _ hk => hk.2) (.int .i64 pA)) (fun _ hk => trivial), by repeat (first | (with_reducible first | exact HB.out | apply below_alloc | apply pw_below_drewN | apply below_drew1 | refine below_set ?_ mA.out | refine below_set ?_ qA.out | refine below_set ?_ DA.out) | exact HB.out)⟩

end
end Go.Proofs.Ytimjblgepbhoaaa.PStays

