/- The walks of the functions that the law reaches: each computes what its Lean function says. No condition beyond each contract's own. -/
import Derived.Test.YtimjblgepbhoaaaHStays0
import Derived.Test.YtimjblgepbhoaaaHStaysa
import Derived.Test.YtimjblgepbhoaaaHStaysb
import Derived.Test.YtimjblgepbhoaaaHStaysd
import Derived.Test.YtimjblgepbhoaaaHStaysl
import Derived.Test.YtimjblgepbhoaaaHStaysn
import Derived.Test.YtimjblgepbhoaaaHStaysv
import Derived.Test.YtimjblgepbhoaaaHStaysx
import Derived.Test.YtimjblgepbhoaaaHStayszd
namespace Go.Proofs.Ytimjblgepbhoaaa.PStays
noncomputable section
open Go.RowKit Go.Proofs.YtimjblgepbhoaaaW.PrintWords Go.Proofs.YtimjblgepbhoaaaW.PrintLast Go.Proofs.YtimjblgepbhoaaaW.PrintMore
attribute [local go_sem] max2_int min2_int max_two min_two max_three min_three max_four min_four   -- for this text's walks alone
set_option linter.unusedVariables false
set_option linter.unusedSimpArgs false

/-! ### impl_GreatestLoad: function 28 -/
def impl_GreatestLoad.l0 : Nat → Int → Int → List Int → Int → Int → List Int → Int → Option (Int × Int)
 | 0, _, _, _, _, _, _, _ => none
 | k + 1, x2, x10, x31, x32, x33, x201000, x201001 => if x33 < x32 then (if 0 ≤ x33 then (if x33 < (x31.length : Int) then (if (rd x31 x33) = 0 then (impl_GreatestLoad.l0 k x2 x10 x31 x32 (wrap64 (x33 + 1)) x201000 x201001) else (if (mx (rd x31 x33) (wrap64 (-(rd x31 x33)))) = 0 then (none) else (if x10 < 0 then (impl_GreatestLoad.l0 k x2 (wrap64 (Int.tdiv (wrap64 (x2 * x201001)) (mx (rd x31 x33) (wrap64 (-(rd x31 x33)))))) x31 x32 (wrap64 (x33 + 1)) x201000 x201001) else (if (wrap64 (Int.tdiv (wrap64 (x2 * x201001)) (mx (rd x31 x33) (wrap64 (-(rd x31 x33)))))) < x10 then (impl_GreatestLoad.l0 k x2 (wrap64 (Int.tdiv (wrap64 (x2 * x201001)) (mx (rd x31 x33) (wrap64 (-(rd x31 x33)))))) x31 x32 (wrap64 (x33 + 1)) x201000 x201001) else (impl_GreatestLoad.l0 k x2 x10 x31 x32 (wrap64 (x33 + 1)) x201000 x201001))))) else (none)) else (none)) else (if x10 < 0 then (some (0, 3)) else (some (x10, 0)))
def impl_GreatestLoad.f (k : Nat) (l0_0 : List (S164)) (l0_1 : List (S115)) (l1 : List (S113)) (a2 : Int) : Option (Int × Int) := (impl_ValidLoads.f k l0_0 l0_1 l1).bind fun t193 => (if t193 = true then ((impl_within.f a2 1 1000000).bind fun t194 => (if t194 = true then ((impl_HoldingDensities.f k l0_0 l0_1 l1).bind fun bt195 => (if bt195.2.2 = 0 then (impl_GreatestLoad.l0 k a2 (-1) bt195.1 (bt195.1.length : Int) 0 bt195.1 bt195.2.1) else (some (0, bt195.2.2)))) else (some (0, 2)))) else (some (0, 1)))
theorem impl_GreatestLoad.mono_l : ∀ k, (∀ y0 y1 y2 y3 y4 y5 y6, LeO (impl_GreatestLoad.l0 k y0 y1 y2 y3 y4 y5 y6) (impl_GreatestLoad.l0 (k + 1) y0 y1 y2 y3 y4 y5 y6))
 | 0 => fun _ _ _ _ _ _ _ r h => by simp [impl_GreatestLoad.l0] at h
 | k + 1 => by
  have ih0 := impl_GreatestLoad.mono_l k
  ·intro y0 y1 y2 y3 y4 y5 y6
   unfold impl_GreatestLoad.l0
   (with_reducible repeat' first | apply ih0 | apply impl_HoldingDensities.mono | apply impl_ValidLoads.mono | apply LeO.refl | apply LeO.none | refine LeO.ite ?_ ?_ | refine LeO.bind ?_ (fun _ => ?_))
   repeat' first | apply ih0 | apply impl_HoldingDensities.mono | apply impl_ValidLoads.mono | apply LeO.none | refine LeO.ite ?_ ?_ | refine LeO.bind ?_ (fun _ => ?_)
theorem impl_GreatestLoad.mono : ∀ a0 a1 a2 a3 k, LeO (impl_GreatestLoad.f k a0 a1 a2 a3) (impl_GreatestLoad.f (k + 1) a0 a1 a2 a3) := by
 intro a0 a1 a2 a3 k
 have ih0 := impl_GreatestLoad.mono_l k
 unfold impl_GreatestLoad.f
 (with_reducible repeat' first | apply ih0 | apply impl_HoldingDensities.mono | apply impl_ValidLoads.mono | apply LeO.refl | apply LeO.none | refine LeO.ite ?_ ?_ | refine LeO.bind ?_ (fun _ => ?_))
 repeat' first | apply ih0 | apply impl_HoldingDensities.mono | apply impl_ValidLoads.mono | apply LeO.none | refine LeO.ite ?_ ?_ | refine LeO.bind ?_ (fun _ => ?_)
set_option maxHeartbeats 8000000 in
set_option maxRecDepth 100000 in
theorem impl_GreatestLoad.calls (k : Nat) (A0_0 : Option Addr) (c0_0 : Nat) (l0_0 : List (S164)) (A0_1 : Option Addr) (c0_1 : Nat) (l0_1 : List (S115)) (A1 : Option Addr) (c1 : Nat) (l1 : List (S113)) (a2 : Int) (r1 : Int) (r2 : Int) (w : World) (hr0_0 : Kd.C k164 w A0_0 l0_0.length l0_0) (hc0_0 : l0_0.length ≤ c0_0) (hr0_1 : Kd.C k115 w A0_1 l0_1.length l0_1) (hc0_1 : l0_1.length ≤ c0_1) (hr1 : Kd.C k113 w A1 l1.length l1) (hc1 : l1.length ≤ c1) (h : impl_GreatestLoad.f k l0_0 l0_1 l1 a2 = some (r1, r2)) :
  Calls Try.prog 28 #[.agg #[.slice A0_0 l0_0.length c0_0, .slice A0_1 l0_1.length c0_1], .slice A1 l1.length c1, .int .i64 a2] w fun e w' => e = .returned (.tuple #[.int .i64 r1, .int .i64 r2]) ∧ Below w.heap.size w w' := by
 have hu27 := Try.underlying27
 have hu35 := Try.underlying35
 have HR0_0 := zQ hr0_0
 have HC0_0 := zQ hc0_0
 clear hr0_0 hc0_0
 have HR0_1 := zQ hr0_1
 have HC0_1 := zQ hc0_1
 clear hr0_1 hc0_1
 have HR1 := zQ hr1
 have HC1 := zQ hc1
 clear hr1 hc1
 have HB := zQ (Below.refl w.heap.size w)
 have H : ((impl_ValidLoads.f k l0_0 l0_1 l1).bind fun t193 => (if t193 = true then ((impl_within.f a2 1 1000000).bind fun t194 => (if t194 = true then ((impl_HoldingDensities.f k l0_0 l0_1 l1).bind fun bt195 => (if bt195.2.2 = 0 then (impl_GreatestLoad.l0 k a2 (-1) bt195.1 (bt195.1.length : Int) 0 bt195.1 bt195.2.1) else (some (0, bt195.2.2)))) else (some (0, 2)))) else (some (0, 1)))) = some (r1, r2) := h
 clear h
 replace H := Option.bind_eq_some_iff.mp H
 obtain ⟨t193, A40, H⟩ := H
 replace H : (if t193 = true then ((impl_within.f a2 1 1000000).bind fun t194 => (if t194 = true then ((impl_HoldingDensities.f k l0_0 l0_1 l1).bind fun bt195 => (if bt195.2.2 = 0 then (impl_GreatestLoad.l0 k a2 (-1) bt195.1 (bt195.1.length : Int) 0 bt195.1 bt195.2.1) else (some (0, bt195.2.2)))) else (some (0, 2)))) else (some (0, 1))) = some (r1, r2) := H
 have A4 := zQ A40
 clear A40
 by_cases c5 : t193 = true
 ·subst c5
  have H1 : ((impl_within.f a2 1 1000000).bind fun t194 => (if t194 = true then ((impl_HoldingDensities.f k l0_0 l0_1 l1).bind fun bt195 => (if bt195.2.2 = 0 then (impl_GreatestLoad.l0 k a2 (-1) bt195.1 (bt195.1.length : Int) 0 bt195.1 bt195.2.1) else (some (0, bt195.2.2)))) else (some (0, 2)))) = some (r1, r2) := by rw [if_pos rfl] at H; exact H
  clear H; have H := H1; clear H1; replace H := Option.bind_eq_some_iff.mp H; obtain ⟨t194, A60, H⟩ := H; replace H : (if t194 = true then ((impl_HoldingDensities.f k l0_0 l0_1 l1).bind fun bt195 => (if bt195.2.2 = 0 then (impl_GreatestLoad.l0 k a2 (-1) bt195.1 (bt195.1.length : Int) 0 bt195.1 bt195.2.1) else (some (0, bt195.2.2)))) else (some (0, 2))) = some (r1, r2) := H; have A6 := zQ A60; clear A60
  by_cases c7 : t194 = true
  ·subst c7
   have H1 : ((impl_HoldingDensities.f k l0_0 l0_1 l1).bind fun bt195 => (if bt195.2.2 = 0 then (impl_GreatestLoad.l0 k a2 (-1) bt195.1 (bt195.1.length : Int) 0 bt195.1 bt195.2.1) else (some (0, bt195.2.2)))) = some (r1, r2) := by rw [if_pos rfl] at H; exact H
   clear H; have H := H1; clear H1; replace H := Option.bind_eq_some_iff.mp H; obtain ⟨⟨t195, t198, t199⟩, A80, H⟩ := H; replace H : (if t199 = 0 then (impl_GreatestLoad.l0 k a2 (-1) t195 (t195.length : Int) 0 t195 t198) else (some (0, t199))) = some (r1, r2) := H; have A8 := zQ A80; clear A80
   by_cases c9 : t199 = 0
   ·rw [if_pos c9] at H
    have c9b0 : (t199 == 0) = true := beq_iff_eq.mpr c9; have c9b1 : (t199 != 0) = false := bne_eq_false_iff_eq.mpr c9; clear c9; have H' := zQ H; clear H
    go_enter Try.func28, Try.ntmps28
    go_wp2_with (first | ((with_reducible refine zd 3 ?_); refine zbx (N := 3) (cs := #[.slice A0_0 l0_0.length c0_0, .slice A0_1 l0_1.length c0_1]) (t := 27) ?_; intro gb192 hg w10 hbox hb; have BK192 := zQ (hbox); have GW192 := zgz hg HB.out; have GE192 := GW192; replace HB := zbs HB.out hb; clear hb hbox hg; have hcz11_0 := zc0 BK192.out; have hcz11_1 := zc1 BK192.out; have hfz11_0 := zfz BK192.out 0; have hfz11_1 := zfz BK192.out 1) | ((with_reducible refine zgc 67 ?_); refine goesL_ (some 16) rfl rfl Try.func67 (by kernel_rfl) rfl #[.agg #[.slice A0_0 l0_0.length c0_0, .slice A0_1 l0_1.length c0_1], .slice A1 l1.length c1] rfl zM ?_; (with_reducible refine (impl_ValidLoads.calls k _ _ l0_0 _ _ l0_1 _ _ l1 true _ (zC HR0_0.out HB.out) HC0_0.out (zC HR0_1.out HB.out) HC0_1.out (zC HR1.out HB.out) HC1.out A4.out).mono ?_); rintro e w12 ⟨rfl, hb⟩; refine ⟨_, rfl, ?_⟩; replace BK192 := zbl BK192.out hb; replace HB := zbs2 HB.out GE192.out hb; (try clear hb)) | ((with_reducible refine zgc 88 ?_); refine zgo (some 19) Try.func88 #[.int .i64 a2, .int .i64 1, .int .i64 1000000] ?_; (with_reducible refine (impl_within.calls a2 1 1000000 true _ A6.out).mono ?_); rintro e w' ⟨rfl, ⟨nd, rfl⟩⟩; refine ⟨_, rfl, ?_⟩; (try (rw [drewN_self w12]; generalize hq_ : World.drewN w12 _ = w12; have n0_ : Aside0 (w12.heap[gb192]? = some (.cells #[.slice A0_0 l0_0.length c0_0, .slice A0_1 l0_1.length c0_1] 27 (0, 0))) := ⟨by rw [← hq_]; exact (zb BK192.out)⟩; have n1_ : Aside0 (Below w.heap.size w w12) := ⟨by rw [← hq_]; exact (zB2 HB.out GE192.out)⟩; clear BK192 HB hq_; have BK192 := n0_; have HB := n1_; clear n0_ n1_)); (try (have hczrw12_gb192_0 := zc0 BK192.out)); (try (have hfzrw12_gb192_0 := zfz BK192.out 0)); (try (have hczrw12_gb192_1 := zc1 BK192.out)); (try (have hfzrw12_gb192_1 := zfz BK192.out 1)); have hcz13_0 := zc0 BK192.out; have hcz13_1 := zc1 BK192.out; have hfz13_0 := zfz BK192.out 0; have hfz13_1 := zfz BK192.out 1) | ((with_reducible refine zgc 19 ?_); refine goesL_ (some 24) rfl rfl Try.func19 (by kernel_rfl) rfl #[.agg #[.slice A0_0 l0_0.length c0_0, .slice A0_1 l0_1.length c0_1], .slice A1 l1.length c1] rfl zM ?_; (with_reducible refine (impl_HoldingDensities.calls k _ _ l0_0 _ _ l0_1 _ _ l1 t195 t198 t199 _ (zC HR0_0.out HB.out) HC0_0.out (zC HR0_1.out HB.out) HC0_1.out (zC HR1.out HB.out) HC1.out A8.out).mono ?_); rintro e w14 ⟨v196, rfl, ho0, hb⟩; refine ⟨_, rfl, ?_⟩; have HO197 := zQ (Kd.R_lower ho0 (below_size (zB2 HB.out GE192.out))); replace BK192 := zbl BK192.out hb; replace HB := zbs2 HB.out GE192.out hb; (try clear hb); (try clear ho0)) | ((with_reducible refine zd 8 ?_); refine zbx (N := 8) (cs := #[.slice none 0 0, .int .i64 0]) (t := 35) ?_; intro gb200 hg w15 hbox hb; have BK200 := zQ (hbox); have GW200 := zgz2 hg HB.out GE192.out; have GE200 := GW200; have NB192_200 := zQ ((by rw [hg]; exact Nat.ne_of_lt (blk_lt (g := gb192) (o := .cells #[.slice A0_0 l0_0.length c0_0, .slice A0_1 l0_1.length c0_1] 27 (0, 0)) (zb BK192.out)) : gb192 ≠ gb200)); have NB200_192 := zQ ((by rw [hg]; exact Nat.ne_of_gt (blk_lt (g := gb192) (o := .cells #[.slice A0_0 l0_0.length c0_0, .slice A0_1 l0_1.length c0_1] 27 (0, 0)) (zb BK192.out)) : gb200 ≠ gb192)); replace HO197 := zQ (Kd.R_below (zR HO197.out) hb); replace BK192 := zbl BK192.out hb; replace HB := zbs2 HB.out GE192.out hb; clear hb hbox hg; obtain ⟨Ao16, co16, eo16⟩ := Kd.R_slice HO197.out; subst eo16; have hnb17 := NB200_192.out; have hnc17 := NB192_200.out; have hcz18_0 := zc0 BK200.out; have hcz18_1 := zc1 BK200.out; have hfz18_0 := zfz BK200.out 0; have hfz18_1 := zfz BK200.out 1))
    go_loopg [10, 33] k (fun kq v10 v33 w' => ∃ (x10_1 : Int) (x33_1 : Int), v10 = .int .i64 x10_1 ∧ v33 = .int .i64 x33_1 ∧ Aside0 (impl_GreatestLoad.l0 kq a2 x10_1 t195 (t195.length : Int) x33_1 t195 t198 = some (r1, r2)) ∧ Aside0 (kq ≤ k) ∧ Aside0 (Kd.R (Kd.int .i64) 2 w' w.heap.size (fun _ => True) (.slice Ao16 t195.length co16) t195) ∧ Aside0 (Kd.R (Kd.int .i64) 2 w' w.heap.size (fun _ => True) (.slice Ao16 t195.length co16) t195) ∧ Aside0 (w'.heap[gb192]? = some (.cells #[(.slice A0_0 l0_0.length c0_0), (.slice A0_1 l0_1.length c0_1)] 27 (0, 0))) ∧ Aside0 (w'.heap[gb200]? = some (.cells #[(.slice Ao16 t195.length co16), .int .i64 t198] 35 (0, 0))) ∧ Aside0 (Below w.heap.size w w'))
    case atStart => exact ⟨((-1)), (0), (zF), (zF), H', ⟨Nat.le_refl _⟩, ⟨by (with_reducible repeat (first | apply Kd.R_alloc | apply Kd.R_drewN | apply Kd.R_drew)); exact Kd.R_mono (Kd.R_far (p := ⟨gb200, 1, none⟩) (Kd.R_far (p := ⟨gb200, 0, none⟩) (Kd.R_types HO197.out BK200.out (by decide)) (fun _ hk => hk.2) (.slice Ao16 t195.length co16)) (fun _ hk => hk.2) (.int .i64 t198)) (fun _ hk => trivial)⟩, ⟨by (with_reducible repeat (first | apply Kd.R_alloc | apply Kd.R_drewN | apply Kd.R_drew)); exact Kd.R_mono (Kd.R_far (p := ⟨gb200, 1, none⟩) (Kd.R_far (p := ⟨gb200, 0, none⟩) (Kd.R_types HO197.out BK200.out (by decide)) (fun _ hk => hk.2) (.slice Ao16 t195.length co16)) (fun _ hk => hk.2) (.int .i64 t198)) (fun _ hk => trivial)⟩, ⟨by refine zb ?_; refine blk_far ?_ NB192_200.out _; refine zb ?_; refine blk_far ?_ NB192_200.out _; refine zb ?_; exact BK192.out⟩, ⟨by refine zb ?_; refine blk_put (cs := #[.slice Ao16 t195.length co16, .int .i64 0]) ?_ 1 _ rfl; refine zb ?_; refine blk_put (cs := #[.slice none 0 0, .int .i64 0]) ?_ 0 _ rfl; refine zb ?_; exact BK200.out⟩, ⟨zB3 HB.out GE192.out GE200.out⟩⟩
    case round =>
     clear H'; (try clear c1); (try clear c2); (try clear p2); (try clear c5); (try clear c6); (try clear c7); (try clear c8); (try clear c9); (try clear c9b0); (try clear c9b1); (try clear c17); (try clear hcz11_0); (try clear hcz11_1); (try clear hcz13_0); (try clear hcz13_1); (try clear hcz18_0); (try clear hcz18_1); (try clear hfz11_0); (try clear hfz11_1); (try clear hfz13_0); (try clear hfz13_1); (try clear hfz18_0); (try clear hfz18_1); obtain ⟨x10_1, x33_1, rfl, rfl, HA, HK1, HO_31, HO_201000, BK192, BK200, HB⟩ := hrel
     cases gk with
     | zero => exact absurd HA.out (by simp [impl_GreatestLoad.l0])
     | succ k1 =>
      have H := HA.out; clear HA
      simp only [impl_GreatestLoad.l0] at H
      by_cases c19 : x33_1 < (t195.length : Int)
      ·rw [if_pos c19] at H
       have c19b0 : decide (x33_1 < (t195.length : Int)) = true := decide_eq_true c19; clear c19
       by_cases c20 : 0 ≤ x33_1
       ·rw [if_pos c20] at H
        have c20b0 : decide (0 ≤ x33_1) = true := decide_eq_true c20; clear c20
        by_cases c21 : x33_1 < (t195.length : Int)
        ·rw [if_pos c21] at H
         have c21b0 : decide (x33_1 < (t195.length : Int)) = true := decide_eq_true c21; clear c21
         by_cases c22 : (rd t195 x33_1) = 0
         ·rw [if_pos c22] at H
          have c22b0 : ((rd t195 x33_1) == 0) = true := beq_iff_eq.mpr c22; have c22b1 : ((rd t195 x33_1) != 0) = false := bne_eq_false_iff_eq.mpr c22; clear c22; have H' := zQ H; clear H; have p201 : 0 ≤ (x33_1 : Int) := of_decide_eq_true zA; have q201 : x33_1 < (t195.length : Int) := of_decide_eq_true zA; obtain ⟨ad201, e201, hx201_0⟩ := Kd.at_int (Kd.R_reads' HO_31.out).2.2 x33_1 p201 q201
          cases e201
          replace p201 := eq_true p201; replace q201 := eq_true q201
          go_wp2
          go_roundg k1
          case measure => have := HK1.out; omega
          case rel => exact ⟨(x10_1), (wrap64 (x33_1 + 1)), (zF), (zF), H', ⟨by have := HK1.out; omega⟩, ⟨zR HO_31.out⟩, ⟨zR HO_201000.out⟩, ⟨zb BK192.out⟩, ⟨zb BK200.out⟩, ⟨zB3 HB.out GE192.out GE200.out⟩⟩
         ·rw [if_neg c22] at H
          have c22b0 : ((rd t195 x33_1) == 0) = false := beq_eq_false_iff_ne.mpr c22; have c22b1 : ((rd t195 x33_1) != 0) = true := bne_iff_ne.mpr c22; obtain ⟨ji23, hji23⟩ : ∃ j_ : Int, (mx (rd t195 x33_1) (wrap64 (-(rd t195 x33_1)))) = j_ := ⟨_, rfl⟩
          replace H : (if (ji23) = 0 then (none) else (if x10_1 < 0 then (impl_GreatestLoad.l0 k1 a2 (wrap64 (Int.tdiv (wrap64 (a2 * t198)) (ji23))) t195 (t195.length : Int) (wrap64 (x33_1 + 1)) t195 t198) else (if (wrap64 (Int.tdiv (wrap64 (a2 * t198)) (ji23))) < x10_1 then (impl_GreatestLoad.l0 k1 a2 (wrap64 (Int.tdiv (wrap64 (a2 * t198)) (ji23))) t195 (t195.length : Int) (wrap64 (x33_1 + 1)) t195 t198) else (impl_GreatestLoad.l0 k1 a2 x10_1 t195 (t195.length : Int) (wrap64 (x33_1 + 1)) t195 t198)))) = some (r1, r2) := by first | (rw [hji23] at H; exact H) | (simp only [hji23] at H ⊢; exact H)
          have hji23_ : (if (rd t195 x33_1) < (wrap64 (-(rd t195 x33_1))) then (wrap64 (-(rd t195 x33_1))) else (rd t195 x33_1)) = ji23 := hji23
          by_cases c24 : (ji23) = 0
          ·rw [if_pos c24] at H
           exact absurd H (by simp)
          ·rw [if_neg c24] at H
           have c24b0 : ((ji23) == 0) = false := beq_eq_false_iff_ne.mpr c24; have c24b1 : ((ji23) != 0) = true := bne_iff_ne.mpr c24
           by_cases c25 : x10_1 < 0
           ·rw [if_pos c25] at H
            have c25b0 : decide (x10_1 < 0) = true := decide_eq_true c25; clear c25; have H' := zQ H; clear H; have p201 : 0 ≤ (x33_1 : Int) := of_decide_eq_true zA; have q201 : x33_1 < (t195.length : Int) := of_decide_eq_true zA; obtain ⟨ad201, e201, hx201_0⟩ := Kd.at_int (Kd.R_reads' HO_31.out).2.2 x33_1 p201 q201
            cases e201
            replace p201 := eq_true p201; replace q201 := eq_true q201; have hnb26 := NB200_192.out; have hnc26 := NB192_200.out; have hcz27_0 := zc0 BK200.out; have hcz27_1 := zc1 BK200.out; have hfz27_0 := zfz BK200.out 0; have hfz27_1 := zfz BK200.out 1
            go_wp2
            go_roundg k1
            case measure => have := HK1.out; omega
            case rel => exact ⟨(wrap64 (Int.tdiv (wrap64 (a2 * t198)) (ji23))), (wrap64 (x33_1 + 1)), (by first | rfl | (simp; done) | (simp only [← hji23] <;> (first | rfl | simp)) | (simp [*]; done)), (zF), H', ⟨by have := HK1.out; omega⟩, ⟨zR HO_31.out⟩, ⟨zR HO_201000.out⟩, ⟨zb BK192.out⟩, ⟨zb BK200.out⟩, ⟨zB3 HB.out GE192.out GE200.out⟩⟩
           ·rw [if_neg c25] at H
            have c25b0 : decide (x10_1 < 0) = false := decide_eq_false c25; clear c25
            by_cases c28 : (wrap64 (Int.tdiv (wrap64 (a2 * t198)) (ji23))) < x10_1
            ·rw [if_pos c28] at H
             have c28b0 : decide ((wrap64 (Int.tdiv (wrap64 (a2 * t198)) (ji23))) < x10_1) = true := decide_eq_true c28; clear c28; have H' := zQ H; clear H; have p201 : 0 ≤ (x33_1 : Int) := of_decide_eq_true zA; have q201 : x33_1 < (t195.length : Int) := of_decide_eq_true zA; obtain ⟨ad201, e201, hx201_0⟩ := Kd.at_int (Kd.R_reads' HO_31.out).2.2 x33_1 p201 q201
             cases e201
             replace p201 := eq_true p201; replace q201 := eq_true q201; have hnb29 := NB200_192.out; have hnc29 := NB192_200.out; have hcz30_0 := zc0 BK200.out; have hcz30_1 := zc1 BK200.out; have hfz30_0 := zfz BK200.out 0; have hfz30_1 := zfz BK200.out 1
             go_wp2
             go_roundg k1
             case measure => have := HK1.out; omega
             case rel => exact ⟨(wrap64 (Int.tdiv (wrap64 (a2 * t198)) (ji23))), (wrap64 (x33_1 + 1)), (by first | rfl | (simp; done) | (simp only [← hji23] <;> (first | rfl | simp)) | (simp [*]; done)), (zF), H', ⟨by have := HK1.out; omega⟩, ⟨zR HO_31.out⟩, ⟨zR HO_201000.out⟩, ⟨zb BK192.out⟩, ⟨zb BK200.out⟩, ⟨zB3 HB.out GE192.out GE200.out⟩⟩
            ·rw [if_neg c28] at H
             have c28b0 : decide ((wrap64 (Int.tdiv (wrap64 (a2 * t198)) (ji23))) < x10_1) = false := decide_eq_false c28; clear c28; have H' := zQ H; clear H; have p201 : 0 ≤ (x33_1 : Int) := of_decide_eq_true zA; have q201 : x33_1 < (t195.length : Int) := of_decide_eq_true zA; obtain ⟨ad201, e201, hx201_0⟩ := Kd.at_int (Kd.R_reads' HO_31.out).2.2 x33_1 p201 q201
             cases e201
             replace p201 := eq_true p201; replace q201 := eq_true q201; have hnb31 := NB200_192.out; have hnc31 := NB192_200.out; have hcz32_0 := zc0 BK200.out; have hcz32_1 := zc1 BK200.out; have hfz32_0 := zfz BK200.out 0; have hfz32_1 := zfz BK200.out 1
             go_wp2
             go_roundg k1
             case measure => have := HK1.out; omega
             case rel => exact ⟨(x10_1), (wrap64 (x33_1 + 1)), (zF), (zF), H', ⟨by have := HK1.out; omega⟩, ⟨zR HO_31.out⟩, ⟨zR HO_201000.out⟩, ⟨zb BK192.out⟩, ⟨zb BK200.out⟩, ⟨zB3 HB.out GE192.out GE200.out⟩⟩
        ·rw [if_neg c21] at H
         exact absurd H (by simp)
       ·rw [if_neg c20] at H
        exact absurd H (by simp)
      ·rw [if_neg c19] at H
       have c19b0 : decide (x33_1 < (t195.length : Int)) = false := decide_eq_false c19; clear c19
       by_cases c33 : x10_1 < 0
       ·rw [if_pos c33] at H
        have c33b0 : decide (x10_1 < 0) = true := decide_eq_true c33; clear c33
        simp only [Option.some.injEq, Prod.mk.injEq] at H
        obtain ⟨rfl, rfl⟩ := H
        go_wp2
        go_ret2
        exact ⟨zE, zB3 HB.out GE192.out GE200.out⟩
       ·rw [if_neg c33] at H
        have c33b0 : decide (x10_1 < 0) = false := decide_eq_false c33; clear c33
        simp only [Option.some.injEq, Prod.mk.injEq] at H
        obtain ⟨rfl, rfl⟩ := H
        go_wp2
        go_ret2
        exact ⟨zE, zB3 HB.out GE192.out GE200.out⟩
   ·rw [if_neg c9] at H
    have c9b0 : (t199 == 0) = false := beq_eq_false_iff_ne.mpr c9; have c9b1 : (t199 != 0) = true := bne_iff_ne.mpr c9
    simp only [Option.some.injEq, Prod.mk.injEq] at H
    obtain ⟨rfl, rfl⟩ := H
    go_enter Try.func28, Try.ntmps28
    go_wp2_with (first | ((with_reducible refine zd 3 ?_); refine zbx (N := 3) (cs := #[.slice A0_0 l0_0.length c0_0, .slice A0_1 l0_1.length c0_1]) (t := 27) ?_; intro gb192 hg w34 hbox hb; have BK192 := zQ (hbox); have GW192 := zgz hg HB.out; have GE192 := GW192; replace HB := zbs HB.out hb; clear hb hbox hg; have hcz35_0 := zc0 BK192.out; have hcz35_1 := zc1 BK192.out; have hfz35_0 := zfz BK192.out 0; have hfz35_1 := zfz BK192.out 1) | ((with_reducible refine zgc 67 ?_); refine goesL_ (some 16) rfl rfl Try.func67 (by kernel_rfl) rfl #[.agg #[.slice A0_0 l0_0.length c0_0, .slice A0_1 l0_1.length c0_1], .slice A1 l1.length c1] rfl zM ?_; (with_reducible refine (impl_ValidLoads.calls k _ _ l0_0 _ _ l0_1 _ _ l1 true _ (zC HR0_0.out HB.out) HC0_0.out (zC HR0_1.out HB.out) HC0_1.out (zC HR1.out HB.out) HC1.out A4.out).mono ?_); rintro e w36 ⟨rfl, hb⟩; refine ⟨_, rfl, ?_⟩; replace BK192 := zbl BK192.out hb; replace HB := zbs2 HB.out GE192.out hb; (try clear hb)) | ((with_reducible refine zgc 88 ?_); refine zgo (some 19) Try.func88 #[.int .i64 a2, .int .i64 1, .int .i64 1000000] ?_; (with_reducible refine (impl_within.calls a2 1 1000000 true _ A6.out).mono ?_); rintro e w' ⟨rfl, ⟨nd, rfl⟩⟩; refine ⟨_, rfl, ?_⟩; (try (rw [drewN_self w36]; generalize hq_ : World.drewN w36 _ = w36; have n0_ : Aside0 (w36.heap[gb192]? = some (.cells #[.slice A0_0 l0_0.length c0_0, .slice A0_1 l0_1.length c0_1] 27 (0, 0))) := ⟨by rw [← hq_]; exact (zb BK192.out)⟩; have n1_ : Aside0 (Below w.heap.size w w36) := ⟨by rw [← hq_]; exact (zB2 HB.out GE192.out)⟩; clear BK192 HB hq_; have BK192 := n0_; have HB := n1_; clear n0_ n1_)); (try (have hczrw36_gb192_0 := zc0 BK192.out)); (try (have hfzrw36_gb192_0 := zfz BK192.out 0)); (try (have hczrw36_gb192_1 := zc1 BK192.out)); (try (have hfzrw36_gb192_1 := zfz BK192.out 1)); have hcz37_0 := zc0 BK192.out; have hcz37_1 := zc1 BK192.out; have hfz37_0 := zfz BK192.out 0; have hfz37_1 := zfz BK192.out 1) | ((with_reducible refine zgc 19 ?_); refine goesL_ (some 24) rfl rfl Try.func19 (by kernel_rfl) rfl #[.agg #[.slice A0_0 l0_0.length c0_0, .slice A0_1 l0_1.length c0_1], .slice A1 l1.length c1] rfl zM ?_; (with_reducible refine (impl_HoldingDensities.calls k _ _ l0_0 _ _ l0_1 _ _ l1 t195 t198 t199 _ (zC HR0_0.out HB.out) HC0_0.out (zC HR0_1.out HB.out) HC0_1.out (zC HR1.out HB.out) HC1.out A8.out).mono ?_); rintro e w38 ⟨v196, rfl, ho0, hb⟩; refine ⟨_, rfl, ?_⟩; have HO197 := zQ (Kd.R_lower ho0 (below_size (zB2 HB.out GE192.out))); replace BK192 := zbl BK192.out hb; replace HB := zbs2 HB.out GE192.out hb; (try clear hb); (try clear ho0)) | ((with_reducible refine zd 8 ?_); refine zbx (N := 8) (cs := #[.slice none 0 0, .int .i64 0]) (t := 35) ?_; intro gb200 hg w39 hbox hb; have BK200 := zQ (hbox); have GW200 := zgz2 hg HB.out GE192.out; have GE200 := GW200; have NB192_200 := zQ ((by rw [hg]; exact Nat.ne_of_lt (blk_lt (g := gb192) (o := .cells #[.slice A0_0 l0_0.length c0_0, .slice A0_1 l0_1.length c0_1] 27 (0, 0)) (zb BK192.out)) : gb192 ≠ gb200)); have NB200_192 := zQ ((by rw [hg]; exact Nat.ne_of_gt (blk_lt (g := gb192) (o := .cells #[.slice A0_0 l0_0.length c0_0, .slice A0_1 l0_1.length c0_1] 27 (0, 0)) (zb BK192.out)) : gb200 ≠ gb192)); replace HO197 := zQ (Kd.R_below (zR HO197.out) hb); replace BK192 := zbl BK192.out hb; replace HB := zbs2 HB.out GE192.out hb; clear hb hbox hg; obtain ⟨Ao40, co40, eo40⟩ := Kd.R_slice HO197.out; subst eo40; have hnb41 := NB200_192.out; have hnc41 := NB192_200.out; have hcz42_0 := zc0 BK200.out; have hcz42_1 := zc1 BK200.out; have hfz42_0 := zfz BK200.out 0; have hfz42_1 := zfz BK200.out 1))
    go_ret2
    exact ⟨zE, zB3 HB.out GE192.out GE200.out⟩
  ·replace c7 := Bool.eq_false_iff.mpr c7
   subst c7
   have H1 : (some (0, 2)) = some (r1, r2) := by rw [if_neg (show ¬ (false = true) by decide)] at H; exact H
   clear H; have H := H1; clear H1
   simp only [Option.some.injEq, Prod.mk.injEq] at H
   obtain ⟨rfl, rfl⟩ := H
   go_enter Try.func28, Try.ntmps28
   go_wp2_with (first | ((with_reducible refine zd 3 ?_); refine zbx (N := 3) (cs := #[.slice A0_0 l0_0.length c0_0, .slice A0_1 l0_1.length c0_1]) (t := 27) ?_; intro gb192 hg w43 hbox hb; have BK192 := zQ (hbox); have GW192 := zgz hg HB.out; have GE192 := GW192; replace HB := zbs HB.out hb; clear hb hbox hg; have hcz44_0 := zc0 BK192.out; have hcz44_1 := zc1 BK192.out; have hfz44_0 := zfz BK192.out 0; have hfz44_1 := zfz BK192.out 1) | ((with_reducible refine zgc 67 ?_); refine goesL_ (some 16) rfl rfl Try.func67 (by kernel_rfl) rfl #[.agg #[.slice A0_0 l0_0.length c0_0, .slice A0_1 l0_1.length c0_1], .slice A1 l1.length c1] rfl zM ?_; (with_reducible refine (impl_ValidLoads.calls k _ _ l0_0 _ _ l0_1 _ _ l1 true _ (zC HR0_0.out HB.out) HC0_0.out (zC HR0_1.out HB.out) HC0_1.out (zC HR1.out HB.out) HC1.out A4.out).mono ?_); rintro e w45 ⟨rfl, hb⟩; refine ⟨_, rfl, ?_⟩; replace BK192 := zbl BK192.out hb; replace HB := zbs2 HB.out GE192.out hb; (try clear hb)) | ((with_reducible refine zgc 88 ?_); refine zgo (some 19) Try.func88 #[.int .i64 a2, .int .i64 1, .int .i64 1000000] ?_; (with_reducible refine (impl_within.calls a2 1 1000000 false _ A6.out).mono ?_); rintro e w' ⟨rfl, ⟨nd, rfl⟩⟩; refine ⟨_, rfl, ?_⟩))
   go_ret2
   exact ⟨zE, zB2 HB.out GE192.out⟩
 ·replace c5 := Bool.eq_false_iff.mpr c5
  subst c5
  have H1 : (some (0, 1)) = some (r1, r2) := by rw [if_neg (show ¬ (false = true) by decide)] at H; exact H
  clear H; have H := H1; clear H1
  simp only [Option.some.injEq, Prod.mk.injEq] at H
  obtain ⟨rfl, rfl⟩ := H
  go_enter Try.func28, Try.ntmps28
  go_wp2_with (first | ((with_reducible refine zd 3 ?_); refine zbx (N := 3) (cs := #[.slice A0_0 l0_0.length c0_0, .slice A0_1 l0_1.length c0_1]) (t := 27) ?_; intro gb192 hg w46 hbox hb; have BK192 := zQ (hbox); have GW192 := zgz hg HB.out; have GE192 := GW192; replace HB := zbs HB.out hb; clear hb hbox hg; have hcz47_0 := zc0 BK192.out; have hcz47_1 := zc1 BK192.out; have hfz47_0 := zfz BK192.out 0; have hfz47_1 := zfz BK192.out 1) | ((with_reducible refine zgc 67 ?_); refine goesL_ (some 16) rfl rfl Try.func67 (by kernel_rfl) rfl #[.agg #[.slice A0_0 l0_0.length c0_0, .slice A0_1 l0_1.length c0_1], .slice A1 l1.length c1] rfl zM ?_; (with_reducible refine (impl_ValidLoads.calls k _ _ l0_0 _ _ l0_1 _ _ l1 false _ (zC HR0_0.out HB.out) HC0_0.out (zC HR0_1.out HB.out) HC0_1.out (zC HR1.out HB.out) HC1.out A4.out).mono ?_); rintro e w48 ⟨rfl, hb⟩; refine ⟨_, rfl, ?_⟩; replace BK192 := zbl BK192.out hb; replace HB := zbs2 HB.out GE192.out hb; (try clear hb)))
  go_ret2
  exact ⟨zE, zB2 HB.out GE192.out⟩

/-! ### spec_GreatestLoad: function 29 -/
mutual
def spec_GreatestLoad.j0 : Nat → List (S113) → Int → Int → Bool → List (S164) → List (S115) → Option (Int × Int)
 | 0, _, _, _, _, _, _ => none
 | k + 1, x1, x2, x8, x26, x269000, x269001 => if x26 = true then (spec_GreatestLoad.j1 k x1 x2 2 x269000 x269001) else (spec_GreatestLoad.j1 k x1 x2 x8 x269000 x269001)
def spec_GreatestLoad.j1 : Nat → List (S113) → Int → Int → List (S164) → List (S115) → Option (Int × Int)
 | 0, _, _, _, _, _ => none
 | k + 1, x1, x2, x8, x269000, x269001 => if x8 = 0 then ((spec_l11Fewest.f k x269000 x269001 x1).bind fun bt274 => (if bt274.2 = true then ((spec_l11Holds.f k x269000 x269001 x1 bt274.1).bind fun bt278 => (spec_GreatestLoad.l0 k x2 (-1) 0 bt278.1 bt278.2.1)) else (some (0, 10)))) else (some (0, x8))
def spec_GreatestLoad.l0 : Nat → Int → Int → Int → List Int → Int → Option (Int × Int)
 | 0, _, _, _, _, _ => none
 | k + 1, x2, x13, x14, x284000, x284001 => if x14 < (x284000.length : Int) then (if 0 ≤ x14 then ((spec_l00Size.f (rd x284000 x14)).bind fun t285 => (if t285 = 0 then (spec_GreatestLoad.l0 k x2 x13 (wrap64 (x14 + 1)) x284000 x284001) else (if x13 < 0 then (spec_GreatestLoad.l0 k x2 (wrap64 (Int.tdiv (wrap64 (x2 * x284001)) t285)) (wrap64 (x14 + 1)) x284000 x284001) else (if (wrap64 (Int.tdiv (wrap64 (x2 * x284001)) t285)) < x13 then (spec_GreatestLoad.l0 k x2 (wrap64 (Int.tdiv (wrap64 (x2 * x284001)) t285)) (wrap64 (x14 + 1)) x284000 x284001) else (spec_GreatestLoad.l0 k x2 x13 (wrap64 (x14 + 1)) x284000 x284001))))) else (none)) else (if x13 < 0 then (some (0, 3)) else (some (x13, 0)))
end
def spec_GreatestLoad.f (k : Nat) (l0_0 : List (S164)) (l0_1 : List (S115)) (l1 : List (S113)) (a2 : Int) : Option (Int × Int) := (spec_l11Code.f k l0_0 l0_1 l1 (([] : List Int))).bind fun t272 => (if t272 = 0 then ((spec_l00In.f a2 1 1000000).bind fun t273 => (spec_GreatestLoad.j0 k l1 a2 t272 (!t273) l0_0 l0_1)) else (spec_GreatestLoad.j0 k l1 a2 t272 false l0_0 l0_1))
theorem spec_GreatestLoad.mono_l : ∀ k, (∀ y0 y1 y2 y3 y4 y5, LeO (spec_GreatestLoad.j0 k y0 y1 y2 y3 y4 y5) (spec_GreatestLoad.j0 (k + 1) y0 y1 y2 y3 y4 y5)) ∧ (∀ y0 y1 y2 y3 y4, LeO (spec_GreatestLoad.j1 k y0 y1 y2 y3 y4) (spec_GreatestLoad.j1 (k + 1) y0 y1 y2 y3 y4)) ∧ (∀ y0 y1 y2 y3 y4, LeO (spec_GreatestLoad.l0 k y0 y1 y2 y3 y4) (spec_GreatestLoad.l0 (k + 1) y0 y1 y2 y3 y4))
 | 0 => ⟨fun _ _ _ _ _ _ r h => by simp [spec_GreatestLoad.j0] at h, fun _ _ _ _ _ r h => by simp [spec_GreatestLoad.j1] at h, fun _ _ _ _ _ r h => by simp [spec_GreatestLoad.l0] at h⟩
 | k + 1 => by
  obtain ⟨ih0, ih1, ih2⟩ := spec_GreatestLoad.mono_l k
  refine ⟨?_, ?_, ?_⟩
  ·intro y0 y1 y2 y3 y4 y5
   unfold spec_GreatestLoad.j0
   (with_reducible repeat' first | apply ih0 | apply ih1 | apply ih2 | apply spec_l11Code.mono | apply spec_l11Fewest.mono | apply spec_l11Holds.mono | apply LeO.refl | apply LeO.none | refine LeO.ite ?_ ?_ | refine LeO.bind ?_ (fun _ => ?_))
   repeat' first | apply ih0 | apply ih1 | apply ih2 | apply spec_l11Code.mono | apply spec_l11Fewest.mono | apply spec_l11Holds.mono | apply LeO.none | refine LeO.ite ?_ ?_ | refine LeO.bind ?_ (fun _ => ?_)
  ·intro y0 y1 y2 y3 y4
   unfold spec_GreatestLoad.j1
   (with_reducible repeat' first | apply ih0 | apply ih1 | apply ih2 | apply spec_l11Code.mono | apply spec_l11Fewest.mono | apply spec_l11Holds.mono | apply LeO.refl | apply LeO.none | refine LeO.ite ?_ ?_ | refine LeO.bind ?_ (fun _ => ?_))
   repeat' first | apply ih0 | apply ih1 | apply ih2 | apply spec_l11Code.mono | apply spec_l11Fewest.mono | apply spec_l11Holds.mono | apply LeO.none | refine LeO.ite ?_ ?_ | refine LeO.bind ?_ (fun _ => ?_)
  ·intro y0 y1 y2 y3 y4
   unfold spec_GreatestLoad.l0
   (with_reducible repeat' first | apply ih0 | apply ih1 | apply ih2 | apply spec_l11Code.mono | apply spec_l11Fewest.mono | apply spec_l11Holds.mono | apply LeO.refl | apply LeO.none | refine LeO.ite ?_ ?_ | refine LeO.bind ?_ (fun _ => ?_))
   repeat' first | apply ih0 | apply ih1 | apply ih2 | apply spec_l11Code.mono | apply spec_l11Fewest.mono | apply spec_l11Holds.mono | apply LeO.none | refine LeO.ite ?_ ?_ | refine LeO.bind ?_ (fun _ => ?_)
theorem spec_GreatestLoad.mono : ∀ a0 a1 a2 a3 k, LeO (spec_GreatestLoad.f k a0 a1 a2 a3) (spec_GreatestLoad.f (k + 1) a0 a1 a2 a3) := by
 intro a0 a1 a2 a3 k
 obtain ⟨ih0, ih1, ih2⟩ := spec_GreatestLoad.mono_l k
 unfold spec_GreatestLoad.f
 (with_reducible repeat' first | apply ih0 | apply ih1 | apply ih2 | apply spec_l11Code.mono | apply spec_l11Fewest.mono | apply spec_l11Holds.mono | apply LeO.refl | apply LeO.none | refine LeO.ite ?_ ?_ | refine LeO.bind ?_ (fun _ => ?_))
 repeat' first | apply ih0 | apply ih1 | apply ih2 | apply spec_l11Code.mono | apply spec_l11Fewest.mono | apply spec_l11Holds.mono | apply LeO.none | refine LeO.ite ?_ ?_ | refine LeO.bind ?_ (fun _ => ?_)
set_option maxHeartbeats 8000000 in
set_option maxRecDepth 100000 in
theorem spec_GreatestLoad.calls (k : Nat) (A0_0 : Option Addr) (c0_0 : Nat) (l0_0 : List (S164)) (A0_1 : Option Addr) (c0_1 : Nat) (l0_1 : List (S115)) (A1 : Option Addr) (c1 : Nat) (l1 : List (S113)) (a2 : Int) (r1 : Int) (r2 : Int) (w : World) (hr0_0 : Kd.C k164 w A0_0 l0_0.length l0_0) (hc0_0 : l0_0.length ≤ c0_0) (hr0_1 : Kd.C k115 w A0_1 l0_1.length l0_1) (hc0_1 : l0_1.length ≤ c0_1) (hr1 : Kd.C k113 w A1 l1.length l1) (hc1 : l1.length ≤ c1) (h : spec_GreatestLoad.f k l0_0 l0_1 l1 a2 = some (r1, r2)) :
  Calls Try.prog 29 #[.agg #[.slice A0_0 l0_0.length c0_0, .slice A0_1 l0_1.length c0_1], .slice A1 l1.length c1, .int .i64 a2] w fun e w' => e = .returned (.tuple #[.int .i64 r1, .int .i64 r2]) ∧ Below w.heap.size w w' := by
 have hu27 := Try.underlying27
 have hu35 := Try.underlying35
 have HR0_0 := zQ hr0_0
 have HC0_0 := zQ hc0_0
 clear hr0_0 hc0_0
 have HR0_1 := zQ hr0_1
 have HC0_1 := zQ hc0_1
 clear hr0_1 hc0_1
 have HR1 := zQ hr1
 have HC1 := zQ hc1
 clear hr1 hc1
 have HB := zQ (Below.refl w.heap.size w)
 have H : ((spec_l11Code.f k l0_0 l0_1 l1 (([] : List Int))).bind fun t272 => (if t272 = 0 then ((spec_l00In.f a2 1 1000000).bind fun t273 => (spec_GreatestLoad.j0 k l1 a2 t272 (!t273) l0_0 l0_1)) else (spec_GreatestLoad.j0 k l1 a2 t272 false l0_0 l0_1))) = some (r1, r2) := h
 clear h
 obtain ⟨y269, hy269⟩ : ∃ y_ : List Int, y_ = (([] : List Int)) := ⟨_, rfl⟩
 replace H : ((spec_l11Code.f k l0_0 l0_1 l1 y269).bind fun t272 => (if t272 = 0 then ((spec_l00In.f a2 1 1000000).bind fun t273 => (spec_GreatestLoad.j0 k l1 a2 t272 (!t273) l0_0 l0_1)) else (spec_GreatestLoad.j0 k l1 a2 t272 false l0_0 l0_1))) = some (r1, r2) := zh H
 have Ny269 := zQ hy269
 clear hy269
 replace H := Option.bind_eq_some_iff.mp H
 obtain ⟨t272, A40, H⟩ := H
 replace H : (if t272 = 0 then ((spec_l00In.f a2 1 1000000).bind fun t273 => (spec_GreatestLoad.j0 k l1 a2 t272 (!t273) l0_0 l0_1)) else (spec_GreatestLoad.j0 k l1 a2 t272 false l0_0 l0_1)) = some (r1, r2) := H
 have A4 := zQ A40
 clear A40
 have HC5 := zQ H
 clear H
 go_enter Try.func29, Try.ntmps29
 go_upto_region 2 with (first | ((with_reducible refine zd 3 ?_); refine zbx (N := 3) (cs := #[.slice A0_0 l0_0.length c0_0, .slice A0_1 l0_1.length c0_1]) (t := 27) ?_; intro gb268 hg w6 hbox hb; have BK268 := zQ (hbox); have GW268 := zgz hg HB.out; have GE268 := GW268; replace HB := zbs HB.out hb; clear hb hbox hg) | ((with_reducible refine zd 18 ?_); refine Kd.R_lit (Kd.int .i64) _ 2 ?hg (N := 18) ?hd (xs := ([] : List Int)) (inner := []) (ok := fun _ => True) (okp := fun _ => True) ?hr ?hp (fun _ hk => hk) trivial (Below.refl _ _) (Nat.le_refl _) (by simp) ?_; (case hd => rfl); (case hg => rfl); (case hr => first | (go_simp; done) | (go_simp; rfl)); (case hp => exact (Reps.none _ _)); intro v270 w7 ho8 hb hg_ hnew_; clear hg_ hnew_; (first | rw [← Ny269.out] at ho8 | (simp only [Int.reduceToNat] at ho8; rw [← Ny269.out] at ho8)); have HO271 := zQ (Kd.R_lower ho8 (below_size (zB2 HB.out GE268.out))); replace BK268 := zbl BK268.out hb; replace HB := zbs2 HB.out GE268.out hb; clear hb ho8; obtain ⟨Ao9, co9, eo9⟩ := Kd.R_slice HO271.out; subst eo9) | ((with_reducible refine zgc 71 ?_); refine zgo (some 19) Try.func71 #[.pointer (some ⟨gb268, 0, none⟩), .slice A1 l1.length c1, .slice Ao9 y269.length co9] ?_; (with_reducible refine (spec_l11Code.calls k gb268 A0_0 c0_0 l0_0 A0_1 c0_1 l0_1 _ _ l1 _ _ y269 t272 _ (zb BK268.out) (zC HR0_0.out HB.out) HC0_0.out (zC HR0_1.out HB.out) HC0_1.out (zC HR1.out HB.out) HC1.out ?side8 ((Kd.R_reads' HO271.out).2.1) A4.out).mono ?_); (case side8 => repeat (first | exact (Kd.R_reads' HO271.out).2.2 | (with_reducible refine Kd.C_alloc ?_ _) | (with_reducible refine Kd.C_drewN ?_ _) | (with_reducible refine Kd.C_drew ?_))); rintro e w10 ⟨rfl, hb⟩; refine ⟨_, rfl, ?_⟩; replace HO271 := zQ (Kd.R_below (zR HO271.out) hb); replace BK268 := zbl BK268.out hb; replace HB := zbs2 HB.out GE268.out hb; (try clear hb)))
 (try simp only [Act.put, List.setIfInBounds_toArray, List.set_cons_zero, List.set_cons_succ])
 go_cut [26] (fun v26 wc => ∃ (kq : Nat) (x26_4 : Bool), v26 = .bool x26_4 ∧ Aside0 (spec_GreatestLoad.j0 kq l1 a2 t272 x26_4 l0_0 l0_1 = some (r1, r2)) ∧ Aside0 (kq ≤ k) ∧ Aside0 (wc.heap[gb268]? = some (.cells #[(.slice A0_0 l0_0.length c0_0), (.slice A0_1 l0_1.length c0_1)] 27 (0, 0))) ∧ Aside0 (Below w.heap.size w wc))
 case first =>
  have H := HC5.out; clear HC5
  by_cases c11 : t272 = 0
  ·rw [if_pos c11] at H
   have c11b0 : (t272 == 0) = true := beq_iff_eq.mpr c11; have c11b1 : (t272 != 0) = false := bne_eq_false_iff_eq.mpr c11; clear c11
   (first | rw [c11b0] | (simp only [i64_w, i32_w]; rw [c11b0]) | skip)
   replace H := Option.bind_eq_some_iff.mp H; obtain ⟨t273, A120, H⟩ := H; replace H : (spec_GreatestLoad.j0 k l1 a2 t272 (!t273) l0_0 l0_1) = some (r1, r2) := H; have A12 := zQ A120; clear A120; have H' := zQ H; clear H
   go_wp2_with (first | (go_at_call 89; (with_reducible refine (spec_l00In.calls a2 1 1000000 t273 _ A12.out).mono ?_); rintro e w' ⟨rfl, ⟨nd, rfl⟩⟩))
   go_meet
   case rel => exact ⟨_, (!t273), (zF), H', ⟨by first | omega | exact Nat.le_refl _⟩, ⟨zb BK268.out⟩, ⟨zB2 HB.out GE268.out⟩⟩
  ·rw [if_neg c11] at H
   have c11b0 : (t272 == 0) = false := beq_eq_false_iff_ne.mpr c11; have c11b1 : (t272 != 0) = true := bne_iff_ne.mpr c11
   (first | rw [c11b0] | (simp only [i64_w, i32_w]; rw [c11b0]) | skip)
   have H' := zQ H; clear H
   go_wp2
   go_meet
   case rel => exact ⟨_, (false), (zF), H', ⟨by first | omega | exact Nat.le_refl _⟩, ⟨zb BK268.out⟩, ⟨zB2 HB.out GE268.out⟩⟩
 case rest =>
  clear HC5; (try clear c1); (try clear c2); (try clear p2); (try clear c7); (try clear c11); (try clear c11b0); (try clear c11b1); obtain ⟨kq, x26_4, rfl, HA, HJ4, BK268, HB⟩ := hcut
  cases kq with
  | zero => exact absurd HA.out (by simp [spec_GreatestLoad.j0])
  | succ kj4 =>
   have H := HA.out; clear HA
   simp only [spec_GreatestLoad.j0] at H
   have HC13 := zQ H; clear H
   go_upto_if 26 with (fail)
   go_cut [8] (fun v8 wc => ∃ (kq : Nat) (x8_12 : Int), v8 = .int .i64 x8_12 ∧ Aside0 (spec_GreatestLoad.j1 kq l1 a2 x8_12 l0_0 l0_1 = some (r1, r2)) ∧ Aside0 (kq ≤ kj4) ∧ Aside0 (wc.heap[gb268]? = some (.cells #[(.slice A0_0 l0_0.length c0_0), (.slice A0_1 l0_1.length c0_1)] 27 (0, 0))) ∧ Aside0 (Below w.heap.size w wc))
   case first =>
    have H := HC13.out; clear HC13
    by_cases c14 : x26_4 = true
    ·subst c14
     have H1 : (spec_GreatestLoad.j1 kj4 l1 a2 2 l0_0 l0_1) = some (r1, r2) := by rw [if_pos rfl] at H; exact H
     clear H; have H := H1; clear H1; have H' := zQ H; clear H
     go_wp2
     go_meet
     case rel => exact ⟨_, (2), (zF), H', ⟨by have := HJ4.out; first | omega | exact Nat.le_refl _⟩, ⟨zb BK268.out⟩, ⟨zB2 HB.out GE268.out⟩⟩
    ·replace c14 := Bool.eq_false_iff.mpr c14
     subst c14
     have H1 : (spec_GreatestLoad.j1 kj4 l1 a2 t272 l0_0 l0_1) = some (r1, r2) := by rw [if_neg (show ¬ (false = true) by decide)] at H; exact H
     clear H; have H := H1; clear H1; have H' := zQ H; clear H
     go_wp2
     go_meet
     case rel => exact ⟨_, (t272), (zF), H', ⟨by have := HJ4.out; first | omega | exact Nat.le_refl _⟩, ⟨zb BK268.out⟩, ⟨zB2 HB.out GE268.out⟩⟩
   case rest =>
    clear HC13; (try clear c1); (try clear c2); (try clear p2); (try clear c7); (try clear c11); (try clear c11b0); (try clear c11b1); (try clear c14); (try clear p2); obtain ⟨kq, x8_12, rfl, HA, HJ12, BK268, HB⟩ := hcut
    cases kq with
    | zero => exact absurd HA.out (by simp [spec_GreatestLoad.j1])
    | succ kj12 =>
     have H := HA.out; clear HA
     simp only [spec_GreatestLoad.j1] at H
     by_cases c15 : x8_12 = 0
     ·rw [if_pos c15] at H
      have c15b0 : (x8_12 == 0) = true := beq_iff_eq.mpr c15; have c15b1 : (x8_12 != 0) = false := bne_eq_false_iff_eq.mpr c15; clear c15; replace H := Option.bind_eq_some_iff.mp H; obtain ⟨⟨t274, t277⟩, A160, H⟩ := H; replace H : (if t277 = true then ((spec_l11Holds.f kj12 l0_0 l0_1 l1 t274).bind fun bt278 => (spec_GreatestLoad.l0 kj12 a2 (-1) 0 bt278.1 bt278.2.1)) else (some (0, 10))) = some (r1, r2) := H; have A16 := zQ A160; clear A160
      by_cases c17 : t277 = true
      ·subst c17
       have H1 : ((spec_l11Holds.f kj12 l0_0 l0_1 l1 t274).bind fun bt278 => (spec_GreatestLoad.l0 kj12 a2 (-1) 0 bt278.1 bt278.2.1)) = some (r1, r2) := by rw [if_pos rfl] at H; exact H
       clear H; have H := H1; clear H1; replace H := Option.bind_eq_some_iff.mp H; obtain ⟨⟨t278, t281, t282⟩, A180, H⟩ := H; replace H : (spec_GreatestLoad.l0 kj12 a2 (-1) 0 t278 t281) = some (r1, r2) := H; have A18 := zQ A180; clear A180; have H' := zQ H; clear H
       go_wp2_with (first | ((with_reducible refine zgc 72 ?_); refine zgo (some 32) Try.func72 #[.pointer (some ⟨gb268, 0, none⟩), .slice A1 l1.length c1] ?_; (with_reducible refine (spec_l11Fewest.calls kj12 gb268 A0_0 c0_0 l0_0 A0_1 c0_1 l0_1 _ _ l1 t274 true _ (zb BK268.out) (zC HR0_0.out HB.out) HC0_0.out (zC HR0_1.out HB.out) HC0_1.out (zC HR1.out HB.out) HC1.out A16.out).mono ?_); rintro e w19 ⟨v275, rfl, ho0, hb⟩; refine ⟨_, rfl, ?_⟩; have HO276 := zQ (Kd.R_lower ho0 (below_size (zB2 HB.out GE268.out))); replace BK268 := zbl BK268.out hb; replace HB := zbs2 HB.out GE268.out hb; (try clear hb); (try clear ho0); obtain ⟨Ao20, co20, eo20⟩ := Kd.R_slice HO276.out; subst eo20) | ((with_reducible refine zgc 74 ?_); refine zgo (some 40) Try.func74 #[.pointer (some ⟨gb268, 0, none⟩), .slice A1 l1.length c1, .slice Ao20 t274.length co20] ?_; (with_reducible refine (spec_l11Holds.calls kj12 gb268 A0_0 c0_0 l0_0 A0_1 c0_1 l0_1 _ _ l1 _ _ t274 t278 t281 t282 _ (zb BK268.out) (zC HR0_0.out HB.out) HC0_0.out (zC HR0_1.out HB.out) HC0_1.out (zC HR1.out HB.out) HC1.out ?side8 ((Kd.R_reads' HO276.out).2.1) A18.out).mono ?_); (case side8 => repeat (first | exact (Kd.R_reads' HO276.out).2.2 | (with_reducible refine Kd.C_alloc ?_ _) | (with_reducible refine Kd.C_drewN ?_ _) | (with_reducible refine Kd.C_drew ?_))); rintro e w21 ⟨v279, rfl, ho0, hb⟩; refine ⟨_, rfl, ?_⟩; have HO280 := zQ (Kd.R_lower (Kd.R_new' ho0 (Kd.R_lt (zR HO276.out))) (below_size (zB2 HB.out GE268.out))); replace HO276 := zQ (Kd.R_elder' (zR HO276.out) (Kd.R_base ho0) hb); replace BK268 := zbl BK268.out hb; replace HB := zbs2 HB.out GE268.out hb; (try clear hb); (try clear ho0)) | ((with_reducible refine zd 11 ?_); refine zbx (N := 11) (cs := #[.slice none 0 0, .int .i64 0]) (t := 35) ?_; intro gb283 hg w22 hbox hb; have BK283 := zQ (hbox); have GW283 := zgz2 hg HB.out GE268.out; have GE283 := GW283; have NB268_283 := zQ ((by rw [hg]; exact Nat.ne_of_lt (blk_lt (g := gb268) (o := .cells #[.slice A0_0 l0_0.length c0_0, .slice A0_1 l0_1.length c0_1] 27 (0, 0)) (zb BK268.out)) : gb268 ≠ gb283)); have NB283_268 := zQ ((by rw [hg]; exact Nat.ne_of_gt (blk_lt (g := gb268) (o := .cells #[.slice A0_0 l0_0.length c0_0, .slice A0_1 l0_1.length c0_1] 27 (0, 0)) (zb BK268.out)) : gb283 ≠ gb268)); replace HO276 := zQ (Kd.R_below (zR HO276.out) hb); replace HO280 := zQ (Kd.R_below (zR HO280.out) hb); replace BK268 := zbl BK268.out hb; replace HB := zbs2 HB.out GE268.out hb; clear hb hbox hg; obtain ⟨Ao23, co23, eo23⟩ := Kd.R_slice HO280.out; subst eo23; have hnb24 := NB283_268.out; have hnc24 := NB268_283.out; have hcz25_0 := zc0 BK283.out; have hcz25_1 := zc1 BK283.out; have hfz25_0 := zfz BK283.out 0; have hfz25_1 := zfz BK283.out 1))
       go_loopg [13, 14] kj12 (fun kq v13 v14 w' => ∃ (x13_3 : Int) (x14_3 : Int), v13 = .int .i64 x13_3 ∧ v14 = .int .i64 x14_3 ∧ Aside0 (spec_GreatestLoad.l0 kq a2 x13_3 x14_3 t278 t281 = some (r1, r2)) ∧ Aside0 (kq ≤ kj12) ∧ Aside0 (Kd.R (Kd.int .i64) 2 w' w.heap.size (fun _ => True) (.slice Ao23 t278.length co23) t278) ∧ Aside0 (w'.heap[gb268]? = some (.cells #[(.slice A0_0 l0_0.length c0_0), (.slice A0_1 l0_1.length c0_1)] 27 (0, 0))) ∧ Aside0 (w'.heap[gb283]? = some (.cells #[(.slice Ao23 t278.length co23), .int .i64 t281] 35 (0, 0))) ∧ Aside0 (Below w.heap.size w w'))
       case atStart => exact ⟨((-1)), (0), (zF), (zF), H', ⟨Nat.le_refl _⟩, ⟨by (with_reducible repeat (first | apply Kd.R_alloc | apply Kd.R_drewN | apply Kd.R_drew)); exact Kd.R_mono (Kd.R_far (p := ⟨gb283, 1, none⟩) (Kd.R_far (p := ⟨gb283, 0, none⟩) (Kd.R_types HO280.out BK283.out (by decide)) (fun _ hk => hk.2) (.slice Ao23 t278.length co23)) (fun _ hk => hk.2) (.int .i64 t281)) (fun _ hk => trivial)⟩, ⟨by refine zb ?_; refine blk_far ?_ NB268_283.out _; refine zb ?_; refine blk_far ?_ NB268_283.out _; refine zb ?_; exact BK268.out⟩, ⟨by refine zb ?_; refine blk_put (cs := #[.slice Ao23 t278.length co23, .int .i64 0]) ?_ 1 _ rfl; refine zb ?_; refine blk_put (cs := #[.slice none 0 0, .int .i64 0]) ?_ 0 _ rfl; refine zb ?_; exact BK283.out⟩, ⟨zB3 HB.out GE268.out GE283.out⟩⟩
       case round =>
        clear H'; (try clear c1); (try clear c2); (try clear p2); (try clear c7); (try clear c11); (try clear c11b0); (try clear c11b1); (try clear c14); (try clear c15); (try clear c15b0); (try clear c15b1); (try clear c17); (try clear c24); (try clear hcz25_0); (try clear hcz25_1); (try clear hfz25_0); (try clear hfz25_1); (try clear p2); obtain ⟨x13_3, x14_3, rfl, rfl, HA, HK3, HO_284000, BK268, BK283, HB⟩ := hrel
        cases gk with
        | zero => exact absurd HA.out (by simp [spec_GreatestLoad.l0])
        | succ k3 =>
         have H := HA.out; clear HA
         simp only [spec_GreatestLoad.l0] at H
         by_cases c26 : x14_3 < (t278.length : Int)
         ·rw [if_pos c26] at H
          have c26b0 : decide (x14_3 < (t278.length : Int)) = true := decide_eq_true c26; clear c26
          by_cases c27 : 0 ≤ x14_3
          ·rw [if_pos c27] at H
           have c27b0 : decide (0 ≤ x14_3) = true := decide_eq_true c27; clear c27; replace H := Option.bind_eq_some_iff.mp H; obtain ⟨t285, A280, H⟩ := H; replace H : (if t285 = 0 then (spec_GreatestLoad.l0 k3 a2 x13_3 (wrap64 (x14_3 + 1)) t278 t281) else (if x13_3 < 0 then (spec_GreatestLoad.l0 k3 a2 (wrap64 (Int.tdiv (wrap64 (a2 * t281)) t285)) (wrap64 (x14_3 + 1)) t278 t281) else (if (wrap64 (Int.tdiv (wrap64 (a2 * t281)) t285)) < x13_3 then (spec_GreatestLoad.l0 k3 a2 (wrap64 (Int.tdiv (wrap64 (a2 * t281)) t285)) (wrap64 (x14_3 + 1)) t278 t281) else (spec_GreatestLoad.l0 k3 a2 x13_3 (wrap64 (x14_3 + 1)) t278 t281)))) = some (r1, r2) := H; have A28 := zQ A280; clear A280
           by_cases c29 : t285 = 0
           ·rw [if_pos c29] at H
            have c29b0 : (t285 == 0) = true := beq_iff_eq.mpr c29; have c29b1 : (t285 != 0) = false := bne_eq_false_iff_eq.mpr c29; clear c29; have H' := zQ H; clear H; have hnb30 := NB283_268.out; have hnc30 := NB268_283.out; have hcz31_0 := zc0 BK283.out; have hcz31_1 := zc1 BK283.out; have hfz31_0 := zfz BK283.out 0; have hfz31_1 := zfz BK283.out 1; have p284 : 0 ≤ (x14_3 : Int) := of_decide_eq_true zA; have q284 : x14_3 < (t278.length : Int) := of_decide_eq_true zA; obtain ⟨ad284, e284, hx284_0⟩ := Kd.at_int (Kd.R_reads' HO_284000.out).2.2 x14_3 p284 q284
            cases e284
            replace p284 := eq_true p284; replace q284 := eq_true q284
            go_wp2_with (first | ((with_reducible refine zgc 90 ?_); refine zgo (some 55) Try.func90 #[.int .i64 (rd t278 x14_3)] ?_; (with_reducible refine (spec_l00Size.calls (rd t278 x14_3) t285 _ A28.out).mono ?_); rintro e w' ⟨rfl, ⟨nd, rfl⟩⟩; refine ⟨_, rfl, ?_⟩))
            go_roundg k3
            case measure => have := HJ4.out; have := HJ12.out; have := HK3.out; omega
            case rel => exact ⟨(x13_3), (wrap64 (x14_3 + 1)), (zF), (zF), H', ⟨by have := HJ4.out; have := HJ12.out; have := HK3.out; omega⟩, ⟨zR HO_284000.out⟩, ⟨zb BK268.out⟩, ⟨zb BK283.out⟩, ⟨zB3 HB.out GE268.out GE283.out⟩⟩
           ·rw [if_neg c29] at H
            have c29b0 : (t285 == 0) = false := beq_eq_false_iff_ne.mpr c29; have c29b1 : (t285 != 0) = true := bne_iff_ne.mpr c29
            by_cases c32 : x13_3 < 0
            ·rw [if_pos c32] at H
             have c32b0 : decide (x13_3 < 0) = true := decide_eq_true c32; clear c32; have H' := zQ H; clear H; have hnb33 := NB283_268.out; have hnc33 := NB268_283.out; have hcz34_0 := zc0 BK283.out; have hcz34_1 := zc1 BK283.out; have hfz34_0 := zfz BK283.out 0; have hfz34_1 := zfz BK283.out 1; have p284 : 0 ≤ (x14_3 : Int) := of_decide_eq_true zA; have q284 : x14_3 < (t278.length : Int) := of_decide_eq_true zA; obtain ⟨ad284, e284, hx284_0⟩ := Kd.at_int (Kd.R_reads' HO_284000.out).2.2 x14_3 p284 q284
             cases e284
             replace p284 := eq_true p284; replace q284 := eq_true q284
             go_wp2_with (first | ((with_reducible refine zgc 90 ?_); refine zgo (some 55) Try.func90 #[.int .i64 (rd t278 x14_3)] ?_; (with_reducible refine (spec_l00Size.calls (rd t278 x14_3) t285 _ A28.out).mono ?_); rintro e w' ⟨rfl, ⟨nd, rfl⟩⟩; refine ⟨_, rfl, ?_⟩))
             go_roundg k3
             case measure => have := HJ4.out; have := HJ12.out; have := HK3.out; omega
             case rel => exact ⟨(wrap64 (Int.tdiv (wrap64 (a2 * t281)) t285)), (wrap64 (x14_3 + 1)), (zF), (zF), H', ⟨by have := HJ4.out; have := HJ12.out; have := HK3.out; omega⟩, ⟨zR HO_284000.out⟩, ⟨zb BK268.out⟩, ⟨zb BK283.out⟩, ⟨zB3 HB.out GE268.out GE283.out⟩⟩
            ·rw [if_neg c32] at H
             have c32b0 : decide (x13_3 < 0) = false := decide_eq_false c32; clear c32
             by_cases c35 : (wrap64 (Int.tdiv (wrap64 (a2 * t281)) t285)) < x13_3
             ·rw [if_pos c35] at H
              have c35b0 : decide ((wrap64 (Int.tdiv (wrap64 (a2 * t281)) t285)) < x13_3) = true := decide_eq_true c35; clear c35; have H' := zQ H; clear H; have hnb36 := NB283_268.out; have hnc36 := NB268_283.out; have hcz37_0 := zc0 BK283.out; have hcz37_1 := zc1 BK283.out; have hfz37_0 := zfz BK283.out 0; have hfz37_1 := zfz BK283.out 1; have p284 : 0 ≤ (x14_3 : Int) := of_decide_eq_true zA; have q284 : x14_3 < (t278.length : Int) := of_decide_eq_true zA; obtain ⟨ad284, e284, hx284_0⟩ := Kd.at_int (Kd.R_reads' HO_284000.out).2.2 x14_3 p284 q284
              cases e284
              replace p284 := eq_true p284; replace q284 := eq_true q284
              go_wp2_with (first | ((with_reducible refine zgc 90 ?_); refine zgo (some 55) Try.func90 #[.int .i64 (rd t278 x14_3)] ?_; (with_reducible refine (spec_l00Size.calls (rd t278 x14_3) t285 _ A28.out).mono ?_); rintro e w' ⟨rfl, ⟨nd, rfl⟩⟩; refine ⟨_, rfl, ?_⟩))
              go_roundg k3
              case measure => have := HJ4.out; have := HJ12.out; have := HK3.out; omega
              case rel => exact ⟨(wrap64 (Int.tdiv (wrap64 (a2 * t281)) t285)), (wrap64 (x14_3 + 1)), (zF), (zF), H', ⟨by have := HJ4.out; have := HJ12.out; have := HK3.out; omega⟩, ⟨zR HO_284000.out⟩, ⟨zb BK268.out⟩, ⟨zb BK283.out⟩, ⟨zB3 HB.out GE268.out GE283.out⟩⟩
             ·rw [if_neg c35] at H
              have c35b0 : decide ((wrap64 (Int.tdiv (wrap64 (a2 * t281)) t285)) < x13_3) = false := decide_eq_false c35; clear c35; have H' := zQ H; clear H; have hnb38 := NB283_268.out; have hnc38 := NB268_283.out; have hcz39_0 := zc0 BK283.out; have hcz39_1 := zc1 BK283.out; have hfz39_0 := zfz BK283.out 0; have hfz39_1 := zfz BK283.out 1; have p284 : 0 ≤ (x14_3 : Int) := of_decide_eq_true zA; have q284 : x14_3 < (t278.length : Int) := of_decide_eq_true zA; obtain ⟨ad284, e284, hx284_0⟩ := Kd.at_int (Kd.R_reads' HO_284000.out).2.2 x14_3 p284 q284
              cases e284
              replace p284 := eq_true p284; replace q284 := eq_true q284
              go_wp2_with (first | ((with_reducible refine zgc 90 ?_); refine zgo (some 55) Try.func90 #[.int .i64 (rd t278 x14_3)] ?_; (with_reducible refine (spec_l00Size.calls (rd t278 x14_3) t285 _ A28.out).mono ?_); rintro e w' ⟨rfl, ⟨nd, rfl⟩⟩; refine ⟨_, rfl, ?_⟩))
              go_roundg k3
              case measure => have := HJ4.out; have := HJ12.out; have := HK3.out; omega
              case rel => exact ⟨(x13_3), (wrap64 (x14_3 + 1)), (zF), (zF), H', ⟨by have := HJ4.out; have := HJ12.out; have := HK3.out; omega⟩, ⟨zR HO_284000.out⟩, ⟨zb BK268.out⟩, ⟨zb BK283.out⟩, ⟨zB3 HB.out GE268.out GE283.out⟩⟩
          ·rw [if_neg c27] at H
           exact absurd H (by simp)
         ·rw [if_neg c26] at H
          have c26b0 : decide (x14_3 < (t278.length : Int)) = false := decide_eq_false c26; clear c26
          by_cases c40 : x13_3 < 0
          ·rw [if_pos c40] at H
           have c40b0 : decide (x13_3 < 0) = true := decide_eq_true c40; clear c40
           simp only [Option.some.injEq, Prod.mk.injEq] at H
           obtain ⟨rfl, rfl⟩ := H; have hnb41 := NB283_268.out; have hnc41 := NB268_283.out; have hcz42_0 := zc0 BK283.out; have hcz42_1 := zc1 BK283.out; have hfz42_0 := zfz BK283.out 0; have hfz42_1 := zfz BK283.out 1
           go_wp2
           go_ret2
           exact ⟨zE, zB3 HB.out GE268.out GE283.out⟩
          ·rw [if_neg c40] at H
           have c40b0 : decide (x13_3 < 0) = false := decide_eq_false c40; clear c40
           simp only [Option.some.injEq, Prod.mk.injEq] at H
           obtain ⟨rfl, rfl⟩ := H; have hnb43 := NB283_268.out; have hnc43 := NB268_283.out; have hcz44_0 := zc0 BK283.out; have hcz44_1 := zc1 BK283.out; have hfz44_0 := zfz BK283.out 0; have hfz44_1 := zfz BK283.out 1
           go_wp2
           go_ret2
           exact ⟨zE, zB3 HB.out GE268.out GE283.out⟩
      ·replace c17 := Bool.eq_false_iff.mpr c17
       subst c17
       have H1 : (some (0, 10)) = some (r1, r2) := by rw [if_neg (show ¬ (false = true) by decide)] at H; exact H
       clear H; have H := H1; clear H1
       simp only [Option.some.injEq, Prod.mk.injEq] at H
       obtain ⟨rfl, rfl⟩ := H
       go_wp2_with (first | ((with_reducible refine zgc 72 ?_); refine zgo (some 32) Try.func72 #[.pointer (some ⟨gb268, 0, none⟩), .slice A1 l1.length c1] ?_; (with_reducible refine (spec_l11Fewest.calls kj12 gb268 A0_0 c0_0 l0_0 A0_1 c0_1 l0_1 _ _ l1 t274 false _ (zb BK268.out) (zC HR0_0.out HB.out) HC0_0.out (zC HR0_1.out HB.out) HC0_1.out (zC HR1.out HB.out) HC1.out A16.out).mono ?_); rintro e w45 ⟨v275, rfl, ho0, hb⟩; refine ⟨_, rfl, ?_⟩; have HO276 := zQ (Kd.R_lower ho0 (below_size (zB2 HB.out GE268.out))); replace BK268 := zbl BK268.out hb; replace HB := zbs2 HB.out GE268.out hb; (try clear hb); (try clear ho0)))
       go_ret2
       exact ⟨zE, zB2 HB.out GE268.out⟩
     ·rw [if_neg c15] at H
      have c15b0 : (x8_12 == 0) = false := beq_eq_false_iff_ne.mpr c15; have c15b1 : (x8_12 != 0) = true := bne_iff_ne.mpr c15
      simp only [Option.some.injEq, Prod.mk.injEq] at H
      obtain ⟨rfl, rfl⟩ := H
      go_wp2
      go_ret2
      exact ⟨zE, zB2 HB.out GE268.out⟩

/-! ### laws_FnExactGreatestLoad: function 6 -/
def laws_FnExactGreatestLoad.j0 : Nat → List (S122) → List (S113) → Bool → List (S166) → List (S168) → List (S164) → List (S115) → Option (Bool)
 | 0, _, _, _, _, _, _, _ => none
 | k + 1, x1, x11, x51, x350000, x350001, x370000, x370001 => if x51 = true then (some false) else ((laws_toFrame.f k x350000 x350001).bind fun bt375 => ((laws_eqFrame.f k x370000 x370001 bt375.1 bt375.2).bind fun t381 => (if t381 = true then ((laws_toPullS.f k x1).bind fun t382 => ((laws_eqPullS.f k x11 t382).bind fun t385 => (if t385 = true then (some true) else (some false)))) else (some false))))
def laws_FnExactGreatestLoad.f (k : Nat) (l0_0 : List (S166)) (l0_1 : List (S168)) (l1 : List (S122)) (a2 : Int) : Option (Bool) := (laws_szFrame.f l0_0 l0_1 1048576).bind fun t350 => (if t350 < 0 then (some true) else ((laws_szPullS.f l1 t350).bind fun t351 => (if t351 < 0 then (some true) else ((laws_toFrame.f k l0_0 l0_1).bind fun bt352 => ((laws_toPullS.f k l1).bind fun t358 => ((spec_GreatestLoad.f k bt352.1 bt352.2 t358 a2).bind fun bt361 => ((laws_toFrame.f k l0_0 l0_1).bind fun bt363 => ((laws_toPullS.f k l1).bind fun t370 => ((impl_GreatestLoad.f k bt363.1 bt363.2 t370 a2).bind fun bt373 => (if bt373.1 = bt361.1 then (laws_FnExactGreatestLoad.j0 k l1 t370 (bt373.2 != bt361.2) l0_0 l0_1 bt363.1 bt363.2) else (laws_FnExactGreatestLoad.j0 k l1 t370 true l0_0 l0_1 bt363.1 bt363.2)))))))))))
theorem laws_FnExactGreatestLoad.mono_l : ∀ k, (∀ y0 y1 y2 y3 y4 y5 y6, LeO (laws_FnExactGreatestLoad.j0 k y0 y1 y2 y3 y4 y5 y6) (laws_FnExactGreatestLoad.j0 (k + 1) y0 y1 y2 y3 y4 y5 y6))
 | 0 => fun _ _ _ _ _ _ _ r h => by simp [laws_FnExactGreatestLoad.j0] at h
 | k + 1 => by
  have ih0 := laws_FnExactGreatestLoad.mono_l k
  ·intro y0 y1 y2 y3 y4 y5 y6
   unfold laws_FnExactGreatestLoad.j0
   (with_reducible repeat' first | apply ih0 | apply impl_GreatestLoad.mono | apply laws_eqFrame.mono | apply laws_eqPullS.mono | apply laws_toFrame.mono | apply laws_toPullS.mono | apply spec_GreatestLoad.mono | apply LeO.refl | apply LeO.none | refine LeO.ite ?_ ?_ | refine LeO.bind ?_ (fun _ => ?_))
   repeat' first | apply ih0 | apply impl_GreatestLoad.mono | apply laws_eqFrame.mono | apply laws_eqPullS.mono | apply laws_toFrame.mono | apply laws_toPullS.mono | apply spec_GreatestLoad.mono | apply LeO.none | refine LeO.ite ?_ ?_ | refine LeO.bind ?_ (fun _ => ?_)
theorem laws_FnExactGreatestLoad.mono : ∀ a0 a1 a2 a3 k, LeO (laws_FnExactGreatestLoad.f k a0 a1 a2 a3) (laws_FnExactGreatestLoad.f (k + 1) a0 a1 a2 a3) := by
 intro a0 a1 a2 a3 k
 have ih0 := laws_FnExactGreatestLoad.mono_l k
 unfold laws_FnExactGreatestLoad.f
 (with_reducible repeat' first | apply ih0 | apply impl_GreatestLoad.mono | apply laws_eqFrame.mono | apply laws_eqPullS.mono | apply laws_toFrame.mono | apply laws_toPullS.mono | apply spec_GreatestLoad.mono | apply LeO.refl | apply LeO.none | refine LeO.ite ?_ ?_ | refine LeO.bind ?_ (fun _ => ?_))
 repeat' first | apply ih0 | apply impl_GreatestLoad.mono | apply laws_eqFrame.mono | apply laws_eqPullS.mono | apply laws_toFrame.mono | apply laws_toPullS.mono | apply spec_GreatestLoad.mono | apply LeO.none | refine LeO.ite ?_ ?_ | refine LeO.bind ?_ (fun _ => ?_)
theorem laws_FnExactGreatestLoad.j0_cut (k : Nat) (x0_ : List (S122)) (x1_ : List (S113)) (x3_ : List (S166)) (x4_ : List (S168)) (x5_ : List (S164)) (x6_ : List (S115)) (r : Bool) (h : laws_FnExactGreatestLoad.j0 k x0_ x1_ true x3_ x4_ x5_ x6_ = some r) (hr : r = true) : False := by
 cases k with
 | zero => simp only [laws_FnExactGreatestLoad.j0] at h; cases h
 | succ k =>
  have h2 : some false = some r := h
  cases h2
  cases hr
set_option maxHeartbeats 8000000 in
set_option maxRecDepth 100000 in
theorem laws_FnExactGreatestLoad.calls (k : Nat) (A0_0 : Option Addr) (c0_0 : Nat) (l0_0 : List (S166)) (A0_1 : Option Addr) (c0_1 : Nat) (l0_1 : List (S168)) (A1 : Option Addr) (c1 : Nat) (l1 : List (S122)) (a2 : Int) (r : Bool) (w : World) (hr0_0 : Kd.C k166 w A0_0 l0_0.length l0_0) (hc0_0 : l0_0.length ≤ c0_0) (hr0_1 : Kd.C k168 w A0_1 l0_1.length l0_1) (hc0_1 : l0_1.length ≤ c0_1) (hr1 : Kd.C k122 w A1 l1.length l1) (hc1 : l1.length ≤ c1) (h : laws_FnExactGreatestLoad.f k l0_0 l0_1 l1 a2 = some r) (hrt : r = true) :
  Calls Try.prog 6 #[.agg #[.slice A0_0 l0_0.length c0_0, .slice A0_1 l0_1.length c0_1], .slice A1 l1.length c1, .int .i64 a2] w fun e w' => e = .returned (.bool r) ∧ Below w.heap.size w w' := by
 have HRT := zQ hrt
 clear hrt
 have hu54 := Try.underlying54
 have hu27 := Try.underlying27
 have HR0_0 := zQ hr0_0
 have HC0_0 := zQ hc0_0
 clear hr0_0 hc0_0
 have HR0_1 := zQ hr0_1
 have HC0_1 := zQ hc0_1
 clear hr0_1 hc0_1
 have HR1 := zQ hr1
 have HC1 := zQ hc1
 clear hr1 hc1
 have HB := zQ (Below.refl w.heap.size w)
 have H : ((laws_szFrame.f l0_0 l0_1 1048576).bind fun t350 => (if t350 < 0 then (some true) else ((laws_szPullS.f l1 t350).bind fun t351 => (if t351 < 0 then (some true) else ((laws_toFrame.f k l0_0 l0_1).bind fun bt352 => ((laws_toPullS.f k l1).bind fun t358 => ((spec_GreatestLoad.f k bt352.1 bt352.2 t358 a2).bind fun bt361 => ((laws_toFrame.f k l0_0 l0_1).bind fun bt363 => ((laws_toPullS.f k l1).bind fun t370 => ((impl_GreatestLoad.f k bt363.1 bt363.2 t370 a2).bind fun bt373 => (if bt373.1 = bt361.1 then (laws_FnExactGreatestLoad.j0 k l1 t370 (bt373.2 != bt361.2) l0_0 l0_1 bt363.1 bt363.2) else (laws_FnExactGreatestLoad.j0 k l1 t370 true l0_0 l0_1 bt363.1 bt363.2)))))))))))) = some r := h
 clear h
 replace H := Option.bind_eq_some_iff.mp H
 obtain ⟨t350, A40, H⟩ := H
 replace H : (if t350 < 0 then (some true) else ((laws_szPullS.f l1 t350).bind fun t351 => (if t351 < 0 then (some true) else ((laws_toFrame.f k l0_0 l0_1).bind fun bt352 => ((laws_toPullS.f k l1).bind fun t358 => ((spec_GreatestLoad.f k bt352.1 bt352.2 t358 a2).bind fun bt361 => ((laws_toFrame.f k l0_0 l0_1).bind fun bt363 => ((laws_toPullS.f k l1).bind fun t370 => ((impl_GreatestLoad.f k bt363.1 bt363.2 t370 a2).bind fun bt373 => (if bt373.1 = bt361.1 then (laws_FnExactGreatestLoad.j0 k l1 t370 (bt373.2 != bt361.2) l0_0 l0_1 bt363.1 bt363.2) else (laws_FnExactGreatestLoad.j0 k l1 t370 true l0_0 l0_1 bt363.1 bt363.2))))))))))) = some r := H
 have A4 := zQ A40
 clear A40
 by_cases c5 : t350 < 0
 ·rw [if_pos c5] at H
  have c5b0 : decide (t350 < 0) = true := decide_eq_true c5; clear c5; obtain rfl := Option.some.inj H
  go_enter Try.func6, Try.ntmps6
  go_wp2_with (first | ((with_reducible refine zd 3 ?_); refine zbx (N := 3) (cs := #[.slice A0_0 l0_0.length c0_0, .slice A0_1 l0_1.length c0_1]) (t := 54) ?_; intro gb349 hg w6 hbox hb; have BK349 := zQ (hbox); have GW349 := zgz hg HB.out; have GE349 := GW349; replace HB := zbs HB.out hb; clear hb hbox hg; have hcz7_0 := zc0 BK349.out; have hcz7_1 := zc1 BK349.out; have hfz7_0 := zfz BK349.out 0; have hfz7_1 := zfz BK349.out 1) | ((with_reducible refine zgc 34 ?_); refine goesL_ (some 16) rfl rfl Try.func34 (by kernel_rfl) rfl #[.agg #[.slice A0_0 l0_0.length c0_0, .slice A0_1 l0_1.length c0_1], .int .i64 1048576] rfl zM ?_; (with_reducible refine (laws_szFrame.calls _ _ l0_0 _ _ l0_1 1048576 t350 _ (zC HR0_0.out HB.out) HC0_0.out (zC HR0_1.out HB.out) HC0_1.out A4.out).mono ?_); rintro e w8 ⟨rfl, hb⟩; refine ⟨_, rfl, ?_⟩; replace BK349 := zbl BK349.out hb; replace HB := zbs2 HB.out GE349.out hb; (try clear hb)))
  go_ret
  exact ⟨zE, zB2 HB.out GE349.out⟩
 ·rw [if_neg c5] at H
  have c5b0 : decide (t350 < 0) = false := decide_eq_false c5; clear c5; replace H := Option.bind_eq_some_iff.mp H; obtain ⟨t351, A90, H⟩ := H; replace H : (if t351 < 0 then (some true) else ((laws_toFrame.f k l0_0 l0_1).bind fun bt352 => ((laws_toPullS.f k l1).bind fun t358 => ((spec_GreatestLoad.f k bt352.1 bt352.2 t358 a2).bind fun bt361 => ((laws_toFrame.f k l0_0 l0_1).bind fun bt363 => ((laws_toPullS.f k l1).bind fun t370 => ((impl_GreatestLoad.f k bt363.1 bt363.2 t370 a2).bind fun bt373 => (if bt373.1 = bt361.1 then (laws_FnExactGreatestLoad.j0 k l1 t370 (bt373.2 != bt361.2) l0_0 l0_1 bt363.1 bt363.2) else (laws_FnExactGreatestLoad.j0 k l1 t370 true l0_0 l0_1 bt363.1 bt363.2))))))))) = some r := H; have A9 := zQ A90; clear A90
  by_cases c10 : t351 < 0
  ·rw [if_pos c10] at H
   have c10b0 : decide (t351 < 0) = true := decide_eq_true c10; clear c10; obtain rfl := Option.some.inj H
   go_enter Try.func6, Try.ntmps6
   go_wp2_with (first | ((with_reducible refine zd 3 ?_); refine zbx (N := 3) (cs := #[.slice A0_0 l0_0.length c0_0, .slice A0_1 l0_1.length c0_1]) (t := 54) ?_; intro gb349 hg w11 hbox hb; have BK349 := zQ (hbox); have GW349 := zgz hg HB.out; have GE349 := GW349; replace HB := zbs HB.out hb; clear hb hbox hg; have hcz12_0 := zc0 BK349.out; have hcz12_1 := zc1 BK349.out; have hfz12_0 := zfz BK349.out 0; have hfz12_1 := zfz BK349.out 1) | ((with_reducible refine zgc 34 ?_); refine goesL_ (some 16) rfl rfl Try.func34 (by kernel_rfl) rfl #[.agg #[.slice A0_0 l0_0.length c0_0, .slice A0_1 l0_1.length c0_1], .int .i64 1048576] rfl zM ?_; (with_reducible refine (laws_szFrame.calls _ _ l0_0 _ _ l0_1 1048576 t350 _ (zC HR0_0.out HB.out) HC0_0.out (zC HR0_1.out HB.out) HC0_1.out A4.out).mono ?_); rintro e w13 ⟨rfl, hb⟩; refine ⟨_, rfl, ?_⟩; replace BK349 := zbl BK349.out hb; replace HB := zbs2 HB.out GE349.out hb; (try clear hb)) | ((with_reducible refine zgc 35 ?_); refine zgo (some 21) Try.func35 #[.slice A1 l1.length c1, .int .i64 t350] ?_; (with_reducible refine (laws_szPullS.calls _ _ l1 t350 t351 _ (zC HR1.out HB.out) HC1.out A9.out).mono ?_); rintro e w' ⟨rfl, ⟨nd, rfl⟩⟩; refine ⟨_, rfl, ?_⟩))
   go_ret
   exact ⟨zE, zB2 HB.out GE349.out⟩
  ·rw [if_neg c10] at H
   have c10b0 : decide (t351 < 0) = false := decide_eq_false c10; clear c10; replace H := Option.bind_eq_some_iff.mp H; obtain ⟨⟨t352, t355⟩, A140, H⟩ := H; replace H : ((laws_toPullS.f k l1).bind fun t358 => ((spec_GreatestLoad.f k t352 t355 t358 a2).bind fun bt361 => ((laws_toFrame.f k l0_0 l0_1).bind fun bt363 => ((laws_toPullS.f k l1).bind fun t370 => ((impl_GreatestLoad.f k bt363.1 bt363.2 t370 a2).bind fun bt373 => (if bt373.1 = bt361.1 then (laws_FnExactGreatestLoad.j0 k l1 t370 (bt373.2 != bt361.2) l0_0 l0_1 bt363.1 bt363.2) else (laws_FnExactGreatestLoad.j0 k l1 t370 true l0_0 l0_1 bt363.1 bt363.2))))))) = some r := H; have A14 := zQ A140; clear A140; replace H := Option.bind_eq_some_iff.mp H; obtain ⟨t358, A150, H⟩ := H; replace H : ((spec_GreatestLoad.f k t352 t355 t358 a2).bind fun bt361 => ((laws_toFrame.f k l0_0 l0_1).bind fun bt363 => ((laws_toPullS.f k l1).bind fun t370 => ((impl_GreatestLoad.f k bt363.1 bt363.2 t370 a2).bind fun bt373 => (if bt373.1 = bt361.1 then (laws_FnExactGreatestLoad.j0 k l1 t370 (bt373.2 != bt361.2) l0_0 l0_1 bt363.1 bt363.2) else (laws_FnExactGreatestLoad.j0 k l1 t370 true l0_0 l0_1 bt363.1 bt363.2)))))) = some r := H; have A15 := zQ A150; clear A150; replace H := Option.bind_eq_some_iff.mp H; obtain ⟨⟨t361, t362⟩, A160, H⟩ := H
   replace H : ((laws_toFrame.f k l0_0 l0_1).bind fun bt363 => ((laws_toPullS.f k l1).bind fun t370 => ((impl_GreatestLoad.f k bt363.1 bt363.2 t370 a2).bind fun bt373 => (if bt373.1 = t361 then (laws_FnExactGreatestLoad.j0 k l1 t370 (bt373.2 != t362) l0_0 l0_1 bt363.1 bt363.2) else (laws_FnExactGreatestLoad.j0 k l1 t370 true l0_0 l0_1 bt363.1 bt363.2))))) = some r := H; have A16 := zQ A160; clear A160; replace H := Option.bind_eq_some_iff.mp H; obtain ⟨⟨t363, t366⟩, A170, H⟩ := H; replace H : ((laws_toPullS.f k l1).bind fun t370 => ((impl_GreatestLoad.f k t363 t366 t370 a2).bind fun bt373 => (if bt373.1 = t361 then (laws_FnExactGreatestLoad.j0 k l1 t370 (bt373.2 != t362) l0_0 l0_1 t363 t366) else (laws_FnExactGreatestLoad.j0 k l1 t370 true l0_0 l0_1 t363 t366)))) = some r := H; have A17 := zQ A170; clear A170; replace H := Option.bind_eq_some_iff.mp H; obtain ⟨t370, A180, H⟩ := H; replace H : ((impl_GreatestLoad.f k t363 t366 t370 a2).bind fun bt373 => (if bt373.1 = t361 then (laws_FnExactGreatestLoad.j0 k l1 t370 (bt373.2 != t362) l0_0 l0_1 t363 t366) else (laws_FnExactGreatestLoad.j0 k l1 t370 true l0_0 l0_1 t363 t366))) = some r := H; have A18 := zQ A180; clear A180; replace H := Option.bind_eq_some_iff.mp H; obtain ⟨⟨t373, t374⟩, A190, H⟩ := H; replace H : (if t373 = t361 then (laws_FnExactGreatestLoad.j0 k l1 t370 (t374 != t362) l0_0 l0_1 t363 t366) else (laws_FnExactGreatestLoad.j0 k l1 t370 true l0_0 l0_1 t363 t366)) = some r := H; have A19 := zQ A190; clear A190
   have HC20 := zQ H; clear H
   go_enter Try.func6, Try.ntmps6
   go_upto_region 12 with (first | ((with_reducible refine zd 3 ?_); refine zbx (N := 3) (cs := #[.slice A0_0 l0_0.length c0_0, .slice A0_1 l0_1.length c0_1]) (t := 54) ?_; intro gb349 hg w21 hbox hb; have BK349 := zQ (hbox); have GW349 := zgz hg HB.out; have GE349 := GW349; replace HB := zbs HB.out hb; clear hb hbox hg; have hcz22_0 := zc0 BK349.out; have hcz22_1 := zc1 BK349.out; have hfz22_0 := zfz BK349.out 0; have hfz22_1 := zfz BK349.out 1) | ((with_reducible refine zgc 34 ?_); refine goesL_ (some 16) rfl rfl Try.func34 (by kernel_rfl) rfl #[.agg #[.slice A0_0 l0_0.length c0_0, .slice A0_1 l0_1.length c0_1], .int .i64 1048576] rfl zM ?_; (with_reducible refine (laws_szFrame.calls _ _ l0_0 _ _ l0_1 1048576 t350 _ (zC HR0_0.out HB.out) HC0_0.out (zC HR0_1.out HB.out) HC0_1.out A4.out).mono ?_); rintro e w23 ⟨rfl, hb⟩; refine ⟨_, rfl, ?_⟩; replace BK349 := zbl BK349.out hb; replace HB := zbs2 HB.out GE349.out hb; (try clear hb)) | ((with_reducible refine zgc 35 ?_); refine zgo (some 21) Try.func35 #[.slice A1 l1.length c1, .int .i64 t350] ?_; (with_reducible refine (laws_szPullS.calls _ _ l1 t350 t351 _ (zC HR1.out HB.out) HC1.out A9.out).mono ?_); rintro e w' ⟨rfl, ⟨nd, rfl⟩⟩; refine ⟨_, rfl, ?_⟩; (try (rw [drewN_self w23]; generalize hq_ : World.drewN w23 _ = w23; have n0_ : Aside0 (w23.heap[gb349]? = some (.cells #[.slice A0_0 l0_0.length c0_0, .slice A0_1 l0_1.length c0_1] 54 (0, 0))) := ⟨by rw [← hq_]; exact (zb BK349.out)⟩; have n1_ : Aside0 (Below w.heap.size w w23) := ⟨by rw [← hq_]; exact (zB2 HB.out GE349.out)⟩; clear BK349 HB hq_; have BK349 := n0_; have HB := n1_; clear n0_ n1_)); (try (have hczrw23_gb349_0 := zc0 BK349.out)); (try (have hfzrw23_gb349_0 := zfz BK349.out 0)); (try (have hczrw23_gb349_1 := zc1 BK349.out)); (try (have hfzrw23_gb349_1 := zfz BK349.out 1)); have hcz24_0 := zc0 BK349.out; have hcz24_1 := zc1 BK349.out; have hfz24_0 := zfz BK349.out 0; have hfz24_1 := zfz BK349.out 1) | ((with_reducible refine zgc 36 ?_); refine goesL_ (some 26) rfl rfl Try.func36 (by kernel_rfl) rfl #[.agg #[.slice A0_0 l0_0.length c0_0, .slice A0_1 l0_1.length c0_1]] rfl zM ?_; (with_reducible refine (laws_toFrame.calls k _ _ l0_0 _ _ l0_1 t352 t355 _ (zC HR0_0.out HB.out) HC0_0.out (zC HR0_1.out HB.out) HC0_1.out A14.out).mono ?_); rintro e w25 ⟨v353, v356, rfl, ho0, ho1, hb⟩; refine ⟨_, rfl, ?_⟩; have HO354 := zQ (Kd.R_lower ho0 (below_size (zB2 HB.out GE349.out))); have HO357 := zQ (Kd.R_lower ho1 (below_size (zB2 HB.out GE349.out))); replace BK349 := zbl BK349.out hb; replace HB := zbs2 HB.out GE349.out hb; (try clear hb); (try clear ho0); (try clear ho1)) | ((with_reducible refine zgc 37 ?_); refine zgo (some 28) Try.func37 #[.slice A1 l1.length c1] ?_; (with_reducible refine (laws_toPullS.calls k _ _ l1 t358 _ (zC HR1.out HB.out) HC1.out A15.out).mono ?_); rintro e w26 ⟨v359, rfl, ho0, hb⟩; refine ⟨_, rfl, ?_⟩; have HO360 := zQ (Kd.R_lower ho0 (below_size (zB2 HB.out GE349.out))); replace HO354 := zQ (Kd.R_below (zR HO354.out) hb); replace HO357 := zQ (Kd.R_below (zR HO357.out) hb); replace BK349 := zbl BK349.out hb; replace HB := zbs2 HB.out GE349.out hb; (try clear hb); (try clear ho0); obtain ⟨Ao27, co27, eo27⟩ := Kd.R_slice HO354.out; subst eo27; obtain ⟨Ao28, co28, eo28⟩ := Kd.R_slice HO357.out; subst eo28; obtain ⟨Ao29, co29, eo29⟩ := Kd.R_slice HO360.out; subst eo29) | ((with_reducible refine zgc 29 ?_); refine goesL_ (some 30) rfl rfl Try.func29 (by kernel_rfl) rfl #[.agg #[.slice Ao27 t352.length co27, .slice Ao28 t355.length co28], .slice Ao29 t358.length co29, .int .i64 a2] rfl zM ?_; (with_reducible refine (spec_GreatestLoad.calls k _ _ t352 _ _ t355 _ _ t358 a2 t361 t362 _ ?side1 ((Kd.R_reads' HO354.out).2.1) ?side3 ((Kd.R_reads' HO357.out).2.1) ?side5 ((Kd.R_reads' HO360.out).2.1) A16.out).mono ?_); (case side1 => repeat (first | exact (Kd.R_reads' HO354.out).2.2 | (with_reducible refine Kd.C_alloc ?_ _) | (with_reducible refine Kd.C_drewN ?_ _) | (with_reducible refine Kd.C_drew ?_))); (case side3 => repeat (first | exact (Kd.R_reads' HO357.out).2.2 | (with_reducible refine Kd.C_alloc ?_ _) | (with_reducible refine Kd.C_drewN ?_ _) | (with_reducible refine Kd.C_drew ?_))); (case side5 => repeat (first | exact (Kd.R_reads' HO360.out).2.2 | (with_reducible refine Kd.C_alloc ?_ _) | (with_reducible refine Kd.C_drewN ?_ _) | (with_reducible refine Kd.C_drew ?_))); rintro e w30 ⟨rfl, hb⟩; refine ⟨_, rfl, ?_⟩; replace HO354 := zQ (Kd.R_below (zR HO354.out) hb); replace HO357 := zQ (Kd.R_below (zR HO357.out) hb); replace HO360 := zQ (Kd.R_below (zR HO360.out) hb); replace BK349 := zbl BK349.out hb; replace HB := zbs2 HB.out GE349.out hb; (try clear hb); have hcz31_0 := zc0 BK349.out; have hcz31_1 := zc1 BK349.out; have hfz31_0 := zfz BK349.out 0; have hfz31_1 := zfz BK349.out 1) | ((with_reducible refine zgc 36 ?_); refine goesL_ (some 34) rfl rfl Try.func36 (by kernel_rfl) rfl #[.agg #[.slice A0_0 l0_0.length c0_0, .slice A0_1 l0_1.length c0_1]] rfl zM ?_; (with_reducible refine (laws_toFrame.calls k _ _ l0_0 _ _ l0_1 t363 t366 _ (zC HR0_0.out HB.out) HC0_0.out (zC HR0_1.out HB.out) HC0_1.out A17.out).mono ?_); rintro e w32 ⟨v364, v367, rfl, ho0, ho1, hb⟩; refine ⟨_, rfl, ?_⟩; have HO365 := zQ (Kd.R_lower (Kd.R_new' ho0 (Kd.R_lt (zR HO354.out))) (below_size (zB2 HB.out GE349.out))); have HO368 := zQ (Kd.R_lower (Kd.R_new' ho1 (Kd.R_lt (zR HO357.out))) (below_size (zB2 HB.out GE349.out))); replace HO354 := zQ (Kd.R_elder' (zR HO354.out) (Kd.R_base ho0) hb); replace HO357 := zQ (Kd.R_elder' (zR HO357.out) (Kd.R_base ho1) hb); replace HO360 := zQ (Kd.R_below (zR HO360.out) hb); replace BK349 := zbl BK349.out hb; replace HB := zbs2 HB.out GE349.out hb; (try clear hb); (try clear ho0); (try clear ho1)) | ((with_reducible refine zd 10 ?_); refine zbx (N := 10) (cs := #[.slice none 0 0, .slice none 0 0]) (t := 27) ?_; intro gb369 hg w33 hbox hb; have BK369 := zQ (hbox); have GW369 := zgz2 hg HB.out GE349.out; have GE369 := GW369; have NB349_369 := zQ ((by rw [hg]; exact Nat.ne_of_lt (blk_lt (g := gb349) (o := .cells #[.slice A0_0 l0_0.length c0_0, .slice A0_1 l0_1.length c0_1] 54 (0, 0)) (zb BK349.out)) : gb349 ≠ gb369)); have NB369_349 := zQ ((by rw [hg]; exact Nat.ne_of_gt (blk_lt (g := gb349) (o := .cells #[.slice A0_0 l0_0.length c0_0, .slice A0_1 l0_1.length c0_1] 54 (0, 0)) (zb BK349.out)) : gb369 ≠ gb349)); replace HO354 := zQ (Kd.R_below (zR HO354.out) hb); replace HO357 := zQ (Kd.R_below (zR HO357.out) hb); replace HO360 := zQ (Kd.R_below (zR HO360.out) hb); replace HO365 := zQ (Kd.R_below (zR HO365.out) hb); replace HO368 := zQ (Kd.R_below (zR HO368.out) hb); replace BK349 := zbl BK349.out hb; replace HB := zbs2 HB.out GE349.out hb; clear hb hbox hg; obtain ⟨Ao34, co34, eo34⟩ := Kd.R_slice HO365.out; subst eo34; have hnb35 := NB369_349.out; have hnc35 := NB349_369.out; have hcz36_0 := zc0 BK369.out; have hcz36_1 := zc1 BK369.out; have hfz36_0 := zfz BK369.out 0; have hfz36_1 := zfz BK369.out 1; obtain ⟨Ao37, co37, eo37⟩ := Kd.R_slice HO368.out; subst eo37) | ((with_reducible refine zgc 37 ?_); refine zgo (some 36) Try.func37 #[.slice A1 l1.length c1] ?_; (with_reducible refine (laws_toPullS.calls k _ _ l1 t370 _ (Kd.C_below HR1.out (zB3 HB.out GE349.out GE369.out)) HC1.out A18.out).mono ?_); rintro e w38 ⟨v371, rfl, ho0, hb⟩; refine ⟨_, rfl, ?_⟩; have HO372 := zQ (Kd.R_lower (Kd.R_new' ho0 (Kd.R_lt (by (with_reducible repeat (first | apply Kd.R_alloc | apply Kd.R_drewN | apply Kd.R_drew)); exact (Kd.R_mono (Kd.R_far (p := ⟨gb369, 1, none⟩) (Kd.R_far (p := ⟨gb369, 0, none⟩) (Kd.R_types HO360.out BK369.out (by decide)) (fun _ hk => hk.2) (.slice Ao34 t363.length co34)) (fun _ hk => hk.2) (.slice Ao37 t366.length co37)) (fun _ h_ => h_.1))))) (below_size (zB3 HB.out GE349.out GE369.out))); replace HO354 := zQ (Kd.R_below (by (with_reducible repeat (first | apply Kd.R_alloc | apply Kd.R_drewN | apply Kd.R_drew)); exact (Kd.R_mono (Kd.R_far (p := ⟨gb369, 1, none⟩) (Kd.R_far (p := ⟨gb369, 0, none⟩) (Kd.R_types HO354.out BK369.out (by decide)) (fun _ hk => hk.2) (.slice Ao34 t363.length co34)) (fun _ hk => hk.2) (.slice Ao37 t366.length co37)) (fun _ h_ => h_.1))) hb); replace HO357 := zQ (Kd.R_below (by (with_reducible repeat (first | apply Kd.R_alloc | apply Kd.R_drewN | apply Kd.R_drew)); exact (Kd.R_mono (Kd.R_far (p := ⟨gb369, 1, none⟩) (Kd.R_far (p := ⟨gb369, 0, none⟩) (Kd.R_types HO357.out BK369.out (by decide)) (fun _ hk => hk.2) (.slice Ao34 t363.length co34)) (fun _ hk => hk.2) (.slice Ao37 t366.length co37)) (fun _ h_ => h_.1))) hb); replace HO360 := zQ (Kd.R_elder' (by (with_reducible repeat (first | apply Kd.R_alloc | apply Kd.R_drewN | apply Kd.R_drew)); exact (Kd.R_mono (Kd.R_far (p := ⟨gb369, 1, none⟩) (Kd.R_far (p := ⟨gb369, 0, none⟩) (Kd.R_types HO360.out BK369.out (by decide)) (fun _ hk => hk.2) (.slice Ao34 t363.length co34)) (fun _ hk => hk.2) (.slice Ao37 t366.length co37)) (fun _ h_ => h_.1))) (Kd.R_base ho0) hb); replace HO365 := zQ (Kd.R_below (by (with_reducible repeat (first | apply Kd.R_alloc | apply Kd.R_drewN | apply Kd.R_drew)); exact (Kd.R_mono (Kd.R_far (p := ⟨gb369, 1, none⟩) (Kd.R_far (p := ⟨gb369, 0, none⟩) (Kd.R_types HO365.out BK369.out (by decide)) (fun _ hk => hk.2) (.slice Ao34 t363.length co34)) (fun _ hk => hk.2) (.slice Ao37 t366.length co37)) (fun _ h_ => h_.1))) hb); replace HO368 := zQ (Kd.R_below (by (with_reducible repeat (first | apply Kd.R_alloc | apply Kd.R_drewN | apply Kd.R_drew)); exact (Kd.R_mono (Kd.R_far (p := ⟨gb369, 1, none⟩) (Kd.R_far (p := ⟨gb369, 0, none⟩) (Kd.R_types HO368.out BK369.out (by decide)) (fun _ hk => hk.2) (.slice Ao34 t363.length co34)) (fun _ hk => hk.2) (.slice Ao37 t366.length co37)) (fun _ h_ => h_.1))) hb); replace BK349 := zQ (blk_below (g := gb349) (o := .cells #[.slice A0_0 l0_0.length c0_0, .slice A0_1 l0_1.length c0_1] 54 (0, 0)) (by refine zb ?_; refine blk_far ?_ NB349_369.out _; refine zb ?_; refine blk_far ?_ NB349_369.out _; refine zb ?_; exact BK349.out) hb); replace BK369 := zQ (blk_below (g := gb369) (o := .cells #[.slice Ao34 t363.length co34, .slice Ao37 t366.length co37] 27 (0, 0)) (by refine zb ?_; refine blk_put (cs := #[.slice Ao34 t363.length co34, .slice none 0 0]) ?_ 1 _ rfl; refine zb ?_; refine blk_put (cs := #[.slice none 0 0, .slice none 0 0]) ?_ 0 _ rfl; refine zb ?_; exact BK369.out) hb); replace HB := zQ (below_step (zB3 HB.out GE349.out GE369.out) hb); (try clear hb); (try clear ho0); have hcz39_0 := zc0 BK369.out; have hcz39_1 := zc1 BK369.out; have hfz39_0 := zfz BK369.out 0; have hfz39_1 := zfz BK369.out 1; obtain ⟨Ao40, co40, eo40⟩ := Kd.R_slice HO372.out; subst eo40) | ((with_reducible refine zgc 28 ?_); refine goesL_ (some 41) rfl rfl Try.func28 (by kernel_rfl) rfl #[.agg #[.slice Ao34 t363.length co34, .slice Ao37 t366.length co37], .slice Ao40 t370.length co40, .int .i64 a2] rfl zM ?_; (with_reducible refine (impl_GreatestLoad.calls k _ _ t363 _ _ t366 _ _ t370 a2 t373 t374 _ ?side1 ((Kd.R_reads' HO365.out).2.1) ?side3 ((Kd.R_reads' HO368.out).2.1) ?side5 ((Kd.R_reads' HO372.out).2.1) A19.out).mono ?_); (case side1 => repeat (first | exact (Kd.R_reads' HO365.out).2.2 | (with_reducible refine Kd.C_alloc ?_ _) | (with_reducible refine Kd.C_drewN ?_ _) | (with_reducible refine Kd.C_drew ?_))); (case side3 => repeat (first | exact (Kd.R_reads' HO368.out).2.2 | (with_reducible refine Kd.C_alloc ?_ _) | (with_reducible refine Kd.C_drewN ?_ _) | (with_reducible refine Kd.C_drew ?_))); (case side5 => repeat (first | exact (Kd.R_reads' HO372.out).2.2 | (with_reducible refine Kd.C_alloc ?_ _) | (with_reducible refine Kd.C_drewN ?_ _) | (with_reducible refine Kd.C_drew ?_))); rintro e w41 ⟨rfl, hb⟩; refine ⟨_, rfl, ?_⟩; replace HO354 := zQ (Kd.R_below (zR HO354.out) hb); replace HO357 := zQ (Kd.R_below (zR HO357.out) hb); replace HO360 := zQ (Kd.R_below (zR HO360.out) hb); replace HO365 := zQ (Kd.R_below (zR HO365.out) hb); replace HO368 := zQ (Kd.R_below (zR HO368.out) hb); replace HO372 := zQ (Kd.R_below (zR HO372.out) hb); replace BK349 := zbl BK349.out hb; replace BK369 := zbl BK369.out hb; replace HB := zQ (below_step (zB3 HB.out GE349.out GE369.out) hb); (try clear hb)))
   (try simp only [Act.put, List.setIfInBounds_toArray, List.set_cons_zero, List.set_cons_succ])
   go_cut [51] (fun v51 wc => ∃ (kq : Nat) (x51_19 : Bool), v51 = .bool x51_19 ∧ Aside0 (laws_FnExactGreatestLoad.j0 kq l1 t370 x51_19 l0_0 l0_1 t363 t366 = some r) ∧ Aside0 (kq ≤ k) ∧ Aside0 (Kd.R k113 113 wc w.heap.size (fun _ => True) (.slice Ao40 t370.length co40) t370) ∧ Aside0 (Kd.R k164 164 wc w.heap.size (fun _ => True) (.slice Ao34 t363.length co34) t363) ∧ Aside0 (Kd.R k115 115 wc w.heap.size (fun _ => True) (.slice Ao37 t366.length co37) t366) ∧ Aside0 (wc.heap[gb349]? = some (.cells #[(.slice A0_0 l0_0.length c0_0), (.slice A0_1 l0_1.length c0_1)] 54 (0, 0))) ∧ Aside0 (wc.heap[gb369]? = some (.cells #[(.slice Ao34 t363.length co34), (.slice Ao37 t366.length co37)] 27 (0, 0))) ∧ Aside0 (Below w.heap.size w wc))
   case first =>
    have H := HC20.out; clear HC20
    by_cases c42 : t373 = t361
    ·rw [if_pos c42] at H
     have c42b0 : (t373 == t361) = true := beq_iff_eq.mpr c42; have c42b1 : (t373 != t361) = false := bne_eq_false_iff_eq.mpr c42; clear c42
     (first | rw [c42b0] | (simp only [i64_w, i32_w]; rw [c42b0]) | skip)
     have H' := zQ H; clear H
     go_wp2
     go_meet
     case rel => exact ⟨_, ((t374 != t362)), (zF), H', ⟨by first | omega | exact Nat.le_refl _⟩, ⟨by (with_reducible repeat (first | apply Kd.R_alloc | apply Kd.R_drewN | apply Kd.R_drew)); exact Kd.R_mono HO372.out (fun _ hk => trivial)⟩, ⟨by (with_reducible repeat (first | apply Kd.R_alloc | apply Kd.R_drewN | apply Kd.R_drew)); exact Kd.R_mono HO365.out (fun _ hk => trivial)⟩, ⟨by (with_reducible repeat (first | apply Kd.R_alloc | apply Kd.R_drewN | apply Kd.R_drew)); exact Kd.R_mono HO368.out (fun _ hk => trivial)⟩, ⟨zb BK349.out⟩, ⟨zb BK369.out⟩, ⟨zB3 HB.out GE349.out GE369.out⟩⟩
    ·rw [if_neg c42] at H
     have c42b0 : (t373 == t361) = false := beq_eq_false_iff_ne.mpr c42; have c42b1 : (t373 != t361) = true := bne_iff_ne.mpr c42
     (first | rw [c42b0] | (simp only [i64_w, i32_w]; rw [c42b0]) | skip)
     exact (laws_FnExactGreatestLoad.j0_cut _ _ _ _ _ _ _ _ H HRT.out).elim
   case rest =>
    clear HC20; (try clear c1); (try clear c2); (try clear p2); (try clear c3); (try clear c4); (try clear c5); (try clear c5b0); (try clear c6); (try clear c10); (try clear c10b0); (try clear c28); (try clear c29); (try clear c34); (try clear c35); (try clear c36); (try clear c37); (try clear c42); (try clear c42b0); (try clear c42b1); (try clear hcz12_0); (try clear hcz12_1); (try clear hcz22_0); (try clear hcz22_1); (try clear hcz24_0); (try clear hcz24_1); (try clear hcz31_0); (try clear hcz31_1); (try clear hcz36_0); (try clear hcz36_1); (try clear hcz39_0); (try clear hcz39_1); (try clear hcz7_0); (try clear hcz7_1); (try clear hfz12_0); (try clear hfz12_1); (try clear hfz22_0); (try clear hfz22_1); (try clear hfz24_0); (try clear hfz24_1); (try clear hfz31_0); (try clear hfz31_1); (try clear hfz36_0); (try clear hfz36_1); (try clear hfz39_0); (try clear hfz39_1); (try clear hfz7_0); (try clear hfz7_1); obtain ⟨kq, x51_19, rfl, HA, HJ19, HO_11, HO_370000, HO_370001, BK349, BK369, HB⟩ := hcut
    cases kq with
    | zero => exact absurd HA.out (by simp [laws_FnExactGreatestLoad.j0])
    | succ kj19 =>
     have H := HA.out; clear HA
     simp only [laws_FnExactGreatestLoad.j0] at H
     by_cases c43 : x51_19 = true
     ·subst c43
      have H1 : (some false) = some r := by rw [if_pos rfl] at H; exact H
      clear H; have H := H1; clear H1; obtain rfl := Option.some.inj H
      exact absurd HRT.out (by decide)
     ·replace c43 := Bool.eq_false_iff.mpr c43
      subst c43
      have H1 : ((laws_toFrame.f kj19 l0_0 l0_1).bind fun bt375 => ((laws_eqFrame.f kj19 t363 t366 bt375.1 bt375.2).bind fun t381 => (if t381 = true then ((laws_toPullS.f kj19 l1).bind fun t382 => ((laws_eqPullS.f kj19 t370 t382).bind fun t385 => (if t385 = true then (some true) else (some false)))) else (some false)))) = some r := by rw [if_neg (show ¬ (false = true) by decide)] at H; exact H
      clear H; have H := H1; clear H1; replace H := Option.bind_eq_some_iff.mp H; obtain ⟨⟨t375, t378⟩, A440, H⟩ := H; replace H : ((laws_eqFrame.f kj19 t363 t366 t375 t378).bind fun t381 => (if t381 = true then ((laws_toPullS.f kj19 l1).bind fun t382 => ((laws_eqPullS.f kj19 t370 t382).bind fun t385 => (if t385 = true then (some true) else (some false)))) else (some false))) = some r := H; have A44 := zQ A440; clear A440; replace H := Option.bind_eq_some_iff.mp H; obtain ⟨t381, A450, H⟩ := H; replace H : (if t381 = true then ((laws_toPullS.f kj19 l1).bind fun t382 => ((laws_eqPullS.f kj19 t370 t382).bind fun t385 => (if t385 = true then (some true) else (some false)))) else (some false)) = some r := H; have A45 := zQ A450; clear A450
      by_cases c46 : t381 = true
      ·subst c46
       have H1 : ((laws_toPullS.f kj19 l1).bind fun t382 => ((laws_eqPullS.f kj19 t370 t382).bind fun t385 => (if t385 = true then (some true) else (some false)))) = some r := by rw [if_pos rfl] at H; exact H
       clear H; have H := H1; clear H1; replace H := Option.bind_eq_some_iff.mp H; obtain ⟨t382, A470, H⟩ := H; replace H : ((laws_eqPullS.f kj19 t370 t382).bind fun t385 => (if t385 = true then (some true) else (some false))) = some r := H; have A47 := zQ A470; clear A470; replace H := Option.bind_eq_some_iff.mp H; obtain ⟨t385, A480, H⟩ := H; replace H : (if t385 = true then (some true) else (some false)) = some r := H; have A48 := zQ A480; clear A480
       by_cases c49 : t385 = true
       ·subst c49
        have H1 : (some true) = some r := by rw [if_pos rfl] at H; exact H
        clear H; have H := H1; clear H1; obtain rfl := Option.some.inj H
        try go_wp2
        have n0_ := zQ (Kd.R_drew HO_11.out); have n1_ := zQ (Kd.R_drew HO_370000.out); have n2_ := zQ (Kd.R_drew HO_370001.out); have n3_ := zQ (blk_drew BK349.out); have n4_ := zQ (blk_drew BK369.out); have n5_ := zQ (below_drew1 HB.out); clear HO_11; clear HO_370000; clear HO_370001; clear BK349; clear BK369; clear HB; have HO_11 := n0_; have HO_370000 := n1_; have HO_370001 := n2_; have BK349 := n3_; have BK369 := n4_; have HB := n5_; clear n0_ n1_ n2_ n3_ n4_ n5_
        refine zs (fun w' => w'.cell? ⟨gb369, 0, none⟩ = some (.slice Ao34 t363.length co34) ∧ w'.cell? ⟨gb369, 1, none⟩ = some (.slice Ao37 t366.length co37) ∧ w'.cell? ⟨gb349, 0, none⟩ = some (.slice A0_0 l0_0.length c0_0) ∧ w'.cell? ⟨gb349, 1, none⟩ = some (.slice A0_1 l0_1.length c0_1)) [] 5 ⟨(blk_cell BK369.out 0).trans rfl, (blk_cell BK369.out 1).trans rfl, (blk_cell BK349.out 0).trans rfl, (blk_cell BK349.out 1).trans rfl⟩ (fun hHeld => ?_)
        generalize wc.drew = w50 at HO_11 HO_370000 HO_370001 BK349 BK369 HB hHeld ⊢
        refine zt 0 52 hHeld ?_
        refine zt 1 53 hHeld ?_
        refine zo 2 (some 54) (fun K hK => ?_)
        refine goes_ Try.func36 (by kernel_rfl) rfl #[.agg #[.slice A0_0 l0_0.length c0_0, .slice A0_1 l0_1.length c0_1]] (by rfl) rfl rfl zM ?_
        with_reducible refine (laws_toFrame.calls kj19 _ _ l0_0 _ _ l0_1 t375 t378 _ ?side1 ?side2 ?side3 ?side4 A44.out).mono ?_
        (case side1 => exact zC HR0_0.out HB.out)
        (case side2 => exact HC0_0.out)
        (case side3 => exact zC HR0_1.out HB.out)
        (case side4 => exact HC0_1.out)
        rintro e w51 ⟨v376, v379, rfl, ho0, ho1, hb⟩
        refine ⟨_, rfl, ?_⟩
        have n0_ := zQ (Kd.R_below (zR HO_11.out) hb); have n1_ := zQ (Kd.R_elder' (zR HO_370000.out) (Kd.R_base ho0) hb); have n2_ := zQ (Kd.R_elder' (zR HO_370001.out) (Kd.R_base ho1) hb); have n3_ := zQ (Kd.R_lower (Kd.R_new' ho0 (Kd.R_lt (zR HO_370000.out))) (below_size (zB3 HB.out GE349.out GE369.out))); have n4_ := zQ (Kd.R_lower (Kd.R_new' ho1 (Kd.R_lt (zR HO_370001.out))) (below_size (zB3 HB.out GE349.out GE369.out))); have n5_ := zbl BK349.out hb; have n6_ := zbl BK369.out hb; have n7_ := zQ (below_step (zB3 HB.out GE349.out GE369.out) hb); clear HO_11; clear HO_370000; clear HO_370001; clear BK349; clear BK369; clear HB; have HO_11 := n0_; have HO_370000 := n1_; have HO_370001 := n2_; have HO377 := n3_; have HO380 := n4_; have BK349 := n5_; have BK369 := n6_; have HB := n7_; clear n0_ n1_ n2_ n3_ n4_ n5_ n6_ n7_
        (try clear hb)
        (try clear hb2)
        (try clear hk)
        (try clear hi)
        (try clear ho0)
        (try clear ho1)
        obtain ⟨Ao52, co52, eo52⟩ := Kd.R_slice HO377.out
        (first | subst eo52 | (injection eo52 with f1_ f2_ f3_; have f4_ := f1_.symm; have f5_ := f3_.symm; clear f1_ f2_ f3_; subst f4_; subst f5_))
        obtain ⟨Ao53, co53, eo53⟩ := Kd.R_slice HO380.out
        (first | subst eo53 | (injection eo53 with f1_ f2_ f3_; have f4_ := f1_.symm; have f5_ := f3_.symm; clear f1_ f2_ f3_; subst f4_; subst f5_))
        refine hK.out _ _ ⟨(blk_cell BK369.out 0).trans rfl, (blk_cell BK369.out 1).trans rfl, (blk_cell BK349.out 0).trans rfl, (blk_cell BK349.out 1).trans rfl⟩ (fun hHeld => ?_)
        clear hK K
        refine zn 54 ?_
        refine zo 3 (some 55) (fun K hK => ?_)
        refine goes_ Try.func39 (by kernel_rfl) rfl #[.agg #[.slice Ao34 t363.length co34, .slice Ao37 t366.length co37], .agg #[.slice Ao52 t375.length co52, .slice Ao53 t378.length co53]] (by rfl) rfl rfl zM ?_
        with_reducible refine (laws_eqFrame.calls kj19 _ _ t363 _ _ t366 _ _ t375 _ _ t378 true _ ?side1 ?side2 ?side3 ?side4 ?side5 ?side6 ?side7 ?side8 A45.out).mono ?_
        (case side1 => repeat (first | exact (Kd.R_reads' HO_370000.out).2.2 | (with_reducible refine Kd.C_alloc ?_ _) | (with_reducible refine Kd.C_drewN ?_ _) | (with_reducible refine Kd.C_drew ?_)))
        (case side2 => exact (Kd.R_reads' HO_370000.out).2.1)
        (case side3 => repeat (first | exact (Kd.R_reads' HO_370001.out).2.2 | (with_reducible refine Kd.C_alloc ?_ _) | (with_reducible refine Kd.C_drewN ?_ _) | (with_reducible refine Kd.C_drew ?_)))
        (case side4 => exact (Kd.R_reads' HO_370001.out).2.1)
        (case side5 => repeat (first | exact (Kd.R_reads' HO377.out).2.2 | (with_reducible refine Kd.C_alloc ?_ _) | (with_reducible refine Kd.C_drewN ?_ _) | (with_reducible refine Kd.C_drew ?_)))
        (case side6 => exact (Kd.R_reads' HO377.out).2.1)
        (case side7 => repeat (first | exact (Kd.R_reads' HO380.out).2.2 | (with_reducible refine Kd.C_alloc ?_ _) | (with_reducible refine Kd.C_drewN ?_ _) | (with_reducible refine Kd.C_drew ?_)))
        (case side8 => exact (Kd.R_reads' HO380.out).2.1)
        rintro e w54 ⟨rfl, hb⟩
        refine ⟨_, rfl, ?_⟩
        have n0_ := zQ (Kd.R_below (zR HO_11.out) hb); have n1_ := zQ (Kd.R_below (zR HO_370000.out) hb); have n2_ := zQ (Kd.R_below (zR HO_370001.out) hb); have n3_ := zQ (Kd.R_below (zR HO377.out) hb); have n4_ := zQ (Kd.R_below (zR HO380.out) hb); have n5_ := zbl BK349.out hb; have n6_ := zbl BK369.out hb; have n7_ := zQ (below_step (zB3 HB.out GE349.out GE369.out) hb); clear HO_11; clear HO_370000; clear HO_370001; clear HO377; clear HO380; clear BK349; clear BK369; clear HB; have HO_11 := n0_; have HO_370000 := n1_; have HO_370001 := n2_; have HO377 := n3_; have HO380 := n4_; have BK349 := n5_; have BK369 := n6_; have HB := n7_; clear n0_ n1_ n2_ n3_ n4_ n5_ n6_ n7_
        (try clear hb)
        (try clear hb2)
        (try clear hk)
        (try clear hi)
        refine hK.out _ _ ⟨(blk_cell BK369.out 0).trans rfl, (blk_cell BK369.out 1).trans rfl, (blk_cell BK349.out 0).trans rfl, (blk_cell BK349.out 1).trans rfl⟩ (fun hHeld => ?_)
        clear hK K
        refine zn 55 ?_
        refine zp 4 56 ?_
        refine done_ (by kernel_rfl) ?_
        try go_wp2_with (first | ((with_reducible refine zgc 37 ?_); refine zgo (some 59) Try.func37 #[.slice A1 l1.length c1] ?_; (with_reducible refine (laws_toPullS.calls kj19 _ _ l1 t382 _ (zC HR1.out HB.out) HC1.out A47.out).mono ?_); rintro e w55 ⟨v383, rfl, ho0, hb⟩; refine ⟨_, rfl, ?_⟩; have HO384 := zQ (Kd.R_lower (Kd.R_new' ho0 (Kd.R_lt (zR HO_11.out))) (below_size (zB3 HB.out GE349.out GE369.out))); replace HO_11 := zQ (Kd.R_elder' (zR HO_11.out) (Kd.R_base ho0) hb); replace HO_370000 := zQ (Kd.R_below (zR HO_370000.out) hb); replace HO_370001 := zQ (Kd.R_below (zR HO_370001.out) hb); replace HO377 := zQ (Kd.R_below (zR HO377.out) hb); replace HO380 := zQ (Kd.R_below (zR HO380.out) hb); replace BK349 := zbl BK349.out hb; replace BK369 := zbl BK369.out hb; replace HB := zQ (below_step (zB3 HB.out GE349.out GE369.out) hb); (try clear hb); (try clear ho0); obtain ⟨Ao56, co56, eo56⟩ := Kd.R_slice HO384.out; subst eo56) | ((with_reducible refine zgc 40 ?_); refine zgo (some 60) Try.func40 #[.slice Ao40 t370.length co40, .slice Ao56 t382.length co56] ?_; (with_reducible refine (laws_eqPullS.calls kj19 _ _ t370 _ _ t382 true _ ?side1 ((Kd.R_reads' HO_11.out).2.1) ?side3 ((Kd.R_reads' HO384.out).2.1) A48.out).mono ?_); (case side1 => repeat (first | exact (Kd.R_reads' HO_11.out).2.2 | (with_reducible refine Kd.C_alloc ?_ _) | (with_reducible refine Kd.C_drewN ?_ _) | (with_reducible refine Kd.C_drew ?_))); (case side3 => repeat (first | exact (Kd.R_reads' HO384.out).2.2 | (with_reducible refine Kd.C_alloc ?_ _) | (with_reducible refine Kd.C_drewN ?_ _) | (with_reducible refine Kd.C_drew ?_))); rintro e w57 ⟨rfl, hb⟩; refine ⟨_, rfl, ?_⟩; replace HO_11 := zQ (Kd.R_below (zR HO_11.out) hb); replace HO_370000 := zQ (Kd.R_below (zR HO_370000.out) hb); replace HO_370001 := zQ (Kd.R_below (zR HO_370001.out) hb); replace HO377 := zQ (Kd.R_below (zR HO377.out) hb); replace HO380 := zQ (Kd.R_below (zR HO380.out) hb); replace HO384 := zQ (Kd.R_below (zR HO384.out) hb); replace BK349 := zbl BK349.out hb; replace BK369 := zbl BK369.out hb; replace HB := zQ (below_step (zB3 HB.out GE349.out GE369.out) hb); (try clear hb)))
        go_ret
        exact ⟨zE, zB3 HB.out GE349.out GE369.out⟩
       ·replace c49 := Bool.eq_false_iff.mpr c49
        subst c49
        have H1 : (some false) = some r := by rw [if_neg (show ¬ (false = true) by decide)] at H; exact H
        clear H; have H := H1; clear H1; obtain rfl := Option.some.inj H
        exact absurd HRT.out (by decide)
      ·replace c46 := Bool.eq_false_iff.mpr c46
       subst c46
       have H1 : (some false) = some r := by rw [if_neg (show ¬ (false = true) by decide)] at H; exact H
       clear H; have H := H1; clear H1; obtain rfl := Option.some.inj H
       exact absurd HRT.out (by decide)

end
end Go.Proofs.Ytimjblgepbhoaaa.PStays
