/- The walks of the functions that the law reaches: each computes what its Lean function says. No condition beyond each contract's own. -/
import Derived.Test.YtimjblgepbhoaaaHStays0
import Derived.Test.YtimjblgepbhoaaaHStaysn
namespace Go.Proofs.Ytimjblgepbhoaaa.PStays
noncomputable section
open Go.RowKit Go.Proofs.YtimjblgepbhoaaaW.PrintWords Go.Proofs.YtimjblgepbhoaaaW.PrintLast Go.Proofs.YtimjblgepbhoaaaW.PrintMore
attribute [local go_sem] max2_int min2_int max_two min_two max_three min_three max_four min_four   -- for this text's walks alone
set_option linter.unusedVariables false
set_option linter.unusedSimpArgs false

/-! ### impl_canHold: function 82 -/
def impl_canHold.l0 : Nat → List (S113) → List (List Int) → Int → Int → List (S164) → List (S115) → Option (Bool)
 | 0, _, _, _, _, _, _ => none
 | k + 1, x1, x12, x13, x14, x298000, x298001 => if x14 < x13 then (if 0 ≤ x14 then (if x14 < (x12.length : Int) then ((impl_holdsAlone.f k x298000 x298001 x1 (rd_L10 x12 x14)).bind fun bt302 => (if bt302.2.2 = true then (some true) else (impl_canHold.l0 k x1 x12 x13 (wrap64 (x14 + 1)) x298000 x298001))) else (none)) else (none)) else (some false)
def impl_canHold.f (k : Nat) (l0_0 : List (S164)) (l0_1 : List (S115)) (l1 : List (S113)) (l2 : List Int) : Option (Bool) := (impl_barLists.f k l2).bind fun t298 => (impl_canHold.l0 k l1 t298 (t298.length : Int) 0 l0_0 l0_1)
theorem impl_canHold.mono_l : ∀ k, (∀ y0 y1 y2 y3 y4 y5, LeO (impl_canHold.l0 k y0 y1 y2 y3 y4 y5) (impl_canHold.l0 (k + 1) y0 y1 y2 y3 y4 y5))
 | 0 => fun _ _ _ _ _ _ r h => by simp [impl_canHold.l0] at h
 | k + 1 => by
  have ih0 := impl_canHold.mono_l k
  ·intro y0 y1 y2 y3 y4 y5
   unfold impl_canHold.l0
   (with_reducible repeat' first | apply ih0 | apply impl_barLists.mono | apply impl_holdsAlone.mono | apply LeO.refl | apply LeO.none | refine LeO.ite ?_ ?_ | refine LeO.bind ?_ (fun _ => ?_))
   repeat' first | apply ih0 | apply impl_barLists.mono | apply impl_holdsAlone.mono | apply LeO.none | refine LeO.ite ?_ ?_ | refine LeO.bind ?_ (fun _ => ?_)
theorem impl_canHold.mono : ∀ a0 a1 a2 a3 k, LeO (impl_canHold.f k a0 a1 a2 a3) (impl_canHold.f (k + 1) a0 a1 a2 a3) := by
 intro a0 a1 a2 a3 k
 have ih0 := impl_canHold.mono_l k
 unfold impl_canHold.f
 (with_reducible repeat' first | apply ih0 | apply impl_barLists.mono | apply impl_holdsAlone.mono | apply LeO.refl | apply LeO.none | refine LeO.ite ?_ ?_ | refine LeO.bind ?_ (fun _ => ?_))
 repeat' first | apply ih0 | apply impl_barLists.mono | apply impl_holdsAlone.mono | apply LeO.none | refine LeO.ite ?_ ?_ | refine LeO.bind ?_ (fun _ => ?_)
set_option maxHeartbeats 8000000 in
set_option maxRecDepth 100000 in
theorem impl_canHold.calls (k : Nat) (A0_0 : Option Addr) (c0_0 : Nat) (l0_0 : List (S164)) (A0_1 : Option Addr) (c0_1 : Nat) (l0_1 : List (S115)) (A1 : Option Addr) (c1 : Nat) (l1 : List (S113)) (A2 : Option Addr) (c2 : Nat) (l2 : List Int) (r : Bool) (w : World) (hr0_0 : Kd.C k164 w A0_0 l0_0.length l0_0) (hc0_0 : l0_0.length ≤ c0_0) (hr0_1 : Kd.C k115 w A0_1 l0_1.length l0_1) (hc0_1 : l0_1.length ≤ c0_1) (hr1 : Kd.C k113 w A1 l1.length l1) (hc1 : l1.length ≤ c1) (hr2 : Kd.C (Kd.int .i64) w A2 l2.length l2) (hc2 : l2.length ≤ c2) (h : impl_canHold.f k l0_0 l0_1 l1 l2 = some r) :
  Calls Try.prog 82 #[.agg #[.slice A0_0 l0_0.length c0_0, .slice A0_1 l0_1.length c0_1], .slice A1 l1.length c1, .slice A2 l2.length c2] w fun e w' => e = .returned (.bool r) ∧ Below w.heap.size w w' := by
 have hu27 := Try.underlying27
 have hu35 := Try.underlying35
 have HR0_0 := zQ hr0_0
 have HC0_0 := zQ hc0_0
 clear hr0_0 hc0_0
 have HR0_1 := zQ hr0_1
 have HC0_1 := zQ hc0_1
 clear hr0_1 hc0_1
 have HR1 := zQ hr1
 have HC1 := zQ hc1
 clear hr1 hc1
 have HR2 := zQ hr2
 have HC2 := zQ hc2
 clear hr2 hc2
 have HB := zQ (Below.refl w.heap.size w)
 have H : ((impl_barLists.f k l2).bind fun t298 => (impl_canHold.l0 k l1 t298 (t298.length : Int) 0 l0_0 l0_1)) = some r := h
 clear h
 replace H := Option.bind_eq_some_iff.mp H
 obtain ⟨t298, A40, H⟩ := H
 replace H : (impl_canHold.l0 k l1 t298 (t298.length : Int) 0 l0_0 l0_1) = some r := H
 have A4 := zQ A40
 clear A40
 have H' := zQ H
 clear H
 go_enter Try.func82, Try.ntmps82
 go_wp2_with (first | ((with_reducible refine zd 3 ?_); refine zbx (N := 3) (cs := #[.slice A0_0 l0_0.length c0_0, .slice A0_1 l0_1.length c0_1]) (t := 27) ?_; intro gb297 hg w5 hbox hb; have BK297 := zQ (hbox); have GW297 := zgz hg HB.out; have GE297 := GW297; replace HB := zbs HB.out hb; clear hb hbox hg) | ((with_reducible refine zgc 68 ?_); refine zgo (some 12) Try.func68 #[.slice A2 l2.length c2] ?_; (with_reducible refine (impl_barLists.calls k _ _ l2 t298 _ (zC HR2.out HB.out) HC2.out A4.out).mono ?_); rintro e w6 ⟨v299, rfl, ho0, hb⟩; refine ⟨_, rfl, ?_⟩; have HO300 := zQ (Kd.S_lower ho0 (below_size (zB2 HB.out GE297.out))); replace BK297 := zbl BK297.out hb; replace HB := zbs2 HB.out GE297.out hb; (try clear hb); (try clear ho0); obtain ⟨Ao7, co7, eo7⟩ := Kd.S_slice HO300.out; subst eo7))
 go_loopg [14] k (fun kq v14 w' => ∃ (x14_1 : Int), v14 = .int .i64 x14_1 ∧ Aside0 (impl_canHold.l0 kq l1 t298 (t298.length : Int) x14_1 l0_0 l0_1 = some r) ∧ Aside0 (kq ≤ k) ∧ Aside0 (Kd.S (Kd.slice 2 (Kd.int .i64)) 31 w' w.heap.size (fun _ => True) (.slice Ao7 t298.length co7) t298) ∧ Aside0 (w'.heap[gb297]? = some (.cells #[(.slice A0_0 l0_0.length c0_0), (.slice A0_1 l0_1.length c0_1)] 27 (0, 0))) ∧ Aside0 (Below w.heap.size w w'))
 case atStart => exact ⟨(0), (zF), H', ⟨Nat.le_refl _⟩, ⟨zS HO300.out⟩, ⟨zb BK297.out⟩, ⟨zB2 HB.out GE297.out⟩⟩
 case round =>
  clear H'; (try clear c1); (try clear c2); (try clear p2); (try clear c6); obtain ⟨x14_1, rfl, HA, HK1, HO_12, BK297, HB⟩ := hrel
  cases gk with
  | zero => exact absurd HA.out (by simp [impl_canHold.l0])
  | succ k1 =>
   have H := HA.out; clear HA
   simp only [impl_canHold.l0] at H
   by_cases c8 : x14_1 < (t298.length : Int)
   ·rw [if_pos c8] at H
    have c8b0 : decide (x14_1 < (t298.length : Int)) = true := decide_eq_true c8; clear c8
    by_cases c9 : 0 ≤ x14_1
    ·rw [if_pos c9] at H
     have c9b0 : decide (0 ≤ x14_1) = true := decide_eq_true c9; clear c9
     by_cases c10 : x14_1 < (t298.length : Int)
     ·rw [if_pos c10] at H
      have c10b0 : decide (x14_1 < (t298.length : Int)) = true := decide_eq_true c10; clear c10; replace H := Option.bind_eq_some_iff.mp H; obtain ⟨⟨t302, t305, t306⟩, A110, H⟩ := H; replace H : (if t306 = true then (some true) else (impl_canHold.l0 k1 l1 t298 (t298.length : Int) (wrap64 (x14_1 + 1)) l0_0 l0_1)) = some r := H; have A11 := zQ A110; clear A110
      by_cases c12 : t306 = true
      ·subst c12
       have H1 : (some true) = some r := by rw [if_pos rfl] at H; exact H
       clear H; have H := H1; clear H1; obtain rfl := Option.some.inj H; have p301 : 0 ≤ (x14_1 : Int) := of_decide_eq_true zA; have q301 : x14_1 < (t298.length : Int) := of_decide_eq_true zA; obtain ⟨ad301, A301_0, c301_0, e301, hx301_0, hl301_0, hi301_0⟩ := at_L10 (Kd.S_reads' HO_12.out).2.2 x14_1 p301 q301
       cases e301
       obtain ⟨ce301, hce301, hMe301, hcc301⟩ := Kd.S_get HO_12.out [] x14_1 p301 (by first | exact q301 | exact of_decide_eq_true zA | (have e_ := (Kd.S_reads' HO_12.out).1; omega)); obtain ⟨ve301_0, rfl, ge301_0⟩ := hMe301; have hv301_0 := hcc301 0 _ rfl; rw [Nat.add_zero, show ((Kd.slice 2 (Kd.int .i64))).sz = 1 from rfl, Nat.mul_one] at hv301_0; replace hv301_0 := Option.some.inj (hv301_0.symm.trans hx301_0); rw [hv301_0] at ge301_0; have HL301_0 := zQ (show Kd.R (Kd.int .i64) 2 _ _ _ _ (rd_L10 t298 x14_1) from ge301_0); clear hv301_0 ge301_0; clear hcc301 hce301; have HR301_0 := zQ hi301_0; have HC301_0 := zQ hl301_0; clear hi301_0 hl301_0; replace p301 := eq_true p301; replace q301 := eq_true q301; have hcz13_0 := zc0 BK297.out; have hcz13_1 := zc1 BK297.out; have hfz13_0 := zfz BK297.out 0; have hfz13_1 := zfz BK297.out 1
       go_wp2_with (first | ((with_reducible refine zgc 70 ?_); refine goesL_ (some 22) rfl rfl Try.func70 (by kernel_rfl) rfl #[.agg #[.slice A0_0 l0_0.length c0_0, .slice A0_1 l0_1.length c0_1], .slice A1 l1.length c1, .slice A301_0 (rd_L10 t298 x14_1).length c301_0] rfl zM ?_; (with_reducible refine (impl_holdsAlone.calls k1 _ _ l0_0 _ _ l0_1 _ _ l1 _ _ (rd_L10 t298 x14_1) t302 t305 true _ (zC HR0_0.out HB.out) HC0_0.out (zC HR0_1.out HB.out) HC0_1.out (zC HR1.out HB.out) HC1.out ?side7 HC301_0.out A11.out).mono ?_); (case side7 => repeat (first | exact (by repeat (first | (with_reducible exact HR301_0.out) | (with_reducible refine Kd.C_alloc ?_ _) | (with_reducible refine Kd.C_drewN ?_ _) | (with_reducible refine Kd.C_drew ?_) | exact HR301_0.out)) | (with_reducible refine Kd.C_alloc ?_ _) | (with_reducible refine Kd.C_drewN ?_ _) | (with_reducible refine Kd.C_drew ?_))); rintro e w14 ⟨v303, rfl, ho0, hb⟩; refine ⟨_, rfl, ?_⟩; have HO304 := zQ (Kd.R_lower (Kd.R_new' ho0 (Kd.R_lt (zR HL301_0.out))) (below_size (zB2 HB.out GE297.out))); replace HO_12 := zQ (Kd.S_elder' (zS HO_12.out) (Kd.R_base ho0) hb); replace HL301_0 := zQ (Kd.R_elder' (zR HL301_0.out) (Kd.R_base ho0) hb); replace BK297 := zbl BK297.out hb; replace HR301_0 := zQ (Kd.C_below (by repeat (first | (with_reducible exact HR301_0.out) | (with_reducible refine Kd.C_alloc ?_ _) | (with_reducible refine Kd.C_drewN ?_ _) | (with_reducible refine Kd.C_drew ?_) | exact HR301_0.out)) hb); replace HB := zbs2 HB.out GE297.out hb; (try clear hb); (try clear ho0)) | ((with_reducible refine zd 9 ?_); refine zbx (N := 9) (cs := #[.slice none 0 0, .int .i64 0]) (t := 35) ?_; intro gb307 hg w15 hbox hb; have BK307 := zQ (hbox); have GW307 := zgz2 hg HB.out GE297.out; have GE307 := GW307; have NB297_307 := zQ ((by rw [hg]; exact Nat.ne_of_lt (blk_lt (g := gb297) (o := .cells #[.slice A0_0 l0_0.length c0_0, .slice A0_1 l0_1.length c0_1] 27 (0, 0)) (zb BK297.out)) : gb297 ≠ gb307)); have NB307_297 := zQ ((by rw [hg]; exact Nat.ne_of_gt (blk_lt (g := gb297) (o := .cells #[.slice A0_0 l0_0.length c0_0, .slice A0_1 l0_1.length c0_1] 27 (0, 0)) (zb BK297.out)) : gb307 ≠ gb297)); replace HO_12 := zQ (Kd.S_below (zS HO_12.out) hb); replace HL301_0 := zQ (Kd.R_below (zR HL301_0.out) hb); replace HO304 := zQ (Kd.R_below (zR HO304.out) hb); replace BK297 := zbl BK297.out hb; replace HR301_0 := zQ (Kd.C_below (by repeat (first | (with_reducible exact HR301_0.out) | (with_reducible refine Kd.C_alloc ?_ _) | (with_reducible refine Kd.C_drewN ?_ _) | (with_reducible refine Kd.C_drew ?_) | exact HR301_0.out)) hb); replace HB := zbs2 HB.out GE297.out hb; clear hb hbox hg; obtain ⟨Ao16, co16, eo16⟩ := Kd.R_slice HO304.out; subst eo16; have hnb17 := NB307_297.out; have hnc17 := NB297_307.out; have hcz18_0 := zc0 BK307.out; have hcz18_1 := zc1 BK307.out; have hfz18_0 := zfz BK307.out 0; have hfz18_1 := zfz BK307.out 1))
       go_ret
       exact ⟨zE, zB3 HB.out GE297.out GE307.out⟩
      ·replace c12 := Bool.eq_false_iff.mpr c12
       subst c12
       have H1 : (impl_canHold.l0 k1 l1 t298 (t298.length : Int) (wrap64 (x14_1 + 1)) l0_0 l0_1) = some r := by rw [if_neg (show ¬ (false = true) by decide)] at H; exact H
       clear H; have H := H1; clear H1; have H' := zQ H; clear H; have p301 : 0 ≤ (x14_1 : Int) := of_decide_eq_true zA; have q301 : x14_1 < (t298.length : Int) := of_decide_eq_true zA; obtain ⟨ad301, A301_0, c301_0, e301, hx301_0, hl301_0, hi301_0⟩ := at_L10 (Kd.S_reads' HO_12.out).2.2 x14_1 p301 q301
       cases e301
       obtain ⟨ce301, hce301, hMe301, hcc301⟩ := Kd.S_get HO_12.out [] x14_1 p301 (by first | exact q301 | exact of_decide_eq_true zA | (have e_ := (Kd.S_reads' HO_12.out).1; omega)); obtain ⟨ve301_0, rfl, ge301_0⟩ := hMe301; have hv301_0 := hcc301 0 _ rfl; rw [Nat.add_zero, show ((Kd.slice 2 (Kd.int .i64))).sz = 1 from rfl, Nat.mul_one] at hv301_0; replace hv301_0 := Option.some.inj (hv301_0.symm.trans hx301_0); rw [hv301_0] at ge301_0; have HL301_0 := zQ (show Kd.R (Kd.int .i64) 2 _ _ _ _ (rd_L10 t298 x14_1) from ge301_0); clear hv301_0 ge301_0; clear hcc301 hce301; have HR301_0 := zQ hi301_0; have HC301_0 := zQ hl301_0; clear hi301_0 hl301_0; replace p301 := eq_true p301; replace q301 := eq_true q301; have hcz19_0 := zc0 BK297.out; have hcz19_1 := zc1 BK297.out; have hfz19_0 := zfz BK297.out 0; have hfz19_1 := zfz BK297.out 1
       go_wp2_with (first | ((with_reducible refine zgc 70 ?_); refine goesL_ (some 22) rfl rfl Try.func70 (by kernel_rfl) rfl #[.agg #[.slice A0_0 l0_0.length c0_0, .slice A0_1 l0_1.length c0_1], .slice A1 l1.length c1, .slice A301_0 (rd_L10 t298 x14_1).length c301_0] rfl zM ?_; (with_reducible refine (impl_holdsAlone.calls k1 _ _ l0_0 _ _ l0_1 _ _ l1 _ _ (rd_L10 t298 x14_1) t302 t305 false _ (zC HR0_0.out HB.out) HC0_0.out (zC HR0_1.out HB.out) HC0_1.out (zC HR1.out HB.out) HC1.out ?side7 HC301_0.out A11.out).mono ?_); (case side7 => repeat (first | exact (by repeat (first | (with_reducible exact HR301_0.out) | (with_reducible refine Kd.C_alloc ?_ _) | (with_reducible refine Kd.C_drewN ?_ _) | (with_reducible refine Kd.C_drew ?_) | exact HR301_0.out)) | (with_reducible refine Kd.C_alloc ?_ _) | (with_reducible refine Kd.C_drewN ?_ _) | (with_reducible refine Kd.C_drew ?_))); rintro e w20 ⟨v303, rfl, ho0, hb⟩; refine ⟨_, rfl, ?_⟩; have HO304 := zQ (Kd.R_lower (Kd.R_new' ho0 (Kd.R_lt (zR HL301_0.out))) (below_size (zB2 HB.out GE297.out))); replace HO_12 := zQ (Kd.S_elder' (zS HO_12.out) (Kd.R_base ho0) hb); replace HL301_0 := zQ (Kd.R_elder' (zR HL301_0.out) (Kd.R_base ho0) hb); replace BK297 := zbl BK297.out hb; replace HR301_0 := zQ (Kd.C_below (by repeat (first | (with_reducible exact HR301_0.out) | (with_reducible refine Kd.C_alloc ?_ _) | (with_reducible refine Kd.C_drewN ?_ _) | (with_reducible refine Kd.C_drew ?_) | exact HR301_0.out)) hb); replace HB := zbs2 HB.out GE297.out hb; (try clear hb); (try clear ho0)) | ((with_reducible refine zd 9 ?_); refine zbx (N := 9) (cs := #[.slice none 0 0, .int .i64 0]) (t := 35) ?_; intro gb307 hg w21 hbox hb; have BK307 := zQ (hbox); have GW307 := zgz2 hg HB.out GE297.out; have GE307 := GW307; have NB297_307 := zQ ((by rw [hg]; exact Nat.ne_of_lt (blk_lt (g := gb297) (o := .cells #[.slice A0_0 l0_0.length c0_0, .slice A0_1 l0_1.length c0_1] 27 (0, 0)) (zb BK297.out)) : gb297 ≠ gb307)); have NB307_297 := zQ ((by rw [hg]; exact Nat.ne_of_gt (blk_lt (g := gb297) (o := .cells #[.slice A0_0 l0_0.length c0_0, .slice A0_1 l0_1.length c0_1] 27 (0, 0)) (zb BK297.out)) : gb307 ≠ gb297)); replace HO_12 := zQ (Kd.S_below (zS HO_12.out) hb); replace HL301_0 := zQ (Kd.R_below (zR HL301_0.out) hb); replace HO304 := zQ (Kd.R_below (zR HO304.out) hb); replace BK297 := zbl BK297.out hb; replace HR301_0 := zQ (Kd.C_below (by repeat (first | (with_reducible exact HR301_0.out) | (with_reducible refine Kd.C_alloc ?_ _) | (with_reducible refine Kd.C_drewN ?_ _) | (with_reducible refine Kd.C_drew ?_) | exact HR301_0.out)) hb); replace HB := zbs2 HB.out GE297.out hb; clear hb hbox hg; obtain ⟨Ao22, co22, eo22⟩ := Kd.R_slice HO304.out; subst eo22; have hnb23 := NB307_297.out; have hnc23 := NB297_307.out; have hcz24_0 := zc0 BK307.out; have hcz24_1 := zc1 BK307.out; have hfz24_0 := zfz BK307.out 0; have hfz24_1 := zfz BK307.out 1))
       go_roundg k1
       case measure => have := HK1.out; omega
       case rel => exact ⟨(wrap64 (x14_1 + 1)), (zF), H', ⟨by have := HK1.out; omega⟩, ⟨by (with_reducible repeat (first | apply Kd.S_alloc | apply Kd.S_drewN | apply Kd.S_drew)); exact Kd.S_mono (Kd.S_far (p := ⟨gb307, 1, none⟩) (Kd.S_far (p := ⟨gb307, 0, none⟩) (Kd.S_types HO_12.out BK307.out (by decide)) (fun _ hk => hk.2) (.slice Ao22 t302.length co22)) (fun _ hk => hk.2) (.int .i64 t305)) (fun _ hk => trivial)⟩, ⟨by refine zb ?_; refine blk_far ?_ NB297_307.out _; refine zb ?_; refine blk_far ?_ NB297_307.out _; refine zb ?_; exact BK297.out⟩, ⟨zB3 HB.out GE297.out GE307.out⟩⟩
     ·rw [if_neg c10] at H
      exact absurd H (by simp)
    ·rw [if_neg c9] at H
     exact absurd H (by simp)
   ·rw [if_neg c8] at H
    have c8b0 : decide (x14_1 < (t298.length : Int)) = false := decide_eq_false c8; clear c8; obtain rfl := Option.some.inj H
    go_wp2
    go_ret
    exact ⟨zE, zB2 HB.out GE297.out⟩

/-! ### impl_looseWind: function 108 -/
def impl_looseWind.l0 : Nat → List Int → List (List (S113)) → Int → Int → List (S164) → List (S115) → Option (Int)
 | 0, _, _, _, _, _, _ => none
 | k + 1, x2, x9, x10, x11, x309000, x309001 => if x11 < x10 then (if 0 ≤ x11 then (if x11 < (x9.length : Int) then ((impl_canHold.f k x309000 x309001 (rd_L9 x9 x11) x2).bind fun t310 => (if t310 = true then (impl_looseWind.l0 k x2 x9 x10 (wrap64 (x11 + 1)) x309000 x309001) else (some x11))) else (none)) else (none)) else (some (-1))
def impl_looseWind.f (k : Nat) (l0_0 : List (S164)) (l0_1 : List (S115)) (l1 : List (List (S113))) (l2 : List Int) : Option (Int) := impl_looseWind.l0 k l2 l1 (l1.length : Int) 0 l0_0 l0_1
theorem impl_looseWind.mono_l : ∀ k, (∀ y0 y1 y2 y3 y4 y5, LeO (impl_looseWind.l0 k y0 y1 y2 y3 y4 y5) (impl_looseWind.l0 (k + 1) y0 y1 y2 y3 y4 y5))
 | 0 => fun _ _ _ _ _ _ r h => by simp [impl_looseWind.l0] at h
 | k + 1 => by
  have ih0 := impl_looseWind.mono_l k
  ·intro y0 y1 y2 y3 y4 y5
   unfold impl_looseWind.l0
   (with_reducible repeat' first | apply ih0 | apply impl_canHold.mono | apply LeO.refl | apply LeO.none | refine LeO.ite ?_ ?_ | refine LeO.bind ?_ (fun _ => ?_))
   repeat' first | apply ih0 | apply impl_canHold.mono | apply LeO.none | refine LeO.ite ?_ ?_ | refine LeO.bind ?_ (fun _ => ?_)
theorem impl_looseWind.mono : ∀ a0 a1 a2 a3 k, LeO (impl_looseWind.f k a0 a1 a2 a3) (impl_looseWind.f (k + 1) a0 a1 a2 a3) := by
 intro a0 a1 a2 a3 k
 have ih0 := impl_looseWind.mono_l k
 unfold impl_looseWind.f
 (with_reducible repeat' first | apply ih0 | apply impl_canHold.mono | apply LeO.refl | apply LeO.none | refine LeO.ite ?_ ?_ | refine LeO.bind ?_ (fun _ => ?_))
 repeat' first | apply ih0 | apply impl_canHold.mono | apply LeO.none | refine LeO.ite ?_ ?_ | refine LeO.bind ?_ (fun _ => ?_)
set_option maxHeartbeats 8000000 in
set_option maxRecDepth 100000 in
theorem impl_looseWind.calls (k : Nat) (A0_0 : Option Addr) (c0_0 : Nat) (l0_0 : List (S164)) (A0_1 : Option Addr) (c0_1 : Nat) (l0_1 : List (S115)) (A1 : Option Addr) (c1 : Nat) (l1 : List (List (S113))) (A2 : Option Addr) (c2 : Nat) (l2 : List Int) (r : Int) (w : World) (hr0_0 : Kd.C k164 w A0_0 l0_0.length l0_0) (hc0_0 : l0_0.length ≤ c0_0) (hr0_1 : Kd.C k115 w A0_1 l0_1.length l0_1) (hc0_1 : l0_1.length ≤ c0_1) (hr1 : Kd.C (Kd.slice 113 k113) w A1 l1.length l1) (hc1 : l1.length ≤ c1) (hr2 : Kd.C (Kd.int .i64) w A2 l2.length l2) (hc2 : l2.length ≤ c2) (h : impl_looseWind.f k l0_0 l0_1 l1 l2 = some r) :
  Calls Try.prog 108 #[.agg #[.slice A0_0 l0_0.length c0_0, .slice A0_1 l0_1.length c0_1], .slice A1 l1.length c1, .slice A2 l2.length c2] w fun e w' => e = .returned (.int .i64 r) ∧ Below w.heap.size w w' := by
 have hu27 := Try.underlying27
 have HR0_0 := zQ hr0_0
 have HC0_0 := zQ hc0_0
 clear hr0_0 hc0_0
 have HR0_1 := zQ hr0_1
 have HC0_1 := zQ hc0_1
 clear hr0_1 hc0_1
 have HR1 := zQ hr1
 have HC1 := zQ hc1
 clear hr1 hc1
 have HR2 := zQ hr2
 have HC2 := zQ hc2
 clear hr2 hc2
 have HB := zQ (Below.refl w.heap.size w)
 have H : (impl_looseWind.l0 k l2 l1 (l1.length : Int) 0 l0_0 l0_1) = some r := h
 clear h
 have H' := zQ H
 clear H
 go_enter Try.func108, Try.ntmps108
 go_wp2_with (first | ((with_reducible refine zd 3 ?_); refine zbx (N := 3) (cs := #[.slice A0_0 l0_0.length c0_0, .slice A0_1 l0_1.length c0_1]) (t := 27) ?_; intro gb308 hg w4 hbox hb; have BK308 := zQ (hbox); have GW308 := zgz hg HB.out; have GE308 := GW308; replace HB := zbs HB.out hb; clear hb hbox hg))
 go_loopg [11] k (fun kq v11 w' => ∃ (x11_1 : Int), v11 = .int .i64 x11_1 ∧ Aside0 (impl_looseWind.l0 kq l2 l1 (l1.length : Int) x11_1 l0_0 l0_1 = some r) ∧ Aside0 (kq ≤ k) ∧ Aside0 (w'.heap[gb308]? = some (.cells #[(.slice A0_0 l0_0.length c0_0), (.slice A0_1 l0_1.length c0_1)] 27 (0, 0))) ∧ Aside0 (Below w.heap.size w w'))
 case atStart => exact ⟨(0), (zF), H', ⟨Nat.le_refl _⟩, ⟨zb BK308.out⟩, ⟨zB2 HB.out GE308.out⟩⟩
 case round =>
  clear H'; (try clear c1); (try clear c2); (try clear p2); obtain ⟨x11_1, rfl, HA, HK1, BK308, HB⟩ := hrel
  cases gk with
  | zero => exact absurd HA.out (by simp [impl_looseWind.l0])
  | succ k1 =>
   have H := HA.out; clear HA
   simp only [impl_looseWind.l0] at H
   by_cases c5 : x11_1 < (l1.length : Int)
   ·rw [if_pos c5] at H
    have c5b0 : decide (x11_1 < (l1.length : Int)) = true := decide_eq_true c5; clear c5
    by_cases c6 : 0 ≤ x11_1
    ·rw [if_pos c6] at H
     have c6b0 : decide (0 ≤ x11_1) = true := decide_eq_true c6; clear c6
     by_cases c7 : x11_1 < (l1.length : Int)
     ·rw [if_pos c7] at H
      have c7b0 : decide (x11_1 < (l1.length : Int)) = true := decide_eq_true c7; clear c7; replace H := Option.bind_eq_some_iff.mp H; obtain ⟨t310, A80, H⟩ := H; replace H : (if t310 = true then (impl_looseWind.l0 k1 l2 l1 (l1.length : Int) (wrap64 (x11_1 + 1)) l0_0 l0_1) else (some x11_1)) = some r := H; have A8 := zQ A80; clear A80
      by_cases c9 : t310 = true
      ·subst c9
       have H1 : (impl_looseWind.l0 k1 l2 l1 (l1.length : Int) (wrap64 (x11_1 + 1)) l0_0 l0_1) = some r := by rw [if_pos rfl] at H; exact H
       clear H; have H := H1; clear H1; have H' := zQ H; clear H; have p309 : 0 ≤ (x11_1 : Int) := of_decide_eq_true zA; have q309 : x11_1 < (l1.length : Int) := of_decide_eq_true zA; obtain ⟨ad309, A309_0, c309_0, e309, hx309_0, hl309_0, hi309_0⟩ := at_L9 HR1.out x11_1 p309 q309
       cases e309
       replace hx309_0 := zw HB.out hx309_0; have HR309_0 := zQ hi309_0; have HC309_0 := zQ hl309_0; clear hi309_0 hl309_0; replace p309 := eq_true p309; replace q309 := eq_true q309; have hcz10_0 := zc0 BK308.out; have hcz10_1 := zc1 BK308.out; have hfz10_0 := zfz BK308.out 0; have hfz10_1 := zfz BK308.out 1
       go_wp2_with (first | ((with_reducible refine zgc 82 ?_); refine goesL_ (some 19) rfl rfl Try.func82 (by kernel_rfl) rfl #[.agg #[.slice A0_0 l0_0.length c0_0, .slice A0_1 l0_1.length c0_1], .slice A309_0 (rd_L9 l1 x11_1).length c309_0, .slice A2 l2.length c2] rfl zM ?_; (with_reducible refine (impl_canHold.calls k1 _ _ l0_0 _ _ l0_1 _ _ (rd_L9 l1 x11_1) _ _ l2 true _ (zC HR0_0.out HB.out) HC0_0.out (zC HR0_1.out HB.out) HC0_1.out (zC HR309_0.out HB.out) HC309_0.out (zC HR2.out HB.out) HC2.out A8.out).mono ?_); rintro e w11 ⟨rfl, hb⟩; refine ⟨_, rfl, ?_⟩; replace BK308 := zbl BK308.out hb; replace HB := zbs2 HB.out GE308.out hb; (try clear hb)))
       go_roundg k1
       case measure => have := HK1.out; omega
       case rel => exact ⟨(wrap64 (x11_1 + 1)), (zF), H', ⟨by have := HK1.out; omega⟩, ⟨zb BK308.out⟩, ⟨zB2 HB.out GE308.out⟩⟩
      ·replace c9 := Bool.eq_false_iff.mpr c9
       subst c9
       have H1 : (some x11_1) = some r := by rw [if_neg (show ¬ (false = true) by decide)] at H; exact H
       clear H; have H := H1; clear H1; obtain rfl := Option.some.inj H; have p309 : 0 ≤ (x11_1 : Int) := of_decide_eq_true zA; have q309 : x11_1 < (l1.length : Int) := of_decide_eq_true zA; obtain ⟨ad309, A309_0, c309_0, e309, hx309_0, hl309_0, hi309_0⟩ := at_L9 HR1.out x11_1 p309 q309
       cases e309
       replace hx309_0 := zw HB.out hx309_0; have HR309_0 := zQ hi309_0; have HC309_0 := zQ hl309_0; clear hi309_0 hl309_0; replace p309 := eq_true p309; replace q309 := eq_true q309; have hcz12_0 := zc0 BK308.out; have hcz12_1 := zc1 BK308.out; have hfz12_0 := zfz BK308.out 0; have hfz12_1 := zfz BK308.out 1
       go_wp2_with (first | ((with_reducible refine zgc 82 ?_); refine goesL_ (some 19) rfl rfl Try.func82 (by kernel_rfl) rfl #[.agg #[.slice A0_0 l0_0.length c0_0, .slice A0_1 l0_1.length c0_1], .slice A309_0 (rd_L9 l1 x11_1).length c309_0, .slice A2 l2.length c2] rfl zM ?_; (with_reducible refine (impl_canHold.calls k1 _ _ l0_0 _ _ l0_1 _ _ (rd_L9 l1 x11_1) _ _ l2 false _ (zC HR0_0.out HB.out) HC0_0.out (zC HR0_1.out HB.out) HC0_1.out (zC HR309_0.out HB.out) HC309_0.out (zC HR2.out HB.out) HC2.out A8.out).mono ?_); rintro e w13 ⟨rfl, hb⟩; refine ⟨_, rfl, ?_⟩; replace BK308 := zbl BK308.out hb; replace HB := zbs2 HB.out GE308.out hb; (try clear hb)))
       go_ret
       exact ⟨zE, zB2 HB.out GE308.out⟩
     ·rw [if_neg c7] at H
      exact absurd H (by simp)
    ·rw [if_neg c6] at H
     exact absurd H (by simp)
   ·rw [if_neg c5] at H
    have c5b0 : decide (x11_1 < (l1.length : Int)) = false := decide_eq_false c5; clear c5; obtain rfl := Option.some.inj H
    go_wp2
    go_ret
    exact ⟨zE, zB2 HB.out GE308.out⟩

end
end Go.Proofs.Ytimjblgepbhoaaa.PStays
