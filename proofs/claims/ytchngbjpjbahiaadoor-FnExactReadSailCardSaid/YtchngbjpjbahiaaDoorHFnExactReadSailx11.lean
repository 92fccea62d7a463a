/- The walks of the functions that the law reaches: each computes what its Lean function says. No condition beyond each contract's own. -/
import Derived.Test.YtchngbjpjbahiaaDoorHFnExactReadSailx0
import Derived.Test.YtchngbjpjbahiaaDoorHFnExactReadSailx1
import Derived.Test.YtchngbjpjbahiaaDoorHFnExactReadSailx6
import Derived.Test.YtchngbjpjbahiaaDoorHFnExactReadSailx10
namespace Go.Proofs.YtchngbjpjbahiaaDoor.PFnExactReadSail
noncomputable section
open Go.RowKit Go.Proofs.YtchngbjpjbahiaaDoorW.PrintWords Go.Proofs.YtchngbjpjbahiaaDoorW.PrintLast Go.Proofs.YtchngbjpjbahiaaDoorW.PrintMore
attribute [local go_sem] max2_int min2_int max_two min_two max_three min_three max_four min_four   -- for this text's walks alone
set_option linter.unusedVariables false
set_option linter.unusedSimpArgs false

/-! ### laws_heldSpotS: function 13 -/
def laws_heldSpotS.l0 : Nat → List (S35) → Int → Int → Option (Int)
 | 0, _, _, _ => none
 | k + 1, x0, x1, x5 => if x5 < (x0.length : Int) then (if 0 ≤ x5 then (if ((rd_T35 x0 x5).f0) = x1 then (if ((rd_T35 x0 x5).f1) = (wrap64 (x1 + 1)) then (laws_heldSpotS.l0 k x0 (wrap64 ((wrap64 (x1 + 1)) + 1)) (wrap64 (x5 + 1))) else (some (-1))) else (some (-1))) else (none)) else (some x1)
def laws_heldSpotS.f (k : Nat) (l0 : List (S35)) (a1 : Int) : Option (Int) := laws_heldSpotS.l0 k l0 a1 0
theorem laws_heldSpotS.mono_l : ∀ k, (∀ y0 y1 y2, LeO (laws_heldSpotS.l0 k y0 y1 y2) (laws_heldSpotS.l0 (k + 1) y0 y1 y2))
 | 0 => fun _ _ _ r h => by simp [laws_heldSpotS.l0] at h
 | k + 1 => by
  have ih0 := laws_heldSpotS.mono_l k
  ·intro y0 y1 y2
   unfold laws_heldSpotS.l0
   (with_reducible repeat' first | apply ih0 | apply LeO.refl | apply LeO.none | refine LeO.ite ?_ ?_ | refine LeO.bind ?_ (fun _ => ?_))
   repeat' first | apply ih0 | apply LeO.none | refine LeO.ite ?_ ?_ | refine LeO.bind ?_ (fun _ => ?_)
theorem laws_heldSpotS.mono : ∀ a0 a1 k, LeO (laws_heldSpotS.f k a0 a1) (laws_heldSpotS.f (k + 1) a0 a1) := by
 intro a0 a1 k
 have ih0 := laws_heldSpotS.mono_l k
 unfold laws_heldSpotS.f
 (with_reducible repeat' first | apply ih0 | apply LeO.refl | apply LeO.none | refine LeO.ite ?_ ?_ | refine LeO.bind ?_ (fun _ => ?_))
 repeat' first | apply ih0 | apply LeO.none | refine LeO.ite ?_ ?_ | refine LeO.bind ?_ (fun _ => ?_)
set_option maxHeartbeats 8000000 in
set_option maxRecDepth 100000 in
theorem laws_heldSpotS.calls (k : Nat) (A0 : Option Addr) (c0 : Nat) (l0 : List (S35)) (a1 : Int) (r : Int) (w : World) (hr0 : Kd.C k35 w A0 l0.length l0) (hc0 : l0.length ≤ c0) (h : laws_heldSpotS.f k l0 a1 = some r) :
  Calls Tryd.prog 13 #[.slice A0 l0.length c0, .int .i64 a1] w fun e w' => e = .returned (.int .i64 r) ∧ Drawn0 w w' := by
 have HR0 := zQ hr0
 have HC0 := zQ hc0
 clear hr0 hc0
 have H : (laws_heldSpotS.l0 k l0 a1 0) = some r := h
 clear h
 have H' := zQ H
 clear H
 go_enter Tryd.func13, Tryd.ntmps13
 go_wp2
 go_loopg [1, 5] k (fun kq v1 v5 w' => ∃ (x1_1 : Int) (x5_1 : Int), v1 = .int .i64 x1_1 ∧ v5 = .int .i64 x5_1 ∧ Aside0 (laws_heldSpotS.l0 kq l0 x1_1 x5_1 = some r) ∧ Aside0 (kq ≤ k) ∧ Drawn0 w w')
 case atStart => exact ⟨(a1), (0), (zF), (zF), H', ⟨Nat.le_refl _⟩, by repeat (first | exact Drawn0.refl _ | apply Drawn0.step)⟩
 case round =>
  clear H'; (try clear c1); (try clear p2); obtain ⟨x1_1, x5_1, rfl, rfl, HA, HK1, ⟨m1, rfl⟩⟩ := hrel
  cases gk with
  | zero => exact absurd HA.out (by simp [laws_heldSpotS.l0])
  | succ k1 =>
   have H := HA.out; clear HA
   simp only [laws_heldSpotS.l0] at H
   by_cases c3 : x5_1 < (l0.length : Int)
   ·rw [if_pos c3] at H
    have c3b0 : decide (x5_1 < (l0.length : Int)) = true := decide_eq_true c3; clear c3
    by_cases c4 : 0 ≤ x5_1
    ·rw [if_pos c4] at H
     have c4b0 : decide (0 ≤ x5_1) = true := decide_eq_true c4; clear c4
     by_cases c5 : ((rd_T35 l0 x5_1).f0) = x1_1
     ·rw [if_pos c5] at H
      have c5b0 : (((rd_T35 l0 x5_1).f0) == x1_1) = true := beq_iff_eq.mpr c5; have c5b1 : (((rd_T35 l0 x5_1).f0) != x1_1) = false := bne_eq_false_iff_eq.mpr c5; clear c5
      by_cases c6 : ((rd_T35 l0 x5_1).f1) = (wrap64 (x1_1 + 1))
      ·rw [if_pos c6] at H
       have c6b0 : (((rd_T35 l0 x5_1).f1) == (wrap64 (x1_1 + 1))) = true := beq_iff_eq.mpr c6; have c6b1 : (((rd_T35 l0 x5_1).f1) != (wrap64 (x1_1 + 1))) = false := bne_eq_false_iff_eq.mpr c6; clear c6; have H' := zQ H; clear H; have p282 : 0 ≤ (x5_1 : Int) := of_decide_eq_true zA; have q282 : x5_1 < (l0.length : Int) := of_decide_eq_true zA; obtain ⟨ad282, e282, hx282_0, hx282_1⟩ := at_T35 HR0.out x5_1 p282 q282
       cases e282
       replace p282 := eq_true p282; replace q282 := eq_true q282; have p283 : 0 ≤ (x5_1 : Int) := of_decide_eq_true zA; have q283 : x5_1 < (l0.length : Int) := of_decide_eq_true zA; obtain ⟨ad283, e283, hx283_0, hx283_1⟩ := at_T35 HR0.out x5_1 p283 q283; obtain rfl : ad282 = ad283 := (by injection e283); replace p283 := eq_true p283; replace q283 := eq_true q283
       go_wp2
       go_roundg k1
       case measure => have := HK1.out; omega
       case rel => exact ⟨(wrap64 ((wrap64 (x1_1 + 1)) + 1)), (wrap64 (x5_1 + 1)), (zF), (zF), H', ⟨by have := HK1.out; omega⟩, by repeat (first | exact Drawn0.refl _ | apply Drawn0.step)⟩
      ·rw [if_neg c6] at H
       have c6b0 : (((rd_T35 l0 x5_1).f1) == (wrap64 (x1_1 + 1))) = false := beq_eq_false_iff_ne.mpr c6; have c6b1 : (((rd_T35 l0 x5_1).f1) != (wrap64 (x1_1 + 1))) = true := bne_iff_ne.mpr c6; obtain rfl := Option.some.inj H; have p282 : 0 ≤ (x5_1 : Int) := of_decide_eq_true zA; have q282 : x5_1 < (l0.length : Int) := of_decide_eq_true zA; obtain ⟨ad282, e282, hx282_0, hx282_1⟩ := at_T35 HR0.out x5_1 p282 q282
       cases e282
       replace p282 := eq_true p282; replace q282 := eq_true q282; have p283 : 0 ≤ (x5_1 : Int) := of_decide_eq_true zA; have q283 : x5_1 < (l0.length : Int) := of_decide_eq_true zA; obtain ⟨ad283, e283, hx283_0, hx283_1⟩ := at_T35 HR0.out x5_1 p283 q283; obtain rfl : ad282 = ad283 := (by injection e283); replace p283 := eq_true p283; replace q283 := eq_true q283
       go_wp2
       go_ret
       exact ⟨zF, by repeat (first | exact Drawn0.refl _ | apply Drawn0.step)⟩
     ·rw [if_neg c5] at H
      have c5b0 : (((rd_T35 l0 x5_1).f0) == x1_1) = false := beq_eq_false_iff_ne.mpr c5; have c5b1 : (((rd_T35 l0 x5_1).f0) != x1_1) = true := bne_iff_ne.mpr c5; obtain rfl := Option.some.inj H; have p282 : 0 ≤ (x5_1 : Int) := of_decide_eq_true zA; have q282 : x5_1 < (l0.length : Int) := of_decide_eq_true zA; obtain ⟨ad282, e282, hx282_0, hx282_1⟩ := at_T35 HR0.out x5_1 p282 q282
      cases e282
      replace p282 := eq_true p282; replace q282 := eq_true q282
      go_wp2
      go_ret
      exact ⟨zF, by repeat (first | exact Drawn0.refl _ | apply Drawn0.step)⟩
    ·rw [if_neg c4] at H
     exact absurd H (by simp)
   ·rw [if_neg c3] at H
    have c3b0 : decide (x5_1 < (l0.length : Int)) = false := decide_eq_false c3; clear c3; obtain rfl := Option.some.inj H
    go_wp2
    go_ret
    exact ⟨zF, by repeat (first | exact Drawn0.refl _ | apply Drawn0.step)⟩

/-! ### laws_FnExactReadSail: function 4 -/
mutual
def laws_FnExactReadSail.j0 : Nat → ByteArray → List (S35) → Bool → List (S35) → Bool → Option (Bool)
 | 0, _, _, _, _, _ => none
 | k + 1, x0, x3, x4, x5, x32 => if x32 = true then (some false) else ((laws_markSpotS.f k x5 1).bind fun bt293 => ((laws_heldSpotS.f k bt293.2 1).bind fun t295 => (if t295 < 0 then (some false) else (if t295 = bt293.1 then ((impl_ReadSail.f k x0).bind fun bt296 => ((laws_eqSpotS.f k bt296.1 x3).bind fun t300 => (if t300 = true then (laws_FnExactReadSail.j1 k bt293.2 bt293.1 (bt296.2 != x4)) else (laws_FnExactReadSail.j1 k bt293.2 bt293.1 true)))) else (some false)))))
def laws_FnExactReadSail.j1 : Nat → List (S35) → Int → Bool → Option (Bool)
 | 0, _, _, _ => none
 | k + 1, x5, x7, x57 => if x57 = true then (some false) else ((laws_heldSpotS.f k x5 1).bind fun t301 => (if t301 < 0 then (some false) else (if t301 = x7 then (some true) else (some false))))
end
def laws_FnExactReadSail.f (k : Nat) (a0 : ByteArray) : Option (Bool) := if (a0.size : Int) > 1048576 then (some true) else ((spec_ReadSail.f k a0).bind fun bt284 => ((impl_ReadSail.f k a0).bind fun bt288 => ((laws_eqSpotS.f k bt288.1 bt284.1).bind fun t292 => (if t292 = true then (laws_FnExactReadSail.j0 k a0 bt284.1 bt284.2 bt288.1 (bt288.2 != bt284.2)) else (laws_FnExactReadSail.j0 k a0 bt284.1 bt284.2 bt288.1 true)))))
theorem laws_FnExactReadSail.mono_l : ∀ k, (∀ y0 y1 y2 y3 y4, LeO (laws_FnExactReadSail.j0 k y0 y1 y2 y3 y4) (laws_FnExactReadSail.j0 (k + 1) y0 y1 y2 y3 y4)) ∧ (∀ y0 y1 y2, LeO (laws_FnExactReadSail.j1 k y0 y1 y2) (laws_FnExactReadSail.j1 (k + 1) y0 y1 y2))
 | 0 => ⟨fun _ _ _ _ _ r h => by simp [laws_FnExactReadSail.j0] at h, fun _ _ _ r h => by simp [laws_FnExactReadSail.j1] at h⟩
 | k + 1 => by
  obtain ⟨ih0, ih1⟩ := laws_FnExactReadSail.mono_l k
  refine ⟨?_, ?_⟩
  ·intro y0 y1 y2 y3 y4
   unfold laws_FnExactReadSail.j0
   (with_reducible repeat' first | apply ih0 | apply ih1 | apply impl_ReadSail.mono | apply laws_eqSpotS.mono | apply laws_heldSpotS.mono | apply laws_markSpotS.mono | apply spec_ReadSail.mono | apply LeO.refl | apply LeO.none | refine LeO.ite ?_ ?_ | refine LeO.bind ?_ (fun _ => ?_))
   repeat' first | apply ih0 | apply ih1 | apply impl_ReadSail.mono | apply laws_eqSpotS.mono | apply laws_heldSpotS.mono | apply laws_markSpotS.mono | apply spec_ReadSail.mono | apply LeO.none | refine LeO.ite ?_ ?_ | refine LeO.bind ?_ (fun _ => ?_)
  ·intro y0 y1 y2
   unfold laws_FnExactReadSail.j1
   (with_reducible repeat' first | apply ih0 | apply ih1 | apply impl_ReadSail.mono | apply laws_eqSpotS.mono | apply laws_heldSpotS.mono | apply laws_markSpotS.mono | apply spec_ReadSail.mono | apply LeO.refl | apply LeO.none | refine LeO.ite ?_ ?_ | refine LeO.bind ?_ (fun _ => ?_))
   repeat' first | apply ih0 | apply ih1 | apply impl_ReadSail.mono | apply laws_eqSpotS.mono | apply laws_heldSpotS.mono | apply laws_markSpotS.mono | apply spec_ReadSail.mono | apply LeO.none | refine LeO.ite ?_ ?_ | refine LeO.bind ?_ (fun _ => ?_)
theorem laws_FnExactReadSail.mono : ∀ a0 k, LeO (laws_FnExactReadSail.f k a0) (laws_FnExactReadSail.f (k + 1) a0) := by
 intro a0 k
 obtain ⟨ih0, ih1⟩ := laws_FnExactReadSail.mono_l k
 unfold laws_FnExactReadSail.f
 (with_reducible repeat' first | apply ih0 | apply ih1 | apply impl_ReadSail.mono | apply laws_eqSpotS.mono | apply laws_heldSpotS.mono | apply laws_markSpotS.mono | apply spec_ReadSail.mono | apply LeO.refl | apply LeO.none | refine LeO.ite ?_ ?_ | refine LeO.bind ?_ (fun _ => ?_))
 repeat' first | apply ih0 | apply ih1 | apply impl_ReadSail.mono | apply laws_eqSpotS.mono | apply laws_heldSpotS.mono | apply laws_markSpotS.mono | apply spec_ReadSail.mono | apply LeO.none | refine LeO.ite ?_ ?_ | refine LeO.bind ?_ (fun _ => ?_)
theorem laws_FnExactReadSail.j0_cut (k : Nat) (x0_ : ByteArray) (x1_ : List (S35)) (x2_ : Bool) (x3_ : List (S35)) (r : Bool) (h : laws_FnExactReadSail.j0 k x0_ x1_ x2_ x3_ true = some r) (hr : r = true) : False := by
 cases k with
 | zero => simp only [laws_FnExactReadSail.j0] at h; cases h
 | succ k =>
  have h2 : some false = some r := h
  cases h2
  cases hr
theorem laws_FnExactReadSail.j1_cut (k : Nat) (x0_ : List (S35)) (x1_ : Int) (r : Bool) (h : laws_FnExactReadSail.j1 k x0_ x1_ true = some r) (hr : r = true) : False := by
 cases k with
 | zero => simp only [laws_FnExactReadSail.j1] at h; cases h
 | succ k =>
  have h2 : some false = some r := h
  cases h2
  cases hr
set_option maxHeartbeats 8000000 in
set_option maxRecDepth 100000 in
theorem laws_FnExactReadSail.calls (k : Nat) (a0 : ByteArray) (r : Bool) (w : World) (hT : TabW w) (hM : LenW w) (h : laws_FnExactReadSail.f k a0 = some r) (hrt : r = true) :
  Calls Tryd.prog 4 #[.string a0] w fun e w' => e = .returned (.bool r) ∧ Below w.heap.size w w' := by
 have HT := zQ hT
 have HM := zQ hM
 clear hT hM
 have HRT := zQ hrt
 clear hrt
 have HB := zQ (Below.refl w.heap.size w)
 have H : (if (a0.size : Int) > 1048576 then (some true) else ((spec_ReadSail.f k a0).bind fun bt284 => ((impl_ReadSail.f k a0).bind fun bt288 => ((laws_eqSpotS.f k bt288.1 bt284.1).bind fun t292 => (if t292 = true then (laws_FnExactReadSail.j0 k a0 bt284.1 bt284.2 bt288.1 (bt288.2 != bt284.2)) else (laws_FnExactReadSail.j0 k a0 bt284.1 bt284.2 bt288.1 true)))))) = some r := h
 clear h
 by_cases c2 : (a0.size : Int) > 1048576
 ·rw [if_pos c2] at H
  have c2b0 : decide (1048576 < (a0.size : Int)) = true := decide_eq_true c2; have c2b1 : decide (1048576 < a0.size) = true := decide_eq_true (by omega); clear c2; obtain rfl := Option.some.inj H
  go_enter Tryd.func4, Tryd.ntmps4
  go_wp2
  go_ret
  exact ⟨zE, zB HB.out⟩
 ·rw [if_neg c2] at H
  have c2b0 : decide (1048576 < (a0.size : Int)) = false := decide_eq_false c2; have c2b1 : decide (1048576 < a0.size) = false := decide_eq_false (by omega); clear c2; replace H := Option.bind_eq_some_iff.mp H; obtain ⟨⟨t284, t285⟩, A30, H⟩ := H; replace H : ((impl_ReadSail.f k a0).bind fun bt288 => ((laws_eqSpotS.f k bt288.1 t284).bind fun t292 => (if t292 = true then (laws_FnExactReadSail.j0 k a0 t284 t285 bt288.1 (bt288.2 != t285)) else (laws_FnExactReadSail.j0 k a0 t284 t285 bt288.1 true)))) = some r := H; have A3 := zQ A30; clear A30; replace H := Option.bind_eq_some_iff.mp H; obtain ⟨⟨t288, t289⟩, A40, H⟩ := H; replace H : ((laws_eqSpotS.f k t288 t284).bind fun t292 => (if t292 = true then (laws_FnExactReadSail.j0 k a0 t284 t285 t288 (t289 != t285)) else (laws_FnExactReadSail.j0 k a0 t284 t285 t288 true))) = some r := H; have A4 := zQ A40; clear A40; have HC5 := zQ H; clear H
  go_enter Tryd.func4, Tryd.ntmps4
  go_upto_region 5 with (first | ((with_reducible refine zgc 10 ?_); refine goesL_ (some 16) rfl rfl Tryd.func10 (by kernel_rfl) rfl #[.string a0] rfl zM ?_; (with_reducible refine (spec_ReadSail.calls k a0 t284 t285 _ A3.out).mono ?_); rintro e w6 ⟨v286, rfl, ho0, hb⟩; refine ⟨_, rfl, ?_⟩; have HO287 := zQ (Kd.R_lower ho0 (below_size (zB HB.out))); replace HB := zbs HB.out hb; (try clear hb); (try clear ho0)) | ((with_reducible refine zgc 11 ?_); refine goesL_ (some 21) rfl rfl Tryd.func11 (by kernel_rfl) rfl #[.string a0] rfl zM ?_; (with_reducible refine (impl_ReadSail.calls k a0 t288 t289 _ (HT.out.on_ (zB HB.out)) (HM.out.at_ (zB HB.out)) A4.out).mono ?_); rintro e w7 ⟨v290, rfl, ho0, hb⟩; refine ⟨_, rfl, ?_⟩; have HO291 := zQ (Kd.R_lower (Kd.R_new' ho0 (Kd.R_lt (zR HO287.out))) (below_size (zB HB.out))); replace HO287 := zQ (Kd.R_elder' (zR HO287.out) (Kd.R_base ho0) hb); replace HB := zbs HB.out hb; (try clear hb); (try clear ho0)))
  (try simp only [Act.put, List.setIfInBounds_toArray, List.set_cons_zero, List.set_cons_succ])
  go_cut [32] (fun v32 wc => ∃ (kq : Nat) (x32_4 : Bool), v32 = .bool x32_4 ∧ Aside0 (laws_FnExactReadSail.j0 kq a0 t284 t285 t288 x32_4 = some r) ∧ Aside0 (kq ≤ k) ∧ Aside0 (Kd.R k35 35 wc w.heap.size (fun k_ => some k_ ≠ (v290 : Value).ownBlock) v286 t284) ∧ Aside0 (Kd.R k35 35 wc w.heap.size (fun k_ => some k_ ≠ (v286 : Value).ownBlock) v290 t288) ∧ Aside0 (Below w.heap.size w wc))
  case first =>
   have H := HC5.out; clear HC5; replace H := Option.bind_eq_some_iff.mp H; obtain ⟨t292, A80, H⟩ := H; replace H : (if t292 = true then (laws_FnExactReadSail.j0 k a0 t284 t285 t288 (t289 != t285)) else (laws_FnExactReadSail.j0 k a0 t284 t285 t288 true)) = some r := H; have A8 := zQ A80; clear A80
   by_cases c9 : t292 = true
   ·subst c9
    have H1 : (laws_FnExactReadSail.j0 k a0 t284 t285 t288 (t289 != t285)) = some r := by rw [if_pos rfl] at H; exact H
    clear H; have H := H1; clear H1; have H' := zQ H; clear H; obtain ⟨Ao10, co10, eo10⟩ := Kd.R_slice HO291.out; subst eo10; obtain ⟨Ao11, co11, eo11⟩ := Kd.R_slice HO287.out; subst eo11
    go_wp2_with (first | ((with_reducible refine zgc 9 ?_); refine goesL_ (some 26) rfl rfl Tryd.func9 (by kernel_rfl) rfl #[.slice Ao10 t288.length co10, .slice Ao11 t284.length co11] rfl zM ?_; (with_reducible refine (laws_eqSpotS.calls k _ _ t288 _ _ t284 true _ ?side1 ((Kd.R_reads' HO291.out).2.1) ?side3 ((Kd.R_reads' HO287.out).2.1) A8.out).mono ?_); (case side1 => repeat (first | exact (Kd.R_reads' HO291.out).2.2 | (with_reducible refine Kd.C_alloc ?_ _) | (with_reducible refine Kd.C_drewN ?_ _) | (with_reducible refine Kd.C_drew ?_))); (case side3 => repeat (first | exact (Kd.R_reads' HO287.out).2.2 | (with_reducible refine Kd.C_alloc ?_ _) | (with_reducible refine Kd.C_drewN ?_ _) | (with_reducible refine Kd.C_drew ?_))); rintro e w12 ⟨rfl, hb⟩; refine ⟨_, rfl, ?_⟩; replace HO287 := zQ (Kd.R_below (zR HO287.out) hb); replace HO291 := zQ (Kd.R_below (zR HO291.out) hb); replace HB := zbs HB.out hb; (try clear hb)))
    go_meet
    case rel => exact ⟨_, ((t289 != t285)), (zF), H', ⟨by first | omega | exact Nat.le_refl _⟩, ⟨by (with_reducible repeat (first | apply Kd.R_alloc | apply Kd.R_drewN | apply Kd.R_drew)); exact Kd.R_mono HO287.out (fun _ hk => hk.2)⟩, ⟨by (with_reducible repeat (first | apply Kd.R_alloc | apply Kd.R_drewN | apply Kd.R_drew)); exact Kd.R_mono HO291.out (fun _ hk => hk.2)⟩, ⟨zB HB.out⟩⟩
   ·replace c9 := Bool.eq_false_iff.mpr c9
    subst c9
    have H1 : (laws_FnExactReadSail.j0 k a0 t284 t285 t288 true) = some r := by rw [if_neg (show ¬ (false = true) by decide)] at H; exact H
    clear H; have H := H1; clear H1
    exact (laws_FnExactReadSail.j0_cut _ _ _ _ _ _ H HRT.out).elim
  case rest =>
   clear HC5; (try clear c1); (try clear c2); (try clear c2b0); (try clear c2b1); (try clear p2); (try clear c4); (try clear c9); (try clear c10); (try clear c11); obtain ⟨kq, x32_4, rfl, HA, HJ4, HO_3, HO_5, HB⟩ := hcut
   cases kq with
   | zero => exact absurd HA.out (by simp [laws_FnExactReadSail.j0])
   | succ kj4 =>
    have H := HA.out; clear HA
    simp only [laws_FnExactReadSail.j0] at H
    by_cases c16 : x32_4 = true
    ·subst c16
     have H1 : (some false) = some r := by rw [if_pos rfl] at H; exact H
     clear H; have H := H1; clear H1; obtain rfl := Option.some.inj H
     exact absurd HRT.out (by decide)
    ·replace c16 := Bool.eq_false_iff.mpr c16
     subst c16
     have H1 : ((laws_markSpotS.f kj4 t288 1).bind fun bt293 => ((laws_heldSpotS.f kj4 bt293.2 1).bind fun t295 => (if t295 < 0 then (some false) else (if t295 = bt293.1 then ((impl_ReadSail.f kj4 a0).bind fun bt296 => ((laws_eqSpotS.f kj4 bt296.1 t284).bind fun t300 => (if t300 = true then (laws_FnExactReadSail.j1 kj4 bt293.2 bt293.1 (bt296.2 != t285)) else (laws_FnExactReadSail.j1 kj4 bt293.2 bt293.1 true)))) else (some false))))) = some r := by rw [if_neg (show ¬ (false = true) by decide)] at H; exact H
     clear H; have H := H1; clear H1; replace H := Option.bind_eq_some_iff.mp H; obtain ⟨⟨t293, t294⟩, A170, H⟩ := H; replace H : ((laws_heldSpotS.f kj4 t294 1).bind fun t295 => (if t295 < 0 then (some false) else (if t295 = t293 then ((impl_ReadSail.f kj4 a0).bind fun bt296 => ((laws_eqSpotS.f kj4 bt296.1 t284).bind fun t300 => (if t300 = true then (laws_FnExactReadSail.j1 kj4 t294 t293 (bt296.2 != t285)) else (laws_FnExactReadSail.j1 kj4 t294 t293 true)))) else (some false)))) = some r := H; have A17 := zQ A170; clear A170; replace H := Option.bind_eq_some_iff.mp H; obtain ⟨t295, A180, H⟩ := H; replace H : (if t295 < 0 then (some false) else (if t295 = t293 then ((impl_ReadSail.f kj4 a0).bind fun bt296 => ((laws_eqSpotS.f kj4 bt296.1 t284).bind fun t300 => (if t300 = true then (laws_FnExactReadSail.j1 kj4 t294 t293 (bt296.2 != t285)) else (laws_FnExactReadSail.j1 kj4 t294 t293 true)))) else (some false))) = some r := H; have A18 := zQ A180; clear A180
     by_cases c19 : t295 < 0
     ·rw [if_pos c19] at H
      have c19b0 : decide (t295 < 0) = true := decide_eq_true c19; clear c19; obtain rfl := Option.some.inj H
      exact absurd HRT.out (by decide)
     ·rw [if_neg c19] at H
      have c19b0 : decide (t295 < 0) = false := decide_eq_false c19; clear c19
      by_cases c22 : t295 = t293
      ·rw [if_pos c22] at H
       have c22b0 : (t295 == t293) = true := beq_iff_eq.mpr c22; have c22b1 : (t295 != t293) = false := bne_eq_false_iff_eq.mpr c22; clear c22; replace H := Option.bind_eq_some_iff.mp H; obtain ⟨⟨t296, t297⟩, A230, H⟩ := H; replace H : ((laws_eqSpotS.f kj4 t296 t284).bind fun t300 => (if t300 = true then (laws_FnExactReadSail.j1 kj4 t294 t293 (t297 != t285)) else (laws_FnExactReadSail.j1 kj4 t294 t293 true))) = some r := H; have A23 := zQ A230; clear A230; have HC24 := zQ H; clear H; obtain ⟨Ao25, co25, eo25⟩ := Kd.R_slice HO_5.out; subst eo25
       go_upto_region 16 with (first | ((with_reducible refine zgc 12 ?_); refine goesL_ (some 35) rfl rfl Tryd.func12 (by kernel_rfl) rfl #[.slice Ao25 t288.length co25, .int .i64 1] rfl zM ?_; (with_reducible refine (laws_markSpotS.calls kj4 (fun k_ => some k_ = (.slice Ao25 t288.length co25 : Value).ownBlock) (.slice Ao25 t288.length co25) t288 1 t293 t294 w _ ?side1 (Kd.R_tight rfl HO_5.out) A17.out).mono ?_); (case side1 => repeat (first | (with_reducible first | exact HB.out | apply below_alloc | apply pw_below_drewN | apply below_drew1) | exact HB.out)); rintro e w26 ⟨rfl, hy0, hb, hkp⟩; refine ⟨_, rfl, ?_⟩; replace HO_3 := zQ (Kd.R_mono (ok' := fun k_ => some k_ ≠ (.slice Ao25 t288.length co25 : Value).ownBlock) (Kd.R_keptB (HO_3.out) hkp (fun k_ hk_ hs_ => (hk_) hs_)) (fun k_ hk_ => hk_.1)); replace HO_5 := zQ (Kd.R_reok rfl hy0 (fun k_ e_ => HO_5.out.1 k_ e_)); replace HB := zQ (hb); (try clear hb); (try clear hkp); (try clear hy0)) | ((with_reducible refine zgc 13 ?_); refine goesL_ (some 38) rfl rfl Tryd.func13 (by kernel_rfl) rfl #[.slice Ao25 t294.length co25, .int .i64 1] rfl (by (try simp only [List.map_toArray, List.map_cons, List.map_nil]); first | done | (rw [show t294.length = t288.length from (Kd.R_reads' HO_5.out).1.symm] <;> rfl) | rfl | (simp only [List.length_drop, List.length_take]; rfl)) ?_; (with_reducible refine (laws_heldSpotS.calls kj4 _ _ t294 1 t295 _ ?side1 ?side2 A18.out).mono ?_); (case side1 => repeat (first | exact (Kd.R_reads' HO_5.out).2.2 | (with_reducible refine Kd.C_alloc ?_ _) | (with_reducible refine Kd.C_drewN ?_ _) | (with_reducible refine Kd.C_drew ?_))); (case side2 => rw [show t294.length = t288.length from (Kd.R_reads' HO_5.out).1.symm]; exact (Kd.R_reads' HO_5.out).2.1); rintro e w' ⟨rfl, ⟨nd, rfl⟩⟩; refine ⟨_, rfl, ?_⟩) | ((with_reducible refine zgc 11 ?_); refine goesL_ (some 46) rfl rfl Tryd.func11 (by kernel_rfl) rfl #[.string a0] rfl zM ?_; (with_reducible refine (impl_ReadSail.calls kj4 a0 t296 t297 _ (HT.out.on_ (zB HB.out)) (HM.out.at_ (zB HB.out)) A23.out).mono ?_); rintro e w27 ⟨v298, rfl, ho0, hb⟩; refine ⟨_, rfl, ?_⟩; have HO299 := zQ (Kd.R_lower (Kd.R_new' (Kd.R_new' ho0 (Kd.R_lt (zR HO_3.out))) (Kd.R_lt (zR HO_5.out))) (below_size (zB HB.out))); replace HO_3 := zQ (Kd.R_elder' (zR HO_3.out) (Kd.R_base ho0) hb); replace HO_5 := zQ (Kd.R_elder' (zR HO_5.out) (Kd.R_base ho0) hb); replace HB := zbs HB.out hb; (try clear hb); (try clear ho0)))
       (try simp only [Act.put, List.setIfInBounds_toArray, List.set_cons_zero, List.set_cons_succ])
       go_cut [57] (fun v57 wc => ∃ (kq : Nat) (x57_23 : Bool), v57 = .bool x57_23 ∧ Aside0 (laws_FnExactReadSail.j1 kq t294 t293 x57_23 = some r) ∧ Aside0 (kq ≤ kj4) ∧ Aside0 (Kd.R k35 35 wc w.heap.size (fun _ => True) (.slice Ao25 t288.length co25) t294) ∧ Aside0 (Below w.heap.size w wc))
       case first =>
        have H := HC24.out; clear HC24; replace H := Option.bind_eq_some_iff.mp H; obtain ⟨t300, A280, H⟩ := H; replace H : (if t300 = true then (laws_FnExactReadSail.j1 kj4 t294 t293 (t297 != t285)) else (laws_FnExactReadSail.j1 kj4 t294 t293 true)) = some r := H; have A28 := zQ A280; clear A280
        by_cases c29 : t300 = true
        ·subst c29
         have H1 : (laws_FnExactReadSail.j1 kj4 t294 t293 (t297 != t285)) = some r := by rw [if_pos rfl] at H; exact H
         clear H; have H := H1; clear H1; have H' := zQ H; clear H; obtain ⟨Ao30, co30, eo30⟩ := Kd.R_slice HO299.out; subst eo30; obtain ⟨Ao31, co31, eo31⟩ := Kd.R_slice HO_3.out; subst eo31
         go_wp2_with (first | ((with_reducible refine zgc 9 ?_); refine goesL_ (some 51) rfl rfl Tryd.func9 (by kernel_rfl) rfl #[.slice Ao30 t296.length co30, .slice Ao31 t284.length co31] rfl zM ?_; (with_reducible refine (laws_eqSpotS.calls kj4 _ _ t296 _ _ t284 true _ ?side1 ((Kd.R_reads' HO299.out).2.1) ?side3 ((Kd.R_reads' HO_3.out).2.1) A28.out).mono ?_); (case side1 => repeat (first | exact (Kd.R_reads' HO299.out).2.2 | (with_reducible refine Kd.C_alloc ?_ _) | (with_reducible refine Kd.C_drewN ?_ _) | (with_reducible refine Kd.C_drew ?_))); (case side3 => repeat (first | exact (Kd.R_reads' HO_3.out).2.2 | (with_reducible refine Kd.C_alloc ?_ _) | (with_reducible refine Kd.C_drewN ?_ _) | (with_reducible refine Kd.C_drew ?_))); rintro e w32 ⟨rfl, hb⟩; refine ⟨_, rfl, ?_⟩; replace HO_3 := zQ (Kd.R_below (zR HO_3.out) hb); replace HO_5 := zQ (Kd.R_below (zR HO_5.out) hb); replace HO299 := zQ (Kd.R_below (zR HO299.out) hb); replace HB := zbs HB.out hb; (try clear hb)))
         go_meet
         case rel => exact ⟨_, ((t297 != t285)), (zF), H', ⟨by have := HJ4.out; first | omega | exact Nat.le_refl _⟩, ⟨by (with_reducible repeat (first | apply Kd.R_alloc | apply Kd.R_drewN | apply Kd.R_drew)); exact Kd.R_mono HO_5.out (fun _ hk => trivial)⟩, ⟨zB HB.out⟩⟩
        ·replace c29 := Bool.eq_false_iff.mpr c29
         subst c29
         have H1 : (laws_FnExactReadSail.j1 kj4 t294 t293 true) = some r := by rw [if_neg (show ¬ (false = true) by decide)] at H; exact H
         clear H; have H := H1; clear H1
         exact (laws_FnExactReadSail.j1_cut _ _ _ _ H HRT.out).elim
       case rest =>
        clear HC24; (try clear c1); (try clear c2); (try clear c2b0); (try clear c2b1); (try clear p2); (try clear c4); (try clear c9); (try clear c10); (try clear c11); (try clear c12); (try clear c13); (try clear c16); (try clear c19); (try clear c19b0); (try clear c22); (try clear c22b0); (try clear c22b1); (try clear c29); (try clear p2); obtain ⟨kq, x57_23, rfl, HA, HJ23, HO_5, HB⟩ := hcut; have hl5_23 := (Kd.R_reads' HO_5.out).1; rw [hl5_23] at HO_5
        (try simp only [hl5_23])
        cases kq with
        | zero => exact absurd HA.out (by simp [laws_FnExactReadSail.j1])
        | succ kj23 =>
         have H := HA.out; clear HA
         simp only [laws_FnExactReadSail.j1] at H
         by_cases c36 : x57_23 = true
         ·subst c36
          have H1 : (some false) = some r := by rw [if_pos rfl] at H; exact H
          clear H; have H := H1; clear H1; obtain rfl := Option.some.inj H
          exact absurd HRT.out (by decide)
         ·replace c36 := Bool.eq_false_iff.mpr c36
          subst c36
          have H1 : ((laws_heldSpotS.f kj23 t294 1).bind fun t301 => (if t301 < 0 then (some false) else (if t301 = t293 then (some true) else (some false)))) = some r := by rw [if_neg (show ¬ (false = true) by decide)] at H; exact H
          clear H; have H := H1; clear H1; replace H := Option.bind_eq_some_iff.mp H; obtain ⟨t301, A370, H⟩ := H; replace H : (if t301 < 0 then (some false) else (if t301 = t293 then (some true) else (some false))) = some r := H; have A37 := zQ A370; clear A370
          by_cases c38 : t301 < 0
          ·rw [if_pos c38] at H
           have c38b0 : decide (t301 < 0) = true := decide_eq_true c38; clear c38; obtain rfl := Option.some.inj H
           exact absurd HRT.out (by decide)
          ·rw [if_neg c38] at H
           have c38b0 : decide (t301 < 0) = false := decide_eq_false c38; clear c38
           by_cases c39 : t301 = t293
           ·rw [if_pos c39] at H
            have c39b0 : (t301 == t293) = true := beq_iff_eq.mpr c39; have c39b1 : (t301 != t293) = false := bne_eq_false_iff_eq.mpr c39; clear c39; obtain rfl := Option.some.inj H
            go_wp2_with (first | ((with_reducible refine zgc 13 ?_); refine goesL_ (some 60) rfl rfl Tryd.func13 (by kernel_rfl) rfl #[.slice Ao25 t294.length co25, .int .i64 1] rfl zM ?_; (with_reducible refine (laws_heldSpotS.calls kj23 _ _ t294 1 t301 _ ?side1 ((Kd.R_reads' HO_5.out).2.1) A37.out).mono ?_); (case side1 => repeat (first | exact (Kd.R_reads' HO_5.out).2.2 | (with_reducible refine Kd.C_alloc ?_ _) | (with_reducible refine Kd.C_drewN ?_ _) | (with_reducible refine Kd.C_drew ?_))); rintro e w' ⟨rfl, ⟨nd, rfl⟩⟩; refine ⟨_, rfl, ?_⟩))
            go_ret
            exact ⟨zE, zB HB.out⟩
           ·rw [if_neg c39] at H
            have c39b0 : (t301 == t293) = false := beq_eq_false_iff_ne.mpr c39; have c39b1 : (t301 != t293) = true := bne_iff_ne.mpr c39; obtain rfl := Option.some.inj H
            exact absurd HRT.out (by decide)
      ·rw [if_neg c22] at H
       have c22b0 : (t295 == t293) = false := beq_eq_false_iff_ne.mpr c22; have c22b1 : (t295 != t293) = true := bne_iff_ne.mpr c22; obtain rfl := Option.some.inj H
       exact absurd HRT.out (by decide)
/-- THE ONE PURE STATEMENT of laws_FnExactReadSail: yours. -/
def laws_FnExactReadSail.Pure : Prop := ∀ (a0 : ByteArray), a0.size ≤ 140737488351232 → ∃ k, laws_FnExactReadSail.f k a0 = some true
end
end Go.Proofs.YtchngbjpjbahiaaDoor.PFnExactReadSail
