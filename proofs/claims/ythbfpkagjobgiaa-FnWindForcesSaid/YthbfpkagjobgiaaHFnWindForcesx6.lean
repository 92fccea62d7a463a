/- The walks of the functions that the law reaches: each computes what its Lean function says. No condition beyond each contract's own. -/
import Derived.Test.YthbfpkagjobgiaaHFnWindForcesx0
import Derived.Test.YthbfpkagjobgiaaHFnWindForcesx1
import Derived.Test.YthbfpkagjobgiaaHFnWindForcesx2
import Derived.Test.YthbfpkagjobgiaaHFnWindForcesx3
import Derived.Test.YthbfpkagjobgiaaHFnWindForcesx4
import Derived.Test.YthbfpkagjobgiaaHFnWindForcesx5
namespace Go.Proofs.Ythbfpkagjobgiaa.PFnWindForces
open Go.RowKit Go.Proofs.YthbfpkagjobgiaaW.PrintWords Go.Proofs.YthbfpkagjobgiaaW.PrintLast Go.Proofs.YthbfpkagjobgiaaW.PrintMore
attribute [local go_sem] max2_int min2_int max_two min_two max_three min_three max_four min_four   -- for this text's walks alone
set_option linter.unusedVariables false
set_option linter.unusedSimpArgs false

/-! ### laws_FnWindForces: function 6 -/
mutual
def laws_FnWindForces.j0 : Nat → List (S27) → List Int → Int → Int → Int → Bool → Option (Bool)
  | 0, _, _, _, _, _, _ => none
  | k + 1, x5, x6, x7, x8, x10, x57 => if x57 = true then (some false) else (laws_FnWindForces.l0 k x5 x6 x7 x8 x10 0 0 0)
def laws_FnWindForces.l0 : Nat → List (S27) → List Int → Int → Int → Int → Int → Int → Int → Option (Bool)
  | 0, _, _, _, _, _, _, _, _ => none
  | k + 1, x5, x6, x7, x8, x10, x12, x13, x14 => if x14 < (x6.length : Int) then (if 0 ≤ x14 then (if 0 ≤ (rd x6 x14) then (if (rd x6 x14) < (x5.length : Int) then ((impl_WindForce.f k ((rd_T27 x5 (rd x6 x14)).f0) ((rd_T27 x5 (rd x6 x14)).f1) ((rd_T27 x5 (rd x6 x14)).f2) ((rd_T27 x5 (rd x6 x14)).f3) ((rd_T27 x5 (rd x6 x14)).f4) x7).bind fun bt259 => ((impl_WindForce.f k ((rd_T27 x5 (rd x6 x14)).f0) ((rd_T27 x5 (rd x6 x14)).f1) ((rd_T27 x5 (rd x6 x14)).f2) ((rd_T27 x5 (rd x6 x14)).f3) ((rd_T27 x5 (rd x6 x14)).f4) (wrap64 (x7 + 1))).bind fun bt261 => (if bt259.2 = 0 then (if bt261.2 = 0 then (if bt261.1 < bt259.1 then (some false) else (if (wrap64 (160000 * bt259.1)) > (wrap64 ((wrap64 ((wrap64 ((wrap64 (((rd_T27 x5 (rd x6 x14)).f1) * ((rd_T27 x5 (rd x6 x14)).f3))) * x7)) * x7)) + 80000)) then (some false) else (if (wrap64 (160000 * bt259.1)) ≤ (wrap64 ((wrap64 ((wrap64 ((wrap64 (((rd_T27 x5 (rd x6 x14)).f1) * ((rd_T27 x5 (rd x6 x14)).f3))) * x7)) * x7)) - 80000)) then (some false) else (laws_FnWindForces.l0 k x5 x6 x7 x8 x10 (wrap64 (x12 + bt259.1)) (wrap64 (x13 + (wrap64 (bt259.1 * ((rd_T27 x5 (rd x6 x14)).f2))))) (wrap64 (x14 + 1)))))) else (some false)) else (some false)))) else (none)) else (none)) else (none)) else ((impl_BeaufortOf.f k x7).bind fun bt263 => ((impl_BeaufortOf.f k (wrap64 (x7 + 1))).bind fun bt265 => (if x12 = x8 then (if x13 = x10 then (if bt263.2 = 0 then (if bt265.2 = 0 then (if bt263.1 < 0 then (laws_FnWindForces.j2 k x5 x6 x10 true) else (if bt263.1 > 12 then (laws_FnWindForces.j2 k x5 x6 x10 true) else (if bt265.1 < bt263.1 then (laws_FnWindForces.j2 k x5 x6 x10 true) else (laws_FnWindForces.j2 k x5 x6 x10 (decide (bt265.1 > (wrap64 (bt263.1 + 1)))))))) else (laws_FnWindForces.j2 k x5 x6 x10 true)) else (laws_FnWindForces.j2 k x5 x6 x10 true)) else (laws_FnWindForces.j2 k x5 x6 x10 true)) else (laws_FnWindForces.j2 k x5 x6 x10 true))))
def laws_FnWindForces.j2 : Nat → List (S27) → List Int → Int → Bool → Option (Bool)
  | 0, _, _, _, _ => none
  | k + 1, x5, x6, x10, x172 => if x172 = true then (some false) else ((impl_MostWind.f k x5 x6 x10).bind fun bt267 => (if bt267.2 = 0 then (if bt267.1 < 0 then (some false) else (if bt267.1 > 600 then (some false) else ((laws_a2Stands.f k x5 x6 bt267.1 x10).bind fun t269 => (if t269 = true then (if bt267.1 = 600 then (some true) else ((laws_a2Stands.f k x5 x6 (wrap64 (bt267.1 + 1)) x10).bind fun t270 => (some (!t270)))) else (some false))))) else (some false)))
end
def laws_FnWindForces.f (k : Nat) (l0 : List Int) (l1 : List Int) : Option (Bool) := (laws_a2Long.f l0 l1).bind fun t244 => (if t244 = true then (some true) else ((spec_A2Canvas.f k l0).bind fun t245 => ((spec_A2Some.f k l1 (t245.length : Int)).bind fun t248 => ((laws_a2At.f l1 0 250).bind fun t251 => ((impl_TotalForce.f k t245 t248 t251).bind fun bt252 => ((impl_HeelingMoment.f k t245 t248 t251).bind fun bt254 => (if bt252.2 = 0 then (laws_FnWindForces.j0 k t245 t248 t251 bt252.1 bt254.1 (bt254.2 != 0)) else (laws_FnWindForces.j0 k t245 t248 t251 bt252.1 bt254.1 true))))))))
theorem laws_FnWindForces.mono_l : ∀ k, (∀ y0 y1 y2 y3 y4 y5, LeO (laws_FnWindForces.j0 k y0 y1 y2 y3 y4 y5) (laws_FnWindForces.j0 (k + 1) y0 y1 y2 y3 y4 y5)) ∧ (∀ y0 y1 y2 y3 y4 y5 y6 y7, LeO (laws_FnWindForces.l0 k y0 y1 y2 y3 y4 y5 y6 y7) (laws_FnWindForces.l0 (k + 1) y0 y1 y2 y3 y4 y5 y6 y7)) ∧ (∀ y0 y1 y2 y3, LeO (laws_FnWindForces.j2 k y0 y1 y2 y3) (laws_FnWindForces.j2 (k + 1) y0 y1 y2 y3))
  | 0 => ⟨fun _ _ _ _ _ _ r h => by simp [laws_FnWindForces.j0] at h, fun _ _ _ _ _ _ _ _ r h => by simp [laws_FnWindForces.l0] at h, fun _ _ _ _ r h => by simp [laws_FnWindForces.j2] at h⟩
  | k + 1 => by
    obtain ⟨ih0, ih1, ih2⟩ := laws_FnWindForces.mono_l k
    refine ⟨?_, ?_, ?_⟩
    · intro y0 y1 y2 y3 y4 y5
      unfold laws_FnWindForces.j0
      repeat' first
      | (with_reducible exact ih0 _ _ _ _ _ _)
      | (with_reducible exact ih1 _ _ _ _ _ _ _ _)
      | (with_reducible exact ih2 _ _ _ _)
      | (with_reducible exact impl_BeaufortOf.mono _ _)
      | (with_reducible exact impl_HeelingMoment.mono _ _ _ _)
      | (with_reducible exact impl_MostWind.mono _ _ _ _)
      | (with_reducible exact impl_TotalForce.mono _ _ _ _)
      | (with_reducible exact impl_WindForce.mono _ _ _ _ _ _ _)
      | (with_reducible exact laws_a2Stands.mono _ _ _ _ _)
      | (with_reducible exact spec_A2Canvas.mono _ _)
      | (with_reducible exact spec_A2Some.mono _ _ _)
      | (with_reducible exact LeO.refl _)
      | (with_reducible exact LeO.none _)
      | (with_reducible refine LeO.ite ?_ ?_)
      | (with_reducible refine LeO.bind ?_ (fun _ => ?_))
      | exact ih0 _ _ _ _ _ _
      | exact ih1 _ _ _ _ _ _ _ _
      | exact ih2 _ _ _ _
      | exact impl_BeaufortOf.mono _ _
      | exact impl_HeelingMoment.mono _ _ _ _
      | exact impl_MostWind.mono _ _ _ _
      | exact impl_TotalForce.mono _ _ _ _
      | exact impl_WindForce.mono _ _ _ _ _ _ _
      | exact laws_a2Stands.mono _ _ _ _ _
      | exact spec_A2Canvas.mono _ _
      | exact spec_A2Some.mono _ _ _
      | exact LeO.none _
      | refine LeO.ite ?_ ?_
      | refine LeO.bind ?_ (fun _ => ?_)
    · intro y0 y1 y2 y3 y4 y5 y6 y7
      unfold laws_FnWindForces.l0
      repeat' first
      | (with_reducible exact ih0 _ _ _ _ _ _)
      | (with_reducible exact ih1 _ _ _ _ _ _ _ _)
      | (with_reducible exact ih2 _ _ _ _)
      | (with_reducible exact impl_BeaufortOf.mono _ _)
      | (with_reducible exact impl_HeelingMoment.mono _ _ _ _)
      | (with_reducible exact impl_MostWind.mono _ _ _ _)
      | (with_reducible exact impl_TotalForce.mono _ _ _ _)
      | (with_reducible exact impl_WindForce.mono _ _ _ _ _ _ _)
      | (with_reducible exact laws_a2Stands.mono _ _ _ _ _)
      | (with_reducible exact spec_A2Canvas.mono _ _)
      | (with_reducible exact spec_A2Some.mono _ _ _)
      | (with_reducible exact LeO.refl _)
      | (with_reducible exact LeO.none _)
      | (with_reducible refine LeO.ite ?_ ?_)
      | (with_reducible refine LeO.bind ?_ (fun _ => ?_))
      | exact ih0 _ _ _ _ _ _
      | exact ih1 _ _ _ _ _ _ _ _
      | exact ih2 _ _ _ _
      | exact impl_BeaufortOf.mono _ _
      | exact impl_HeelingMoment.mono _ _ _ _
      | exact impl_MostWind.mono _ _ _ _
      | exact impl_TotalForce.mono _ _ _ _
      | exact impl_WindForce.mono _ _ _ _ _ _ _
      | exact laws_a2Stands.mono _ _ _ _ _
      | exact spec_A2Canvas.mono _ _
      | exact spec_A2Some.mono _ _ _
      | exact LeO.none _
      | refine LeO.ite ?_ ?_
      | refine LeO.bind ?_ (fun _ => ?_)
    · intro y0 y1 y2 y3
      unfold laws_FnWindForces.j2
      repeat' first
      | (with_reducible exact ih0 _ _ _ _ _ _)
      | (with_reducible exact ih1 _ _ _ _ _ _ _ _)
      | (with_reducible exact ih2 _ _ _ _)
      | (with_reducible exact impl_BeaufortOf.mono _ _)
      | (with_reducible exact impl_HeelingMoment.mono _ _ _ _)
      | (with_reducible exact impl_MostWind.mono _ _ _ _)
      | (with_reducible exact impl_TotalForce.mono _ _ _ _)
      | (with_reducible exact impl_WindForce.mono _ _ _ _ _ _ _)
      | (with_reducible exact laws_a2Stands.mono _ _ _ _ _)
      | (with_reducible exact spec_A2Canvas.mono _ _)
      | (with_reducible exact spec_A2Some.mono _ _ _)
      | (with_reducible exact LeO.refl _)
      | (with_reducible exact LeO.none _)
      | (with_reducible refine LeO.ite ?_ ?_)
      | (with_reducible refine LeO.bind ?_ (fun _ => ?_))
      | exact ih0 _ _ _ _ _ _
      | exact ih1 _ _ _ _ _ _ _ _
      | exact ih2 _ _ _ _
      | exact impl_BeaufortOf.mono _ _
      | exact impl_HeelingMoment.mono _ _ _ _
      | exact impl_MostWind.mono _ _ _ _
      | exact impl_TotalForce.mono _ _ _ _
      | exact impl_WindForce.mono _ _ _ _ _ _ _
      | exact laws_a2Stands.mono _ _ _ _ _
      | exact spec_A2Canvas.mono _ _
      | exact spec_A2Some.mono _ _ _
      | exact LeO.none _
      | refine LeO.ite ?_ ?_
      | refine LeO.bind ?_ (fun _ => ?_)
theorem laws_FnWindForces.mono : ∀ a0 a1 k, LeO (laws_FnWindForces.f k a0 a1) (laws_FnWindForces.f (k + 1) a0 a1) := by
  intro a0 a1 k
  obtain ⟨ih0, ih1, ih2⟩ := laws_FnWindForces.mono_l k
  unfold laws_FnWindForces.f
  repeat' first
      | (with_reducible exact ih0 _ _ _ _ _ _)
      | (with_reducible exact ih1 _ _ _ _ _ _ _ _)
      | (with_reducible exact ih2 _ _ _ _)
      | (with_reducible exact impl_BeaufortOf.mono _ _)
      | (with_reducible exact impl_HeelingMoment.mono _ _ _ _)
      | (with_reducible exact impl_MostWind.mono _ _ _ _)
      | (with_reducible exact impl_TotalForce.mono _ _ _ _)
      | (with_reducible exact impl_WindForce.mono _ _ _ _ _ _ _)
      | (with_reducible exact laws_a2Stands.mono _ _ _ _ _)
      | (with_reducible exact spec_A2Canvas.mono _ _)
      | (with_reducible exact spec_A2Some.mono _ _ _)
      | (with_reducible exact LeO.refl _)
      | (with_reducible exact LeO.none _)
      | (with_reducible refine LeO.ite ?_ ?_)
      | (with_reducible refine LeO.bind ?_ (fun _ => ?_))
      | exact ih0 _ _ _ _ _ _
      | exact ih1 _ _ _ _ _ _ _ _
      | exact ih2 _ _ _ _
      | exact impl_BeaufortOf.mono _ _
      | exact impl_HeelingMoment.mono _ _ _ _
      | exact impl_MostWind.mono _ _ _ _
      | exact impl_TotalForce.mono _ _ _ _
      | exact impl_WindForce.mono _ _ _ _ _ _ _
      | exact laws_a2Stands.mono _ _ _ _ _
      | exact spec_A2Canvas.mono _ _
      | exact spec_A2Some.mono _ _ _
      | exact LeO.none _
      | refine LeO.ite ?_ ?_
      | refine LeO.bind ?_ (fun _ => ?_)
theorem laws_FnWindForces.j0_cut (k : Nat) (x0_ : List (S27)) (x1_ : List Int) (x2_ : Int) (x3_ : Int) (x4_ : Int) (r : Bool) (h : laws_FnWindForces.j0 k x0_ x1_ x2_ x3_ x4_ true = some r) (hr : r = true) : False := by
  cases k with
  | zero => simp only [laws_FnWindForces.j0] at h; cases h
  | succ k =>
    have h2 : some false = some r := h
    cases h2
    cases hr
theorem laws_FnWindForces.j2_cut (k : Nat) (x0_ : List (S27)) (x1_ : List Int) (x2_ : Int) (r : Bool) (h : laws_FnWindForces.j2 k x0_ x1_ x2_ true = some r) (hr : r = true) : False := by
  cases k with
  | zero => simp only [laws_FnWindForces.j2] at h; cases h
  | succ k =>
    have h2 : some false = some r := h
    cases h2
    cases hr
set_option maxHeartbeats 8000000 in
set_option maxRecDepth 100000 in
theorem laws_FnWindForces.calls (k : Nat) (A0 : Option Addr) (c0 : Nat) (l0 : List Int) (A1 : Option Addr) (c1 : Nat) (l1 : List Int) (r : Bool) (w : World) (hr0 : Kd.C (Kd.int .u8) w A0 l0.length l0) (hc0 : l0.length ≤ c0) (hr1 : Kd.C (Kd.int .u8) w A1 l1.length l1) (hc1 : l1.length ≤ c1) (h : laws_FnWindForces.f k l0 l1 = some r) (hrt : r = true) :
    Calls Try.prog 6 #[.slice A0 l0.length c0, .slice A1 l1.length c1] w fun e w' => e = .returned (.bool r) ∧ Below w.heap.size w w' := by
  have HRT := Aside0.mk hrt
  clear hrt
  have hu27 := Try.underlying27
  have HR0 := Aside0.mk hr0
  have HC0 := Aside0.mk hc0
  clear hr0 hc0
  have HR1 := Aside0.mk hr1
  have HC1 := Aside0.mk hc1
  clear hr1 hc1
  have HB := Aside0.mk (Below.refl w.heap.size w)
  have H : ((laws_a2Long.f l0 l1).bind fun t244 => (if t244 = true then (some true) else ((spec_A2Canvas.f k l0).bind fun t245 => ((spec_A2Some.f k l1 (t245.length : Int)).bind fun t248 => ((laws_a2At.f l1 0 250).bind fun t251 => ((impl_TotalForce.f k t245 t248 t251).bind fun bt252 => ((impl_HeelingMoment.f k t245 t248 t251).bind fun bt254 => (if bt252.2 = 0 then (laws_FnWindForces.j0 k t245 t248 t251 bt252.1 bt254.1 (bt254.2 != 0)) else (laws_FnWindForces.j0 k t245 t248 t251 bt252.1 bt254.1 true))))))))) = some r := h
  clear h
  replace H := Option.bind_eq_some_iff.mp H
  obtain ⟨t244, A30, H⟩ := H
  replace H : (if t244 = true then (some true) else ((spec_A2Canvas.f k l0).bind fun t245 => ((spec_A2Some.f k l1 (t245.length : Int)).bind fun t248 => ((laws_a2At.f l1 0 250).bind fun t251 => ((impl_TotalForce.f k t245 t248 t251).bind fun bt252 => ((impl_HeelingMoment.f k t245 t248 t251).bind fun bt254 => (if bt252.2 = 0 then (laws_FnWindForces.j0 k t245 t248 t251 bt252.1 bt254.1 (bt254.2 != 0)) else (laws_FnWindForces.j0 k t245 t248 t251 bt252.1 bt254.1 true)))))))) = some r := H
  have A3 := Aside0.mk A30
  clear A30
  by_cases c4 : t244 = true
  · subst c4
    have H1 : (some true) = some r := by rw [if_pos rfl] at H; exact H
    clear H
    have H := H1
    clear H1
    obtain rfl := Option.some.inj H
    go_enter Try.func6, Try.ntmps6
    go_wp2_with (first | ((with_reducible refine gate_callee (f := 26) rfl ?_); refine goesL_ (some 29) rfl rfl Try.func26 (by kernel_rfl) rfl #[.slice A0 l0.length c0, .slice A1 l1.length c1] rfl (by (try simp only [List.map_toArray, List.map_cons, List.map_nil]); first | done | rfl | (simp only [List.length_drop, List.length_take]; rfl)) ?_; (with_reducible refine (laws_a2Long.calls _ _ l0 _ _ l1 true _ ?side1 ?side2 ?side3 ?side4 A3.out).mono ?_); (case side1 => repeat (first | exact HR0.out | (with_reducible refine Kd.C_alloc ?_ _) | (with_reducible refine Kd.C_drewN ?_ _) | (with_reducible refine Kd.C_drew ?_))); (case side2 => exact HC0.out); (case side3 => repeat (first | exact HR1.out | (with_reducible refine Kd.C_alloc ?_ _) | (with_reducible refine Kd.C_drewN ?_ _) | (with_reducible refine Kd.C_drew ?_))); (case side4 => exact HC1.out); rintro e w' ⟨rfl, ⟨nd, rfl⟩⟩; refine ⟨_, rfl, ?_⟩))
    go_ret
    exact ⟨by first | rfl | (simp [errW_none, errW_some] <;> rfl) | (simp [*, errW_none, errW_some] <;> rfl), by repeat (first | (with_reducible first | exact HB.out | apply below_alloc | apply pw_below_drewN | apply below_drew1) | exact HB.out)⟩
  · replace c4 := Bool.eq_false_iff.mpr c4
    subst c4
    have H1 : ((spec_A2Canvas.f k l0).bind fun t245 => ((spec_A2Some.f k l1 (t245.length : Int)).bind fun t248 => ((laws_a2At.f l1 0 250).bind fun t251 => ((impl_TotalForce.f k t245 t248 t251).bind fun bt252 => ((impl_HeelingMoment.f k t245 t248 t251).bind fun bt254 => (if bt252.2 = 0 then (laws_FnWindForces.j0 k t245 t248 t251 bt252.1 bt254.1 (bt254.2 != 0)) else (laws_FnWindForces.j0 k t245 t248 t251 bt252.1 bt254.1 true))))))) = some r := by rw [if_neg (show ¬ (false = true) by decide)] at H; exact H
    clear H
    have H := H1
    clear H1
    replace H := Option.bind_eq_some_iff.mp H
    obtain ⟨t245, A50, H⟩ := H
    replace H : ((spec_A2Some.f k l1 (t245.length : Int)).bind fun t248 => ((laws_a2At.f l1 0 250).bind fun t251 => ((impl_TotalForce.f k t245 t248 t251).bind fun bt252 => ((impl_HeelingMoment.f k t245 t248 t251).bind fun bt254 => (if bt252.2 = 0 then (laws_FnWindForces.j0 k t245 t248 t251 bt252.1 bt254.1 (bt254.2 != 0)) else (laws_FnWindForces.j0 k t245 t248 t251 bt252.1 bt254.1 true)))))) = some r := H
    have A5 := Aside0.mk A50
    clear A50
    replace H := Option.bind_eq_some_iff.mp H
    obtain ⟨t248, A60, H⟩ := H
    replace H : ((laws_a2At.f l1 0 250).bind fun t251 => ((impl_TotalForce.f k t245 t248 t251).bind fun bt252 => ((impl_HeelingMoment.f k t245 t248 t251).bind fun bt254 => (if bt252.2 = 0 then (laws_FnWindForces.j0 k t245 t248 t251 bt252.1 bt254.1 (bt254.2 != 0)) else (laws_FnWindForces.j0 k t245 t248 t251 bt252.1 bt254.1 true))))) = some r := H
    have A6 := Aside0.mk A60
    clear A60
    replace H := Option.bind_eq_some_iff.mp H
    obtain ⟨t251, A70, H⟩ := H
    replace H : ((impl_TotalForce.f k t245 t248 t251).bind fun bt252 => ((impl_HeelingMoment.f k t245 t248 t251).bind fun bt254 => (if bt252.2 = 0 then (laws_FnWindForces.j0 k t245 t248 t251 bt252.1 bt254.1 (bt254.2 != 0)) else (laws_FnWindForces.j0 k t245 t248 t251 bt252.1 bt254.1 true)))) = some r := H
    have A7 := Aside0.mk A70
    clear A70
    replace H := Option.bind_eq_some_iff.mp H
    obtain ⟨⟨t252, t253⟩, A80, H⟩ := H
    replace H : ((impl_HeelingMoment.f k t245 t248 t251).bind fun bt254 => (if t253 = 0 then (laws_FnWindForces.j0 k t245 t248 t251 t252 bt254.1 (bt254.2 != 0)) else (laws_FnWindForces.j0 k t245 t248 t251 t252 bt254.1 true))) = some r := H
    have A8 := Aside0.mk A80
    clear A80
    replace H := Option.bind_eq_some_iff.mp H
    obtain ⟨⟨t254, t255⟩, A90, H⟩ := H
    replace H : (if t253 = 0 then (laws_FnWindForces.j0 k t245 t248 t251 t252 t254 (t255 != 0)) else (laws_FnWindForces.j0 k t245 t248 t251 t252 t254 true)) = some r := H
    have A9 := Aside0.mk A90
    clear A90
    have HC10 := Aside0.mk H
    clear H
    go_enter Try.func6, Try.ntmps6
    go_upto_region 8 with (first | ((with_reducible refine gate_callee (f := 26) rfl ?_); refine goesL_ (some 29) rfl rfl Try.func26 (by kernel_rfl) rfl #[.slice A0 l0.length c0, .slice A1 l1.length c1] rfl (by (try simp only [List.map_toArray, List.map_cons, List.map_nil]); first | done | rfl | (simp only [List.length_drop, List.length_take]; rfl)) ?_; (with_reducible refine (laws_a2Long.calls _ _ l0 _ _ l1 false _ ?side1 ?side2 ?side3 ?side4 A3.out).mono ?_); (case side1 => repeat (first | exact HR0.out | (with_reducible refine Kd.C_alloc ?_ _) | (with_reducible refine Kd.C_drewN ?_ _) | (with_reducible refine Kd.C_drew ?_))); (case side2 => exact HC0.out); (case side3 => repeat (first | exact HR1.out | (with_reducible refine Kd.C_alloc ?_ _) | (with_reducible refine Kd.C_drewN ?_ _) | (with_reducible refine Kd.C_drew ?_))); (case side4 => exact HC1.out); rintro e w' ⟨rfl, ⟨nd, rfl⟩⟩; refine ⟨_, rfl, ?_⟩) | ((with_reducible refine gate_callee (f := 27) rfl ?_); refine goesL_ (some 31) rfl rfl Try.func27 (by kernel_rfl) rfl #[.slice A0 l0.length c0] rfl (by (try simp only [List.map_toArray, List.map_cons, List.map_nil]); first | done | rfl | (simp only [List.length_drop, List.length_take]; rfl)) ?_; (with_reducible refine (spec_A2Canvas.calls k _ _ l0 t245 _ ?side1 ?side2 A5.out).mono ?_); (case side1 => repeat (first | exact HR0.out | (with_reducible refine Kd.C_alloc ?_ _) | (with_reducible refine Kd.C_drewN ?_ _) | (with_reducible refine Kd.C_drew ?_))); (case side2 => exact HC0.out); rintro e w11 ⟨v246, rfl, ho0, hb⟩; refine ⟨_, rfl, ?_⟩; have n0_ := Aside0.mk (Kd.R_lower ho0 (below_size (by repeat (first | (with_reducible first | exact HB.out | apply below_alloc | apply pw_below_drewN | apply below_drew1) | exact HB.out)))); have n1_ := Aside0.mk (below_step (by repeat (first | (with_reducible first | exact HB.out | apply below_alloc | apply pw_below_drewN | apply below_drew1) | exact HB.out)) hb); clear HB; have HO247 := n0_; have HB := n1_; clear n0_ n1_; (try clear hb); (try clear hb2); (try clear hk); (try clear hi); (try clear ho0); obtain ⟨Ao12, co12, eo12⟩ := Kd.R_slice HO247.out; subst eo12) | ((with_reducible refine gate_callee (f := 28) rfl ?_); refine goesL_ (some 35) rfl rfl Try.func28 (by kernel_rfl) rfl #[.slice A1 l1.length c1, .int .i64 (t245.length : Int)] rfl (by (try simp only [List.map_toArray, List.map_cons, List.map_nil]); first | done | rfl | (simp only [List.length_drop, List.length_take]; rfl)) ?_; (with_reducible refine (spec_A2Some.calls k _ _ l1 (t245.length : Int) t248 _ ?side1 ?side2 A6.out).mono ?_); (case side1 => repeat (first | exact (Kd.C_below HR1.out HB.out) | (with_reducible refine Kd.C_alloc ?_ _) | (with_reducible refine Kd.C_drewN ?_ _) | (with_reducible refine Kd.C_drew ?_))); (case side2 => exact HC1.out); rintro e w13 ⟨v249, rfl, ho0, hb⟩; refine ⟨_, rfl, ?_⟩; have n0_ := Aside0.mk (Kd.R_below (by (with_reducible repeat (first | apply Kd.R_alloc | apply Kd.R_drewN | apply Kd.R_drew)); exact HO247.out) hb); have n1_ := Aside0.mk (Kd.R_lower ho0 (below_size (by repeat (first | (with_reducible first | exact HB.out | apply below_alloc | apply pw_below_drewN | apply below_drew1) | exact HB.out)))); have n2_ := Aside0.mk (below_step (by repeat (first | (with_reducible first | exact HB.out | apply below_alloc | apply pw_below_drewN | apply below_drew1) | exact HB.out)) hb); clear HO247; clear HB; have HO247 := n0_; have HO250 := n1_; have HB := n2_; clear n0_ n1_ n2_; (try clear hb); (try clear hb2); (try clear hk); (try clear hi); (try clear ho0)) | ((with_reducible refine gate_callee (f := 29) rfl ?_); refine goesL_ (some 37) rfl rfl Try.func29 (by kernel_rfl) rfl #[.slice A1 l1.length c1, .int .i64 0, .int .i64 250] rfl (by (try simp only [List.map_toArray, List.map_cons, List.map_nil]); first | done | rfl | (simp only [List.length_drop, List.length_take]; rfl)) ?_; (with_reducible refine (laws_a2At.calls _ _ l1 0 250 t251 _ ?side1 ?side2 A7.out).mono ?_); (case side1 => repeat (first | exact (Kd.C_below HR1.out HB.out) | (with_reducible refine Kd.C_alloc ?_ _) | (with_reducible refine Kd.C_drewN ?_ _) | (with_reducible refine Kd.C_drew ?_))); (case side2 => exact HC1.out); rintro e w' ⟨rfl, ⟨nd, rfl⟩⟩; refine ⟨_, rfl, ?_⟩; obtain ⟨Ao14, co14, eo14⟩ := Kd.R_slice HO250.out; subst eo14) | ((with_reducible refine gate_callee (f := 30) rfl ?_); refine goesL_ (some 42) rfl rfl Try.func30 (by kernel_rfl) rfl #[.slice Ao12 t245.length co12, .slice Ao14 t248.length co14, .int .i64 t251] rfl (by (try simp only [List.map_toArray, List.map_cons, List.map_nil]); first | done | rfl | (simp only [List.length_drop, List.length_take]; rfl)) ?_; (with_reducible refine (impl_TotalForce.calls k _ _ t245 _ _ t248 t251 t252 t253 _ ?side1 ?side2 ?side3 ?side4 A8.out).mono ?_); (case side1 => repeat (first | exact (Kd.R_reads' HO247.out).2.2 | (with_reducible refine Kd.C_alloc ?_ _) | (with_reducible refine Kd.C_drewN ?_ _) | (with_reducible refine Kd.C_drew ?_))); (case side2 => exact (Kd.R_reads' HO247.out).2.1); (case side3 => repeat (first | exact (Kd.R_reads' HO250.out).2.2 | (with_reducible refine Kd.C_alloc ?_ _) | (with_reducible refine Kd.C_drewN ?_ _) | (with_reducible refine Kd.C_drew ?_))); (case side4 => exact (Kd.R_reads' HO250.out).2.1); rintro e w15 ⟨rfl, hb⟩; refine ⟨_, rfl, ?_⟩; have n0_ := Aside0.mk (Kd.R_below (by (with_reducible repeat (first | apply Kd.R_alloc | apply Kd.R_drewN | apply Kd.R_drew)); exact HO247.out) hb); have n1_ := Aside0.mk (Kd.R_below (by (with_reducible repeat (first | apply Kd.R_alloc | apply Kd.R_drewN | apply Kd.R_drew)); exact HO250.out) hb); have n2_ := Aside0.mk (below_step (by repeat (first | (with_reducible first | exact HB.out | apply below_alloc | apply pw_below_drewN | apply below_drew1) | exact HB.out)) hb); clear HO247; clear HO250; clear HB; have HO247 := n0_; have HO250 := n1_; have HB := n2_; clear n0_ n1_ n2_; (try clear hb); (try clear hb2); (try clear hk); (try clear hi)) | ((with_reducible refine gate_callee (f := 31) rfl ?_); refine goesL_ (some 49) rfl rfl Try.func31 (by kernel_rfl) rfl #[.slice Ao12 t245.length co12, .slice Ao14 t248.length co14, .int .i64 t251] rfl (by (try simp only [List.map_toArray, List.map_cons, List.map_nil]); first | done | rfl | (simp only [List.length_drop, List.length_take]; rfl)) ?_; (with_reducible refine (impl_HeelingMoment.calls k _ _ t245 _ _ t248 t251 t254 t255 _ ?side1 ?side2 ?side3 ?side4 A9.out).mono ?_); (case side1 => repeat (first | exact (Kd.R_reads' HO247.out).2.2 | (with_reducible refine Kd.C_alloc ?_ _) | (with_reducible refine Kd.C_drewN ?_ _) | (with_reducible refine Kd.C_drew ?_))); (case side2 => exact (Kd.R_reads' HO247.out).2.1); (case side3 => repeat (first | exact (Kd.R_reads' HO250.out).2.2 | (with_reducible refine Kd.C_alloc ?_ _) | (with_reducible refine Kd.C_drewN ?_ _) | (with_reducible refine Kd.C_drew ?_))); (case side4 => exact (Kd.R_reads' HO250.out).2.1); rintro e w16 ⟨rfl, hb⟩; refine ⟨_, rfl, ?_⟩; have n0_ := Aside0.mk (Kd.R_below (by (with_reducible repeat (first | apply Kd.R_alloc | apply Kd.R_drewN | apply Kd.R_drew)); exact HO247.out) hb); have n1_ := Aside0.mk (Kd.R_below (by (with_reducible repeat (first | apply Kd.R_alloc | apply Kd.R_drewN | apply Kd.R_drew)); exact HO250.out) hb); have n2_ := Aside0.mk (below_step (by repeat (first | (with_reducible first | exact HB.out | apply below_alloc | apply pw_below_drewN | apply below_drew1) | exact HB.out)) hb); clear HO247; clear HO250; clear HB; have HO247 := n0_; have HO250 := n1_; have HB := n2_; clear n0_ n1_ n2_; (try clear hb); (try clear hb2); (try clear hk); (try clear hi)))
    (try simp only [Act.put, List.setIfInBounds_toArray, List.set_cons_zero, List.set_cons_succ])
    go_cut [57] (fun v57 wc => ∃ (kq : Nat) (x57_9 : Bool), v57 = .bool x57_9 ∧ Aside0 (laws_FnWindForces.j0 kq t245 t248 t251 t252 t254 x57_9 = some r) ∧ Aside0 (kq ≤ k) ∧ Aside0 (Kd.R k27 27 wc w.heap.size (fun _ => True) (.slice Ao12 t245.length co12) t245) ∧ Aside0 (Kd.R (Kd.int .i64) 2 wc w.heap.size (fun _ => True) (.slice Ao14 t248.length co14) t248) ∧ Aside0 (Below w.heap.size w wc))
    case first =>
      have H := HC10.out
      clear HC10
      by_cases c17 : t253 = 0
      · rw [if_pos c17] at H
        have c17b0 : (t253 == 0) = true := beq_iff_eq.mpr c17
        have c17b1 : (t253 != 0) = false := bne_eq_false_iff_eq.mpr c17
        clear c17
        (first | rw [c17b0] | (simp only [i64_w, i32_w]; rw [c17b0]) | skip)
        have H' := Aside0.mk H
        clear H
        go_wp2
        go_meet
        case rel => exact ⟨_, ((t255 != 0)), (by first | rfl | (simp; done) | (simp [*]; done)), H', ⟨by first | omega | exact Nat.le_refl _⟩, ⟨by (with_reducible repeat (first | apply Kd.R_alloc | apply Kd.R_drewN | apply Kd.R_drew)); exact HO247.out⟩, ⟨by (with_reducible repeat (first | apply Kd.R_alloc | apply Kd.R_drewN | apply Kd.R_drew)); exact HO250.out⟩, ⟨by repeat (first | (with_reducible first | exact HB.out | apply below_alloc | apply pw_below_drewN | apply below_drew1) | exact HB.out)⟩⟩
      · rw [if_neg c17] at H
        have c17b0 : (t253 == 0) = false := beq_eq_false_iff_ne.mpr c17
        have c17b1 : (t253 != 0) = true := bne_iff_ne.mpr c17
        (first | rw [c17b0] | (simp only [i64_w, i32_w]; rw [c17b0]) | skip)
        exact (laws_FnWindForces.j0_cut _ _ _ _ _ _ _ H HRT.out).elim
    case rest =>
      clear HC10
      try clear c1
      try clear c2
      try clear p2
      try clear c3
      try clear c4
      try clear c6
      try clear c17
      try clear c17b0
      try clear c17b1
      obtain ⟨kq, x57_9, rfl, HA, HJ9, HO_5, HO_6, HB⟩ := hcut
      cases kq with
      | zero => exact absurd HA.out (by simp [laws_FnWindForces.j0])
      | succ kj9 =>
        have H := HA.out
        clear HA
        simp only [laws_FnWindForces.j0] at H
        by_cases c18 : x57_9 = true
        · subst c18
          have H1 : (some false) = some r := by rw [if_pos rfl] at H; exact H
          clear H
          have H := H1
          clear H1
          obtain rfl := Option.some.inj H
          exact absurd HRT.out (by decide)
        · replace c18 := Bool.eq_false_iff.mpr c18
          subst c18
          have H1 : (laws_FnWindForces.l0 kj9 t245 t248 t251 t252 t254 0 0 0) = some r := by rw [if_neg (show ¬ (false = true) by decide)] at H; exact H
          clear H
          have H := H1
          clear H1
          have H' := Aside0.mk H
          clear H
          go_wp2
          go_loopg [12, 13, 14] kj9 (fun kq v12 v13 v14 w' => ∃ (x12_2 : Int) (x13_2 : Int) (x14_2 : Int), v12 = .int .i64 x12_2 ∧ v13 = .int .i64 x13_2 ∧ v14 = .int .i64 x14_2 ∧ Aside0 (laws_FnWindForces.l0 kq t245 t248 t251 t252 t254 x12_2 x13_2 x14_2 = some r) ∧ Aside0 (kq ≤ kj9) ∧ Aside0 (Kd.R k27 27 w' w.heap.size (fun _ => True) (.slice Ao12 t245.length co12) t245) ∧ Aside0 (Kd.R (Kd.int .i64) 2 w' w.heap.size (fun _ => True) (.slice Ao14 t248.length co14) t248) ∧ Aside0 (Below w.heap.size w w'))
          case atStart => exact ⟨(0), (0), (0), (by first | rfl | (simp; done) | (simp [*]; done)), (by first | rfl | (simp; done) | (simp [*]; done)), (by first | rfl | (simp; done) | (simp [*]; done)), H', ⟨Nat.le_refl _⟩, ⟨by (with_reducible repeat (first | apply Kd.R_alloc | apply Kd.R_drewN | apply Kd.R_drew)); exact HO_5.out⟩, ⟨by (with_reducible repeat (first | apply Kd.R_alloc | apply Kd.R_drewN | apply Kd.R_drew)); exact HO_6.out⟩, ⟨by repeat (first | (with_reducible first | exact HB.out | apply below_alloc | apply pw_below_drewN | apply below_drew1) | exact HB.out)⟩⟩
          case round =>
            clear H'
            try clear c1
            try clear c2
            try clear p2
            try clear c3
            try clear c4
            try clear c6
            try clear c17
            try clear c17b0
            try clear c17b1
            try clear c18
            try clear p2
            obtain ⟨x12_2, x13_2, x14_2, rfl, rfl, rfl, HA, HK2, HO_5, HO_6, HB⟩ := hrel
            cases gk with
            | zero => exact absurd HA.out (by simp [laws_FnWindForces.l0])
            | succ k2 =>
              have H := HA.out
              clear HA
              simp only [laws_FnWindForces.l0] at H
              by_cases c19 : x14_2 < (t248.length : Int)
              · rw [if_pos c19] at H
                have c19b0 : decide (x14_2 < (t248.length : Int)) = true := decide_eq_true c19
                clear c19
                by_cases c20 : 0 ≤ x14_2
                · rw [if_pos c20] at H
                  have c20b0 : decide (0 ≤ x14_2) = true := decide_eq_true c20
                  clear c20
                  by_cases c21 : 0 ≤ (rd t248 x14_2)
                  · rw [if_pos c21] at H
                    have c21b0 : decide (0 ≤ (rd t248 x14_2)) = true := decide_eq_true c21
                    clear c21
                    by_cases c22 : (rd t248 x14_2) < (t245.length : Int)
                    · rw [if_pos c22] at H
                      have c22b0 : decide ((rd t248 x14_2) < (t245.length : Int)) = true := decide_eq_true c22
                      clear c22
                      replace H := Option.bind_eq_some_iff.mp H
                      obtain ⟨⟨t259, t260⟩, A230, H⟩ := H
                      replace H : ((impl_WindForce.f k2 ((rd_T27 t245 (rd t248 x14_2)).f0) ((rd_T27 t245 (rd t248 x14_2)).f1) ((rd_T27 t245 (rd t248 x14_2)).f2) ((rd_T27 t245 (rd t248 x14_2)).f3) ((rd_T27 t245 (rd t248 x14_2)).f4) (wrap64 (t251 + 1))).bind fun bt261 => (if t260 = 0 then (if bt261.2 = 0 then (if bt261.1 < t259 then (some false) else (if (wrap64 (160000 * t259)) > (wrap64 ((wrap64 ((wrap64 ((wrap64 (((rd_T27 t245 (rd t248 x14_2)).f1) * ((rd_T27 t245 (rd t248 x14_2)).f3))) * t251)) * t251)) + 80000)) then (some false) else (if (wrap64 (160000 * t259)) ≤ (wrap64 ((wrap64 ((wrap64 ((wrap64 (((rd_T27 t245 (rd t248 x14_2)).f1) * ((rd_T27 t245 (rd t248 x14_2)).f3))) * t251)) * t251)) - 80000)) then (some false) else (laws_FnWindForces.l0 k2 t245 t248 t251 t252 t254 (wrap64 (x12_2 + t259)) (wrap64 (x13_2 + (wrap64 (t259 * ((rd_T27 t245 (rd t248 x14_2)).f2))))) (wrap64 (x14_2 + 1)))))) else (some false)) else (some false))) = some r := H
                      have A23 := Aside0.mk A230
                      clear A230
                      replace H := Option.bind_eq_some_iff.mp H
                      obtain ⟨⟨t261, t262⟩, A240, H⟩ := H
                      replace H : (if t260 = 0 then (if t262 = 0 then (if t261 < t259 then (some false) else (if (wrap64 (160000 * t259)) > (wrap64 ((wrap64 ((wrap64 ((wrap64 (((rd_T27 t245 (rd t248 x14_2)).f1) * ((rd_T27 t245 (rd t248 x14_2)).f3))) * t251)) * t251)) + 80000)) then (some false) else (if (wrap64 (160000 * t259)) ≤ (wrap64 ((wrap64 ((wrap64 ((wrap64 (((rd_T27 t245 (rd t248 x14_2)).f1) * ((rd_T27 t245 (rd t248 x14_2)).f3))) * t251)) * t251)) - 80000)) then (some false) else (laws_FnWindForces.l0 k2 t245 t248 t251 t252 t254 (wrap64 (x12_2 + t259)) (wrap64 (x13_2 + (wrap64 (t259 * ((rd_T27 t245 (rd t248 x14_2)).f2))))) (wrap64 (x14_2 + 1)))))) else (some false)) else (some false)) = some r := H
                      have A24 := Aside0.mk A240
                      clear A240
                      by_cases c25 : t260 = 0
                      · rw [if_pos c25] at H
                        have c25b0 : (t260 == 0) = true := beq_iff_eq.mpr c25
                        have c25b1 : (t260 != 0) = false := bne_eq_false_iff_eq.mpr c25
                        clear c25
                        by_cases c26 : t262 = 0
                        · rw [if_pos c26] at H
                          have c26b0 : (t262 == 0) = true := beq_iff_eq.mpr c26
                          have c26b1 : (t262 != 0) = false := bne_eq_false_iff_eq.mpr c26
                          clear c26
                          by_cases c27 : t261 < t259
                          · rw [if_pos c27] at H
                            have c27b0 : decide (t261 < t259) = true := decide_eq_true c27
                            clear c27
                            obtain rfl := Option.some.inj H
                            exact absurd HRT.out (by decide)
                          · rw [if_neg c27] at H
                            have c27b0 : decide (t261 < t259) = false := decide_eq_false c27
                            clear c27
                            by_cases c34 : (wrap64 (160000 * t259)) > (wrap64 ((wrap64 ((wrap64 ((wrap64 (((rd_T27 t245 (rd t248 x14_2)).f1) * ((rd_T27 t245 (rd t248 x14_2)).f3))) * t251)) * t251)) + 80000))
                            · rw [if_pos c34] at H
                              have c34b0 : decide ((wrap64 ((wrap64 ((wrap64 ((wrap64 (((rd_T27 t245 (rd t248 x14_2)).f1) * ((rd_T27 t245 (rd t248 x14_2)).f3))) * t251)) * t251)) + 80000)) < (wrap64 (160000 * t259))) = true := decide_eq_true c34
                              clear c34
                              obtain rfl := Option.some.inj H
                              exact absurd HRT.out (by decide)
                            · rw [if_neg c34] at H
                              have c34b0 : decide ((wrap64 ((wrap64 ((wrap64 ((wrap64 (((rd_T27 t245 (rd t248 x14_2)).f1) * ((rd_T27 t245 (rd t248 x14_2)).f3))) * t251)) * t251)) + 80000)) < (wrap64 (160000 * t259))) = false := decide_eq_false c34
                              clear c34
                              by_cases c41 : (wrap64 (160000 * t259)) ≤ (wrap64 ((wrap64 ((wrap64 ((wrap64 (((rd_T27 t245 (rd t248 x14_2)).f1) * ((rd_T27 t245 (rd t248 x14_2)).f3))) * t251)) * t251)) - 80000))
                              · rw [if_pos c41] at H
                                have c41b0 : decide ((wrap64 (160000 * t259)) ≤ (wrap64 ((wrap64 ((wrap64 ((wrap64 (((rd_T27 t245 (rd t248 x14_2)).f1) * ((rd_T27 t245 (rd t248 x14_2)).f3))) * t251)) * t251)) - 80000))) = true := decide_eq_true c41
                                clear c41
                                obtain rfl := Option.some.inj H
                                exact absurd HRT.out (by decide)
                              · rw [if_neg c41] at H
                                have c41b0 : decide ((wrap64 (160000 * t259)) ≤ (wrap64 ((wrap64 ((wrap64 ((wrap64 (((rd_T27 t245 (rd t248 x14_2)).f1) * ((rd_T27 t245 (rd t248 x14_2)).f3))) * t251)) * t251)) - 80000))) = false := decide_eq_false c41
                                clear c41
                                have H' := Aside0.mk H
                                clear H
                                have p256 : 0 ≤ (x14_2 : Int) := of_decide_eq_true (by first | (with_reducible assumption) | assumption)
                                have q256 : x14_2 < (t248.length : Int) := of_decide_eq_true (by first | (with_reducible assumption) | assumption)
                                obtain ⟨ad256, e256, hx256_0⟩ := Kd.at_int (Kd.R_reads' HO_6.out).2.2 x14_2 p256 q256
                                cases e256
                                replace p256 := eq_true p256
                                replace q256 := eq_true q256
                                have p257 : 0 ≤ ((rd t248 x14_2) : Int) := of_decide_eq_true (by first | (with_reducible assumption) | assumption)
                                have q257 : (rd t248 x14_2) < (t245.length : Int) := of_decide_eq_true (by first | (with_reducible assumption) | assumption)
                                obtain ⟨ad257, e257, hx257_0, hx257_1, hx257_2, hx257_3, hx257_4⟩ := at_T27 (Kd.R_reads' HO_5.out).2.2 (rd t248 x14_2) p257 q257
                                cases e257
                                replace p257 := eq_true p257
                                replace q257 := eq_true q257
                                go_wp2_with (first | ((with_reducible refine gate_dst (N := 15) rfl ?_); refine box_event ?hg (N := 15) ?hd (cs := #[.string (⟨#[]⟩ : ByteArray), .int .i64 0, .int .i64 0, .int .i64 0, .int .i64 0]) (t := 27) ?hr ?_; (case hd => rfl); (case hg => rfl); (case hr => first | (go_simp; done) | (go_simp; rfl)); intro gb258 hg w48 hbox hb; have n0_ := Aside0.mk (Kd.R_below (Kd.R_elderB (by (with_reducible repeat (first | apply Kd.R_alloc | apply Kd.R_drewN | apply Kd.R_drew)); exact HO_5.out) gb258 (Nat.le_of_eq hg.symm)) hb); have n1_ := Aside0.mk (Kd.R_below (by (with_reducible repeat (first | apply Kd.R_alloc | apply Kd.R_drewN | apply Kd.R_drew)); exact HO_6.out) hb); have n2_ := Aside0.mk (below_step (by repeat (first | (with_reducible first | exact HB.out | apply below_alloc | apply pw_below_drewN | apply below_drew1) | exact HB.out)) hb); have n3_ := Aside0.mk (hbox); have n4_ := Aside0.mk ((by rw [hg]; exact (below_size (by repeat (first | (with_reducible first | exact HB.out | apply below_alloc | apply pw_below_drewN | apply below_drew1) | exact HB.out))) : w.heap.size ≤ gb258)); have n5_ := Aside0.mk ((by rw [hg]; exact (below_size (by repeat (first | (with_reducible first | exact HB.out | apply below_alloc | apply pw_below_drewN | apply below_drew1) | exact HB.out))) : w.heap.size ≤ gb258)); clear HO_5; clear HO_6; clear HB; have HO_5 := n0_; have HO_6 := n1_; have HB := n2_; have BK258 := n3_; have GW258 := n4_; have GE258 := n5_; clear n0_ n1_ n2_ n3_ n4_ n5_; clear hb hbox hg; have hcz49_0 : w48.cell? ⟨gb258, 0, none⟩ = some (.string (⟨#[]⟩ : ByteArray)) := (blk_cell BK258.out 0).trans rfl; have hcz49_1 : w48.cell? ⟨gb258, 1, none⟩ = some (.int .i64 0) := (blk_cell BK258.out 1).trans rfl; have hcz49_2 : w48.cell? ⟨gb258, 2, none⟩ = some (.int .i64 0) := (blk_cell BK258.out 2).trans rfl; have hcz49_3 : w48.cell? ⟨gb258, 3, none⟩ = some (.int .i64 0) := (blk_cell BK258.out 3).trans rfl; have hcz49_4 : w48.cell? ⟨gb258, 4, none⟩ = some (.int .i64 0) := (blk_cell BK258.out 4).trans rfl; have hfz49_0 := blk_frozen BK258.out 0; have hfz49_1 := blk_frozen BK258.out 1; have hfz49_2 := blk_frozen BK258.out 2; have hfz49_3 := blk_frozen BK258.out 3; have hfz49_4 := blk_frozen BK258.out 4) | ((with_reducible refine gate_callee (f := 15) rfl ?_); refine goesL_ (some 74) rfl rfl Try.func15 (by kernel_rfl) rfl #[.agg #[.string ((rd_T27 t245 (rd t248 x14_2)).f0), .int .i64 ((rd_T27 t245 (rd t248 x14_2)).f1), .int .i64 ((rd_T27 t245 (rd t248 x14_2)).f2), .int .i64 ((rd_T27 t245 (rd t248 x14_2)).f3), .int .i64 ((rd_T27 t245 (rd t248 x14_2)).f4)], .int .i64 t251] rfl (by (try simp only [List.map_toArray, List.map_cons, List.map_nil]); first | done | rfl | (simp only [List.length_drop, List.length_take]; rfl)) ?_; (with_reducible refine (impl_WindForce.calls k2 ((rd_T27 t245 (rd t248 x14_2)).f0) ((rd_T27 t245 (rd t248 x14_2)).f1) ((rd_T27 t245 (rd t248 x14_2)).f2) ((rd_T27 t245 (rd t248 x14_2)).f3) ((rd_T27 t245 (rd t248 x14_2)).f4) t251 t259 t260 _ A23.out).mono ?_); rintro e w50 ⟨rfl, hb⟩; refine ⟨_, rfl, ?_⟩; have n0_ := Aside0.mk (Kd.R_below (by (with_reducible repeat (first | apply Kd.R_alloc | apply Kd.R_drewN | apply Kd.R_drew)); exact (Kd.R_mono (Kd.R_far (p := ⟨gb258, 4, none⟩) (Kd.R_far (p := ⟨gb258, 3, none⟩) (Kd.R_far (p := ⟨gb258, 2, none⟩) (Kd.R_far (p := ⟨gb258, 1, none⟩) (Kd.R_far (p := ⟨gb258, 0, none⟩) (Kd.R_mono HO_5.out (fun k_ hk => (⟨hk, hk.2⟩ : _ ∧ k_ ≠ gb258))) (fun _ hk => hk.2) (.string ((rd_T27 t245 (rd t248 x14_2)).f0))) (fun _ hk => hk.2) (.int .i64 ((rd_T27 t245 (rd t248 x14_2)).f1))) (fun _ hk => hk.2) (.int .i64 ((rd_T27 t245 (rd t248 x14_2)).f2))) (fun _ hk => hk.2) (.int .i64 ((rd_T27 t245 (rd t248 x14_2)).f3))) (fun _ hk => hk.2) (.int .i64 ((rd_T27 t245 (rd t248 x14_2)).f4))) (fun _ h_ => h_.1))) hb); have n1_ := Aside0.mk (Kd.R_below (by (with_reducible repeat (first | apply Kd.R_alloc | apply Kd.R_drewN | apply Kd.R_drew)); exact (Kd.R_mono (Kd.R_far (p := ⟨gb258, 4, none⟩) (Kd.R_far (p := ⟨gb258, 3, none⟩) (Kd.R_far (p := ⟨gb258, 2, none⟩) (Kd.R_far (p := ⟨gb258, 1, none⟩) (Kd.R_far (p := ⟨gb258, 0, none⟩) (Kd.R_types HO_6.out BK258.out (by decide)) (fun _ hk => hk.2) (.string ((rd_T27 t245 (rd t248 x14_2)).f0))) (fun _ hk => hk.2) (.int .i64 ((rd_T27 t245 (rd t248 x14_2)).f1))) (fun _ hk => hk.2) (.int .i64 ((rd_T27 t245 (rd t248 x14_2)).f2))) (fun _ hk => hk.2) (.int .i64 ((rd_T27 t245 (rd t248 x14_2)).f3))) (fun _ hk => hk.2) (.int .i64 ((rd_T27 t245 (rd t248 x14_2)).f4))) (fun _ h_ => h_.1))) hb); have n2_ := Aside0.mk (blk_below (g := gb258) (o := .cells #[.string ((rd_T27 t245 (rd t248 x14_2)).f0), .int .i64 ((rd_T27 t245 (rd t248 x14_2)).f1), .int .i64 ((rd_T27 t245 (rd t248 x14_2)).f2), .int .i64 ((rd_T27 t245 (rd t248 x14_2)).f3), .int .i64 ((rd_T27 t245 (rd t248 x14_2)).f4)] 27 (0, 0)) (by (with_reducible repeat (first | refine blk_drewN ?_ _ | refine blk_drew ?_ | refine blk_alloc ?_ _)); refine blk_put (cs := #[.string ((rd_T27 t245 (rd t248 x14_2)).f0), .int .i64 ((rd_T27 t245 (rd t248 x14_2)).f1), .int .i64 ((rd_T27 t245 (rd t248 x14_2)).f2), .int .i64 ((rd_T27 t245 (rd t248 x14_2)).f3), .int .i64 0]) ?_ 4 _ rfl; (with_reducible repeat (first | refine blk_drewN ?_ _ | refine blk_drew ?_ | refine blk_alloc ?_ _)); refine blk_put (cs := #[.string ((rd_T27 t245 (rd t248 x14_2)).f0), .int .i64 ((rd_T27 t245 (rd t248 x14_2)).f1), .int .i64 ((rd_T27 t245 (rd t248 x14_2)).f2), .int .i64 0, .int .i64 0]) ?_ 3 _ rfl; (with_reducible repeat (first | refine blk_drewN ?_ _ | refine blk_drew ?_ | refine blk_alloc ?_ _)); refine blk_put (cs := #[.string ((rd_T27 t245 (rd t248 x14_2)).f0), .int .i64 ((rd_T27 t245 (rd t248 x14_2)).f1), .int .i64 0, .int .i64 0, .int .i64 0]) ?_ 2 _ rfl; (with_reducible repeat (first | refine blk_drewN ?_ _ | refine blk_drew ?_ | refine blk_alloc ?_ _)); refine blk_put (cs := #[.string ((rd_T27 t245 (rd t248 x14_2)).f0), .int .i64 0, .int .i64 0, .int .i64 0, .int .i64 0]) ?_ 1 _ rfl; (with_reducible repeat (first | refine blk_drewN ?_ _ | refine blk_drew ?_ | refine blk_alloc ?_ _)); refine blk_put (cs := #[.string (⟨#[]⟩ : ByteArray), .int .i64 0, .int .i64 0, .int .i64 0, .int .i64 0]) ?_ 0 _ rfl; (with_reducible repeat (first | refine blk_drewN ?_ _ | refine blk_drew ?_ | refine blk_alloc ?_ _)); exact BK258.out) hb); have n3_ := Aside0.mk (below_step (by repeat (first | (with_reducible first | exact HB.out | apply below_alloc | apply pw_below_drewN | apply below_drew1 | refine below_set ?_ GE258.out) | exact HB.out)) hb); clear HO_5; clear HO_6; clear BK258; clear HB; have HO_5 := n0_; have HO_6 := n1_; have BK258 := n2_; have HB := n3_; clear n0_ n1_ n2_ n3_; (try clear hb); (try clear hb2); (try clear hk); (try clear hi); have hcz51_0 : w50.cell? ⟨gb258, 0, none⟩ = some (.string ((rd_T27 t245 (rd t248 x14_2)).f0)) := (blk_cell BK258.out 0).trans rfl; have hcz51_1 : w50.cell? ⟨gb258, 1, none⟩ = some (.int .i64 ((rd_T27 t245 (rd t248 x14_2)).f1)) := (blk_cell BK258.out 1).trans rfl; have hcz51_2 : w50.cell? ⟨gb258, 2, none⟩ = some (.int .i64 ((rd_T27 t245 (rd t248 x14_2)).f2)) := (blk_cell BK258.out 2).trans rfl; have hcz51_3 : w50.cell? ⟨gb258, 3, none⟩ = some (.int .i64 ((rd_T27 t245 (rd t248 x14_2)).f3)) := (blk_cell BK258.out 3).trans rfl; have hcz51_4 : w50.cell? ⟨gb258, 4, none⟩ = some (.int .i64 ((rd_T27 t245 (rd t248 x14_2)).f4)) := (blk_cell BK258.out 4).trans rfl; have hfz51_0 := blk_frozen BK258.out 0; have hfz51_1 := blk_frozen BK258.out 1; have hfz51_2 := blk_frozen BK258.out 2; have hfz51_3 := blk_frozen BK258.out 3; have hfz51_4 := blk_frozen BK258.out 4) | ((with_reducible refine gate_callee (f := 15) rfl ?_); refine goesL_ (some 81) rfl rfl Try.func15 (by kernel_rfl) rfl #[.agg #[.string ((rd_T27 t245 (rd t248 x14_2)).f0), .int .i64 ((rd_T27 t245 (rd t248 x14_2)).f1), .int .i64 ((rd_T27 t245 (rd t248 x14_2)).f2), .int .i64 ((rd_T27 t245 (rd t248 x14_2)).f3), .int .i64 ((rd_T27 t245 (rd t248 x14_2)).f4)], .int .i64 (wrap64 (t251 + 1))] rfl (by (try simp only [List.map_toArray, List.map_cons, List.map_nil]); first | done | rfl | (simp only [List.length_drop, List.length_take]; rfl)) ?_; (with_reducible refine (impl_WindForce.calls k2 ((rd_T27 t245 (rd t248 x14_2)).f0) ((rd_T27 t245 (rd t248 x14_2)).f1) ((rd_T27 t245 (rd t248 x14_2)).f2) ((rd_T27 t245 (rd t248 x14_2)).f3) ((rd_T27 t245 (rd t248 x14_2)).f4) (wrap64 (t251 + 1)) t261 t262 _ A24.out).mono ?_); rintro e w52 ⟨rfl, hb⟩; refine ⟨_, rfl, ?_⟩; have n0_ := Aside0.mk (Kd.R_below (by (with_reducible repeat (first | apply Kd.R_alloc | apply Kd.R_drewN | apply Kd.R_drew)); exact HO_5.out) hb); have n1_ := Aside0.mk (Kd.R_below (by (with_reducible repeat (first | apply Kd.R_alloc | apply Kd.R_drewN | apply Kd.R_drew)); exact HO_6.out) hb); have n2_ := Aside0.mk (blk_below (g := gb258) (o := .cells #[.string ((rd_T27 t245 (rd t248 x14_2)).f0), .int .i64 ((rd_T27 t245 (rd t248 x14_2)).f1), .int .i64 ((rd_T27 t245 (rd t248 x14_2)).f2), .int .i64 ((rd_T27 t245 (rd t248 x14_2)).f3), .int .i64 ((rd_T27 t245 (rd t248 x14_2)).f4)] 27 (0, 0)) (by (with_reducible repeat (first | refine blk_drewN ?_ _ | refine blk_drew ?_ | refine blk_alloc ?_ _)); exact BK258.out) hb); have n3_ := Aside0.mk (below_step (by repeat (first | (with_reducible first | exact HB.out | apply below_alloc | apply pw_below_drewN | apply below_drew1 | refine below_set ?_ GE258.out) | exact HB.out)) hb); clear HO_5; clear HO_6; clear BK258; clear HB; have HO_5 := n0_; have HO_6 := n1_; have BK258 := n2_; have HB := n3_; clear n0_ n1_ n2_ n3_; (try clear hb); (try clear hb2); (try clear hk); (try clear hi); have hcz53_0 : w52.cell? ⟨gb258, 0, none⟩ = some (.string ((rd_T27 t245 (rd t248 x14_2)).f0)) := (blk_cell BK258.out 0).trans rfl; have hcz53_1 : w52.cell? ⟨gb258, 1, none⟩ = some (.int .i64 ((rd_T27 t245 (rd t248 x14_2)).f1)) := (blk_cell BK258.out 1).trans rfl; have hcz53_2 : w52.cell? ⟨gb258, 2, none⟩ = some (.int .i64 ((rd_T27 t245 (rd t248 x14_2)).f2)) := (blk_cell BK258.out 2).trans rfl; have hcz53_3 : w52.cell? ⟨gb258, 3, none⟩ = some (.int .i64 ((rd_T27 t245 (rd t248 x14_2)).f3)) := (blk_cell BK258.out 3).trans rfl; have hcz53_4 : w52.cell? ⟨gb258, 4, none⟩ = some (.int .i64 ((rd_T27 t245 (rd t248 x14_2)).f4)) := (blk_cell BK258.out 4).trans rfl; have hfz53_0 := blk_frozen BK258.out 0; have hfz53_1 := blk_frozen BK258.out 1; have hfz53_2 := blk_frozen BK258.out 2; have hfz53_3 := blk_frozen BK258.out 3; have hfz53_4 := blk_frozen BK258.out 4))
                                go_roundg k2
                                case measure => have := HJ9.out; have := HK2.out; omega
                                case rel => exact ⟨(wrap64 (x12_2 + t259)), (wrap64 (x13_2 + (wrap64 (t259 * ((rd_T27 t245 (rd t248 x14_2)).f2))))), (wrap64 (x14_2 + 1)), (by first | rfl | (simp; done) | (simp [*]; done)), (by first | rfl | (simp; done) | (simp [*]; done)), (by first | rfl | (simp; done) | (simp [*]; done)), H', ⟨by have := HJ9.out; have := HK2.out; omega⟩, ⟨by (with_reducible repeat (first | apply Kd.R_alloc | apply Kd.R_drewN | apply Kd.R_drew)); exact Kd.R_mono HO_5.out (fun _ hk => trivial)⟩, ⟨by (with_reducible repeat (first | apply Kd.R_alloc | apply Kd.R_drewN | apply Kd.R_drew)); exact HO_6.out⟩, ⟨by repeat (first | (with_reducible first | exact HB.out | apply below_alloc | apply pw_below_drewN | apply below_drew1 | refine below_set ?_ GE258.out) | exact HB.out)⟩⟩
                        · rw [if_neg c26] at H
                          have c26b0 : (t262 == 0) = false := beq_eq_false_iff_ne.mpr c26
                          have c26b1 : (t262 != 0) = true := bne_iff_ne.mpr c26
                          obtain rfl := Option.some.inj H
                          exact absurd HRT.out (by decide)
                      · rw [if_neg c25] at H
                        have c25b0 : (t260 == 0) = false := beq_eq_false_iff_ne.mpr c25
                        have c25b1 : (t260 != 0) = true := bne_iff_ne.mpr c25
                        obtain rfl := Option.some.inj H
                        exact absurd HRT.out (by decide)
                    · rw [if_neg c22] at H
                      exact absurd H (by simp)
                  · rw [if_neg c21] at H
                    exact absurd H (by simp)
                · rw [if_neg c20] at H
                  exact absurd H (by simp)
              · rw [if_neg c19] at H
                have c19b0 : decide (x14_2 < (t248.length : Int)) = false := decide_eq_false c19
                clear c19
                replace H := Option.bind_eq_some_iff.mp H
                obtain ⟨⟨t263, t264⟩, A660, H⟩ := H
                replace H : ((impl_BeaufortOf.f k2 (wrap64 (t251 + 1))).bind fun bt265 => (if x12_2 = t252 then (if x13_2 = t254 then (if t264 = 0 then (if bt265.2 = 0 then (if t263 < 0 then (laws_FnWindForces.j2 k2 t245 t248 t254 true) else (if t263 > 12 then (laws_FnWindForces.j2 k2 t245 t248 t254 true) else (if bt265.1 < t263 then (laws_FnWindForces.j2 k2 t245 t248 t254 true) else (laws_FnWindForces.j2 k2 t245 t248 t254 (decide (bt265.1 > (wrap64 (t263 + 1)))))))) else (laws_FnWindForces.j2 k2 t245 t248 t254 true)) else (laws_FnWindForces.j2 k2 t245 t248 t254 true)) else (laws_FnWindForces.j2 k2 t245 t248 t254 true)) else (laws_FnWindForces.j2 k2 t245 t248 t254 true))) = some r := H
                have A66 := Aside0.mk A660
                clear A660
                replace H := Option.bind_eq_some_iff.mp H
                obtain ⟨⟨t265, t266⟩, A670, H⟩ := H
                replace H : (if x12_2 = t252 then (if x13_2 = t254 then (if t264 = 0 then (if t266 = 0 then (if t263 < 0 then (laws_FnWindForces.j2 k2 t245 t248 t254 true) else (if t263 > 12 then (laws_FnWindForces.j2 k2 t245 t248 t254 true) else (if t265 < t263 then (laws_FnWindForces.j2 k2 t245 t248 t254 true) else (laws_FnWindForces.j2 k2 t245 t248 t254 (decide (t265 > (wrap64 (t263 + 1)))))))) else (laws_FnWindForces.j2 k2 t245 t248 t254 true)) else (laws_FnWindForces.j2 k2 t245 t248 t254 true)) else (laws_FnWindForces.j2 k2 t245 t248 t254 true)) else (laws_FnWindForces.j2 k2 t245 t248 t254 true)) = some r := H
                have A67 := Aside0.mk A670
                clear A670
                have HC68 := Aside0.mk H
                clear H
                go_upto_region 25 with (first | ((with_reducible refine gate_callee (f := 32) rfl ?_); refine goesL_ (some 129) rfl rfl Try.func32 (by kernel_rfl) rfl #[.int .i64 t251] rfl (by (try simp only [List.map_toArray, List.map_cons, List.map_nil]); first | done | rfl | (simp only [List.length_drop, List.length_take]; rfl)) ?_; (with_reducible refine (impl_BeaufortOf.calls k2 t251 t263 t264 _ A66.out).mono ?_); rintro e w69 ⟨rfl, hb⟩; refine ⟨_, rfl, ?_⟩; have n0_ := Aside0.mk (Kd.R_below (by (with_reducible repeat (first | apply Kd.R_alloc | apply Kd.R_drewN | apply Kd.R_drew)); exact HO_5.out) hb); have n1_ := Aside0.mk (Kd.R_below (by (with_reducible repeat (first | apply Kd.R_alloc | apply Kd.R_drewN | apply Kd.R_drew)); exact HO_6.out) hb); have n2_ := Aside0.mk (below_step (by repeat (first | (with_reducible first | exact HB.out | apply below_alloc | apply pw_below_drewN | apply below_drew1) | exact HB.out)) hb); clear HO_5; clear HO_6; clear HB; have HO_5 := n0_; have HO_6 := n1_; have HB := n2_; clear n0_ n1_ n2_; (try clear hb); (try clear hb2); (try clear hk); (try clear hi)) | ((with_reducible refine gate_callee (f := 32) rfl ?_); refine goesL_ (some 135) rfl rfl Try.func32 (by kernel_rfl) rfl #[.int .i64 (wrap64 (t251 + 1))] rfl (by (try simp only [List.map_toArray, List.map_cons, List.map_nil]); first | done | rfl | (simp only [List.length_drop, List.length_take]; rfl)) ?_; (with_reducible refine (impl_BeaufortOf.calls k2 (wrap64 (t251 + 1)) t265 t266 _ A67.out).mono ?_); rintro e w70 ⟨rfl, hb⟩; refine ⟨_, rfl, ?_⟩; have n0_ := Aside0.mk (Kd.R_below (by (with_reducible repeat (first | apply Kd.R_alloc | apply Kd.R_drewN | apply Kd.R_drew)); exact HO_5.out) hb); have n1_ := Aside0.mk (Kd.R_below (by (with_reducible repeat (first | apply Kd.R_alloc | apply Kd.R_drewN | apply Kd.R_drew)); exact HO_6.out) hb); have n2_ := Aside0.mk (below_step (by repeat (first | (with_reducible first | exact HB.out | apply below_alloc | apply pw_below_drewN | apply below_drew1) | exact HB.out)) hb); clear HO_5; clear HO_6; clear HB; have HO_5 := n0_; have HO_6 := n1_; have HB := n2_; clear n0_ n1_ n2_; (try clear hb); (try clear hb2); (try clear hk); (try clear hi)))
                (try simp only [Act.put, List.setIfInBounds_toArray, List.set_cons_zero, List.set_cons_succ])
                go_cut [172] (fun v172 wc => ∃ (kq : Nat) (x172_67 : Bool), v172 = .bool x172_67 ∧ Aside0 (laws_FnWindForces.j2 kq t245 t248 t254 x172_67 = some r) ∧ Aside0 (kq ≤ k2) ∧ Aside0 (Kd.R k27 27 wc w.heap.size (fun _ => True) (.slice Ao12 t245.length co12) t245) ∧ Aside0 (Kd.R (Kd.int .i64) 2 wc w.heap.size (fun _ => True) (.slice Ao14 t248.length co14) t248) ∧ Aside0 (Below w.heap.size w wc))
                case first =>
                  have H := HC68.out
                  clear HC68
                  by_cases c71 : x12_2 = t252
                  · rw [if_pos c71] at H
                    have c71b0 : (x12_2 == t252) = true := beq_iff_eq.mpr c71
                    have c71b1 : (x12_2 != t252) = false := bne_eq_false_iff_eq.mpr c71
                    clear c71
                    (first | rw [c71b0] | (simp only [i64_w, i32_w]; rw [c71b0]) | skip)
                    by_cases c72 : x13_2 = t254
                    · rw [if_pos c72] at H
                      have c72b0 : (x13_2 == t254) = true := beq_iff_eq.mpr c72
                      have c72b1 : (x13_2 != t254) = false := bne_eq_false_iff_eq.mpr c72
                      clear c72
                      by_cases c73 : t264 = 0
                      · rw [if_pos c73] at H
                        have c73b0 : (t264 == 0) = true := beq_iff_eq.mpr c73
                        have c73b1 : (t264 != 0) = false := bne_eq_false_iff_eq.mpr c73
                        clear c73
                        by_cases c74 : t266 = 0
                        · rw [if_pos c74] at H
                          have c74b0 : (t266 == 0) = true := beq_iff_eq.mpr c74
                          have c74b1 : (t266 != 0) = false := bne_eq_false_iff_eq.mpr c74
                          clear c74
                          by_cases c75 : t263 < 0
                          · rw [if_pos c75] at H
                            have c75b0 : decide (t263 < 0) = true := decide_eq_true c75
                            clear c75
                            exact (laws_FnWindForces.j2_cut _ _ _ _ _ H HRT.out).elim
                          · rw [if_neg c75] at H
                            have c75b0 : decide (t263 < 0) = false := decide_eq_false c75
                            clear c75
                            by_cases c76 : t263 > 12
                            · rw [if_pos c76] at H
                              have c76b0 : decide (12 < t263) = true := decide_eq_true c76
                              clear c76
                              exact (laws_FnWindForces.j2_cut _ _ _ _ _ H HRT.out).elim
                            · rw [if_neg c76] at H
                              have c76b0 : decide (12 < t263) = false := decide_eq_false c76
                              clear c76
                              by_cases c77 : t265 < t263
                              · rw [if_pos c77] at H
                                have c77b0 : decide (t265 < t263) = true := decide_eq_true c77
                                clear c77
                                exact (laws_FnWindForces.j2_cut _ _ _ _ _ H HRT.out).elim
                              · rw [if_neg c77] at H
                                have c77b0 : decide (t265 < t263) = false := decide_eq_false c77
                                clear c77
                                have H' := Aside0.mk H
                                clear H
                                go_wp2
                                go_meet
                                case rel => exact ⟨_, (decide (t265 > (wrap64 (t263 + 1)))), (by first | rfl | (simp; done) | (simp [*]; done)), H', ⟨by have := HJ9.out; have := HK2.out; first | omega | exact Nat.le_refl _⟩, ⟨by (with_reducible repeat (first | apply Kd.R_alloc | apply Kd.R_drewN | apply Kd.R_drew)); exact HO_5.out⟩, ⟨by (with_reducible repeat (first | apply Kd.R_alloc | apply Kd.R_drewN | apply Kd.R_drew)); exact HO_6.out⟩, ⟨by repeat (first | (with_reducible first | exact HB.out | apply below_alloc | apply pw_below_drewN | apply below_drew1) | exact HB.out)⟩⟩
                        · rw [if_neg c74] at H
                          have c74b0 : (t266 == 0) = false := beq_eq_false_iff_ne.mpr c74
                          have c74b1 : (t266 != 0) = true := bne_iff_ne.mpr c74
                          exact (laws_FnWindForces.j2_cut _ _ _ _ _ H HRT.out).elim
                      · rw [if_neg c73] at H
                        have c73b0 : (t264 == 0) = false := beq_eq_false_iff_ne.mpr c73
                        have c73b1 : (t264 != 0) = true := bne_iff_ne.mpr c73
                        exact (laws_FnWindForces.j2_cut _ _ _ _ _ H HRT.out).elim
                    · rw [if_neg c72] at H
                      have c72b0 : (x13_2 == t254) = false := beq_eq_false_iff_ne.mpr c72
                      have c72b1 : (x13_2 != t254) = true := bne_iff_ne.mpr c72
                      exact (laws_FnWindForces.j2_cut _ _ _ _ _ H HRT.out).elim
                  · rw [if_neg c71] at H
                    have c71b0 : (x12_2 == t252) = false := beq_eq_false_iff_ne.mpr c71
                    have c71b1 : (x12_2 != t252) = true := bne_iff_ne.mpr c71
                    (first | rw [c71b0] | (simp only [i64_w, i32_w]; rw [c71b0]) | skip)
                    exact (laws_FnWindForces.j2_cut _ _ _ _ _ H HRT.out).elim
                case rest =>
                  clear HC68
                  try clear c1
                  try clear c2
                  try clear p2
                  try clear q2
                  try clear hx2
                  try clear c3
                  try clear c4
                  try clear c6
                  try clear p6
                  try clear c7
                  try clear c15
                  try clear c17
                  try clear c17b0
                  try clear c17b1
                  try clear c18
                  try clear c19
                  try clear c19b0
                  try clear c20
                  try clear c20b0
                  try clear c21
                  try clear c21b0
                  try clear c22
                  try clear c22b0
                  try clear c25
                  try clear c25b0
                  try clear c25b1
                  try clear p25
                  try clear q25
                  try clear hx25
                  try clear c26
                  try clear c26b0
                  try clear c26b1
                  try clear c27
                  try clear c27b0
                  try clear c28
                  try clear c29
                  try clear c30
                  try clear c31
                  try clear c32
                  try clear c34
                  try clear c34b0
                  try clear c41
                  try clear c41b0
                  try clear p64
                  try clear c71
                  try clear c71b0
                  try clear c71b1
                  try clear c72
                  try clear c72b0
                  try clear c72b1
                  try clear c73
                  try clear c73b0
                  try clear c73b1
                  try clear c74
                  try clear c74b0
                  try clear c74b1
                  try clear c75
                  try clear c75b0
                  try clear c76
                  try clear c76b0
                  try clear c77
                  try clear c77b0
                  try clear hcz29_0
                  try clear hcz29_1
                  try clear hcz29_2
                  try clear hcz29_3
                  try clear hcz29_4
                  try clear hcz31_0
                  try clear hcz31_1
                  try clear hcz31_2
                  try clear hcz31_3
                  try clear hcz31_4
                  try clear hcz33_0
                  try clear hcz33_1
                  try clear hcz33_2
                  try clear hcz33_3
                  try clear hcz33_4
                  try clear hcz36_0
                  try clear hcz36_1
                  try clear hcz36_2
                  try clear hcz36_3
                  try clear hcz36_4
                  try clear hcz38_0
                  try clear hcz38_1
                  try clear hcz38_2
                  try clear hcz38_3
                  try clear hcz38_4
                  try clear hcz40_0
                  try clear hcz40_1
                  try clear hcz40_2
                  try clear hcz40_3
                  try clear hcz40_4
                  try clear hcz43_0
                  try clear hcz43_1
                  try clear hcz43_2
                  try clear hcz43_3
                  try clear hcz43_4
                  try clear hcz45_0
                  try clear hcz45_1
                  try clear hcz45_2
                  try clear hcz45_3
                  try clear hcz45_4
                  try clear hcz47_0
                  try clear hcz47_1
                  try clear hcz47_2
                  try clear hcz47_3
                  try clear hcz47_4
                  try clear hcz49_0
                  try clear hcz49_1
                  try clear hcz49_2
                  try clear hcz49_3
                  try clear hcz49_4
                  try clear hcz51_0
                  try clear hcz51_1
                  try clear hcz51_2
                  try clear hcz51_3
                  try clear hcz51_4
                  try clear hcz53_0
                  try clear hcz53_1
                  try clear hcz53_2
                  try clear hcz53_3
                  try clear hcz53_4
                  try clear hcz55_0
                  try clear hcz55_1
                  try clear hcz55_2
                  try clear hcz55_3
                  try clear hcz55_4
                  try clear hcz57_0
                  try clear hcz57_1
                  try clear hcz57_2
                  try clear hcz57_3
                  try clear hcz57_4
                  try clear hcz59_0
                  try clear hcz59_1
                  try clear hcz59_2
                  try clear hcz59_3
                  try clear hcz59_4
                  try clear hcz61_0
                  try clear hcz61_1
                  try clear hcz61_2
                  try clear hcz61_3
                  try clear hcz61_4
                  try clear hcz63_0
                  try clear hcz63_1
                  try clear hcz63_2
                  try clear hcz63_3
                  try clear hcz63_4
                  try clear hcz65_0
                  try clear hcz65_1
                  try clear hcz65_2
                  try clear hcz65_3
                  try clear hcz65_4
                  try clear hfz29_0
                  try clear hfz29_1
                  try clear hfz29_2
                  try clear hfz29_3
                  try clear hfz29_4
                  try clear hfz31_0
                  try clear hfz31_1
                  try clear hfz31_2
                  try clear hfz31_3
                  try clear hfz31_4
                  try clear hfz33_0
                  try clear hfz33_1
                  try clear hfz33_2
                  try clear hfz33_3
                  try clear hfz33_4
                  try clear hfz36_0
                  try clear hfz36_1
                  try clear hfz36_2
                  try clear hfz36_3
                  try clear hfz36_4
                  try clear hfz38_0
                  try clear hfz38_1
                  try clear hfz38_2
                  try clear hfz38_3
                  try clear hfz38_4
                  try clear hfz40_0
                  try clear hfz40_1
                  try clear hfz40_2
                  try clear hfz40_3
                  try clear hfz40_4
                  try clear hfz43_0
                  try clear hfz43_1
                  try clear hfz43_2
                  try clear hfz43_3
                  try clear hfz43_4
                  try clear hfz45_0
                  try clear hfz45_1
                  try clear hfz45_2
                  try clear hfz45_3
                  try clear hfz45_4
                  try clear hfz47_0
                  try clear hfz47_1
                  try clear hfz47_2
                  try clear hfz47_3
                  try clear hfz47_4
                  try clear hfz49_0
                  try clear hfz49_1
                  try clear hfz49_2
                  try clear hfz49_3
                  try clear hfz49_4
                  try clear hfz51_0
                  try clear hfz51_1
                  try clear hfz51_2
                  try clear hfz51_3
                  try clear hfz51_4
                  try clear hfz53_0
                  try clear hfz53_1
                  try clear hfz53_2
                  try clear hfz53_3
                  try clear hfz53_4
                  try clear hfz55_0
                  try clear hfz55_1
                  try clear hfz55_2
                  try clear hfz55_3
                  try clear hfz55_4
                  try clear hfz57_0
                  try clear hfz57_1
                  try clear hfz57_2
                  try clear hfz57_3
                  try clear hfz57_4
                  try clear hfz59_0
                  try clear hfz59_1
                  try clear hfz59_2
                  try clear hfz59_3
                  try clear hfz59_4
                  try clear hfz61_0
                  try clear hfz61_1
                  try clear hfz61_2
                  try clear hfz61_3
                  try clear hfz61_4
                  try clear hfz63_0
                  try clear hfz63_1
                  try clear hfz63_2
                  try clear hfz63_3
                  try clear hfz63_4
                  try clear hfz65_0
                  try clear hfz65_1
                  try clear hfz65_2
                  try clear hfz65_3
                  try clear hfz65_4
                  try clear hx256_0
                  try clear hx257_0
                  try clear hx257_1
                  try clear hx257_2
                  try clear hx257_3
                  try clear hx257_4
                  try clear p2
                  try clear p256
                  try clear p257
                  try clear q256
                  try clear q257
                  obtain ⟨kq, x172_67, rfl, HA, HJ67, HO_5, HO_6, HB⟩ := hcut
                  cases kq with
                  | zero => exact absurd HA.out (by simp [laws_FnWindForces.j2])
                  | succ kj67 =>
                    have H := HA.out
                    clear HA
                    simp only [laws_FnWindForces.j2] at H
                    by_cases c78 : x172_67 = true
                    · subst c78
                      have H1 : (some false) = some r := by rw [if_pos rfl] at H; exact H
                      clear H
                      have H := H1
                      clear H1
                      obtain rfl := Option.some.inj H
                      exact absurd HRT.out (by decide)
                    · replace c78 := Bool.eq_false_iff.mpr c78
                      subst c78
                      have H1 : ((impl_MostWind.f kj67 t245 t248 t254).bind fun bt267 => (if bt267.2 = 0 then (if bt267.1 < 0 then (some false) else (if bt267.1 > 600 then (some false) else ((laws_a2Stands.f kj67 t245 t248 bt267.1 t254).bind fun t269 => (if t269 = true then (if bt267.1 = 600 then (some true) else ((laws_a2Stands.f kj67 t245 t248 (wrap64 (bt267.1 + 1)) t254).bind fun t270 => (some (!t270)))) else (some false))))) else (some false))) = some r := by rw [if_neg (show ¬ (false = true) by decide)] at H; exact H
                      clear H
                      have H := H1
                      clear H1
                      replace H := Option.bind_eq_some_iff.mp H
                      obtain ⟨⟨t267, t268⟩, A790, H⟩ := H
                      replace H : (if t268 = 0 then (if t267 < 0 then (some false) else (if t267 > 600 then (some false) else ((laws_a2Stands.f kj67 t245 t248 t267 t254).bind fun t269 => (if t269 = true then (if t267 = 600 then (some true) else ((laws_a2Stands.f kj67 t245 t248 (wrap64 (t267 + 1)) t254).bind fun t270 => (some (!t270)))) else (some false))))) else (some false)) = some r := H
                      have A79 := Aside0.mk A790
                      clear A790
                      by_cases c80 : t268 = 0
                      · rw [if_pos c80] at H
                        have c80b0 : (t268 == 0) = true := beq_iff_eq.mpr c80
                        have c80b1 : (t268 != 0) = false := bne_eq_false_iff_eq.mpr c80
                        clear c80
                        by_cases c81 : t267 < 0
                        · rw [if_pos c81] at H
                          have c81b0 : decide (t267 < 0) = true := decide_eq_true c81
                          clear c81
                          obtain rfl := Option.some.inj H
                          exact absurd HRT.out (by decide)
                        · rw [if_neg c81] at H
                          have c81b0 : decide (t267 < 0) = false := decide_eq_false c81
                          clear c81
                          by_cases c83 : t267 > 600
                          · rw [if_pos c83] at H
                            have c83b0 : decide (600 < t267) = true := decide_eq_true c83
                            clear c83
                            obtain rfl := Option.some.inj H
                            exact absurd HRT.out (by decide)
                          · rw [if_neg c83] at H
                            have c83b0 : decide (600 < t267) = false := decide_eq_false c83
                            clear c83
                            replace H := Option.bind_eq_some_iff.mp H
                            obtain ⟨t269, A850, H⟩ := H
                            replace H : (if t269 = true then (if t267 = 600 then (some true) else ((laws_a2Stands.f kj67 t245 t248 (wrap64 (t267 + 1)) t254).bind fun t270 => (some (!t270)))) else (some false)) = some r := H
                            have A85 := Aside0.mk A850
                            clear A850
                            by_cases c86 : t269 = true
                            · subst c86
                              have H1 : (if t267 = 600 then (some true) else ((laws_a2Stands.f kj67 t245 t248 (wrap64 (t267 + 1)) t254).bind fun t270 => (some (!t270)))) = some r := by rw [if_pos rfl] at H; exact H
                              clear H
                              have H := H1
                              clear H1
                              by_cases c87 : t267 = 600
                              · rw [if_pos c87] at H
                                have c87b0 : (t267 == 600) = true := beq_iff_eq.mpr c87
                                have c87b1 : (t267 != 600) = false := bne_eq_false_iff_eq.mpr c87
                                clear c87
                                obtain rfl := Option.some.inj H
                                go_wp2_with (first | ((with_reducible refine gate_callee (f := 33) rfl ?_); refine goesL_ (some 177) rfl rfl Try.func33 (by kernel_rfl) rfl #[.slice Ao12 t245.length co12, .slice Ao14 t248.length co14, .int .i64 t254] rfl (by (try simp only [List.map_toArray, List.map_cons, List.map_nil]); first | done | rfl | (simp only [List.length_drop, List.length_take]; rfl)) ?_; (with_reducible refine (impl_MostWind.calls kj67 _ _ t245 _ _ t248 t254 t267 t268 _ ?side1 ?side2 ?side3 ?side4 A79.out).mono ?_); (case side1 => repeat (first | exact (Kd.R_reads' HO_5.out).2.2 | (with_reducible refine Kd.C_alloc ?_ _) | (with_reducible refine Kd.C_drewN ?_ _) | (with_reducible refine Kd.C_drew ?_))); (case side2 => exact (Kd.R_reads' HO_5.out).2.1); (case side3 => repeat (first | exact (Kd.R_reads' HO_6.out).2.2 | (with_reducible refine Kd.C_alloc ?_ _) | (with_reducible refine Kd.C_drewN ?_ _) | (with_reducible refine Kd.C_drew ?_))); (case side4 => exact (Kd.R_reads' HO_6.out).2.1); rintro e w88 ⟨rfl, hb⟩; refine ⟨_, rfl, ?_⟩; have n0_ := Aside0.mk (Kd.R_below (by (with_reducible repeat (first | apply Kd.R_alloc | apply Kd.R_drewN | apply Kd.R_drew)); exact HO_5.out) hb); have n1_ := Aside0.mk (Kd.R_below (by (with_reducible repeat (first | apply Kd.R_alloc | apply Kd.R_drewN | apply Kd.R_drew)); exact HO_6.out) hb); have n2_ := Aside0.mk (below_step (by repeat (first | (with_reducible first | exact HB.out | apply below_alloc | apply pw_below_drewN | apply below_drew1) | exact HB.out)) hb); clear HO_5; clear HO_6; clear HB; have HO_5 := n0_; have HO_6 := n1_; have HB := n2_; clear n0_ n1_ n2_; (try clear hb); (try clear hb2); (try clear hk); (try clear hi)) | (go_at_call 34; (with_reducible refine (laws_a2Stands.calls kj67 _ _ t245 _ _ t248 t267 t254 true _ ?side1 ?side2 ?side3 ?side4 A85.out).mono ?_); (case side1 => repeat (first | exact (Kd.R_reads' HO_5.out).2.2 | (with_reducible refine Kd.C_alloc ?_ _) | (with_reducible refine Kd.C_drewN ?_ _) | (with_reducible refine Kd.C_drew ?_))); (case side2 => exact (Kd.R_reads' HO_5.out).2.1); (case side3 => repeat (first | exact (Kd.R_reads' HO_6.out).2.2 | (with_reducible refine Kd.C_alloc ?_ _) | (with_reducible refine Kd.C_drewN ?_ _) | (with_reducible refine Kd.C_drew ?_))); (case side4 => exact (Kd.R_reads' HO_6.out).2.1); rintro e w89 ⟨rfl, hb⟩; have n0_ := Aside0.mk (Kd.R_below (by (with_reducible repeat (first | apply Kd.R_alloc | apply Kd.R_drewN | apply Kd.R_drew)); exact HO_5.out) hb); have n1_ := Aside0.mk (Kd.R_below (by (with_reducible repeat (first | apply Kd.R_alloc | apply Kd.R_drewN | apply Kd.R_drew)); exact HO_6.out) hb); have n2_ := Aside0.mk (below_step (by repeat (first | (with_reducible first | exact HB.out | apply below_alloc | apply pw_below_drewN | apply below_drew1) | exact HB.out)) hb); clear HO_5; clear HO_6; clear HB; have HO_5 := n0_; have HO_6 := n1_; have HB := n2_; clear n0_ n1_ n2_; (try clear hb); (try clear hb2); (try clear hk); (try clear hi)))
                                go_ret
                                exact ⟨by first | rfl | (simp [errW_none, errW_some] <;> rfl) | (simp [*, errW_none, errW_some] <;> rfl), by repeat (first | (with_reducible first | exact HB.out | apply below_alloc | apply pw_below_drewN | apply below_drew1) | exact HB.out)⟩
                              · rw [if_neg c87] at H
                                have c87b0 : (t267 == 600) = false := beq_eq_false_iff_ne.mpr c87
                                have c87b1 : (t267 != 600) = true := bne_iff_ne.mpr c87
                                replace H := Option.bind_eq_some_iff.mp H
                                obtain ⟨t270, A900, H⟩ := H
                                replace H : (some (!t270)) = some r := H
                                have A90 := Aside0.mk A900
                                clear A900
                                obtain rfl := Option.some.inj H
                                go_wp2_with (first | ((with_reducible refine gate_callee (f := 33) rfl ?_); refine goesL_ (some 177) rfl rfl Try.func33 (by kernel_rfl) rfl #[.slice Ao12 t245.length co12, .slice Ao14 t248.length co14, .int .i64 t254] rfl (by (try simp only [List.map_toArray, List.map_cons, List.map_nil]); first | done | rfl | (simp only [List.length_drop, List.length_take]; rfl)) ?_; (with_reducible refine (impl_MostWind.calls kj67 _ _ t245 _ _ t248 t254 t267 t268 _ ?side1 ?side2 ?side3 ?side4 A79.out).mono ?_); (case side1 => repeat (first | exact (Kd.R_reads' HO_5.out).2.2 | (with_reducible refine Kd.C_alloc ?_ _) | (with_reducible refine Kd.C_drewN ?_ _) | (with_reducible refine Kd.C_drew ?_))); (case side2 => exact (Kd.R_reads' HO_5.out).2.1); (case side3 => repeat (first | exact (Kd.R_reads' HO_6.out).2.2 | (with_reducible refine Kd.C_alloc ?_ _) | (with_reducible refine Kd.C_drewN ?_ _) | (with_reducible refine Kd.C_drew ?_))); (case side4 => exact (Kd.R_reads' HO_6.out).2.1); rintro e w91 ⟨rfl, hb⟩; refine ⟨_, rfl, ?_⟩; have n0_ := Aside0.mk (Kd.R_below (by (with_reducible repeat (first | apply Kd.R_alloc | apply Kd.R_drewN | apply Kd.R_drew)); exact HO_5.out) hb); have n1_ := Aside0.mk (Kd.R_below (by (with_reducible repeat (first | apply Kd.R_alloc | apply Kd.R_drewN | apply Kd.R_drew)); exact HO_6.out) hb); have n2_ := Aside0.mk (below_step (by repeat (first | (with_reducible first | exact HB.out | apply below_alloc | apply pw_below_drewN | apply below_drew1) | exact HB.out)) hb); clear HO_5; clear HO_6; clear HB; have HO_5 := n0_; have HO_6 := n1_; have HB := n2_; clear n0_ n1_ n2_; (try clear hb); (try clear hb2); (try clear hk); (try clear hi)) | (go_at_call 34; (with_reducible refine (laws_a2Stands.calls kj67 _ _ t245 _ _ t248 t267 t254 true _ ?side1 ?side2 ?side3 ?side4 A85.out).mono ?_); (case side1 => repeat (first | exact (Kd.R_reads' HO_5.out).2.2 | (with_reducible refine Kd.C_alloc ?_ _) | (with_reducible refine Kd.C_drewN ?_ _) | (with_reducible refine Kd.C_drew ?_))); (case side2 => exact (Kd.R_reads' HO_5.out).2.1); (case side3 => repeat (first | exact (Kd.R_reads' HO_6.out).2.2 | (with_reducible refine Kd.C_alloc ?_ _) | (with_reducible refine Kd.C_drewN ?_ _) | (with_reducible refine Kd.C_drew ?_))); (case side4 => exact (Kd.R_reads' HO_6.out).2.1); rintro e w92 ⟨rfl, hb⟩; have n0_ := Aside0.mk (Kd.R_below (by (with_reducible repeat (first | apply Kd.R_alloc | apply Kd.R_drewN | apply Kd.R_drew)); exact HO_5.out) hb); have n1_ := Aside0.mk (Kd.R_below (by (with_reducible repeat (first | apply Kd.R_alloc | apply Kd.R_drewN | apply Kd.R_drew)); exact HO_6.out) hb); have n2_ := Aside0.mk (below_step (by repeat (first | (with_reducible first | exact HB.out | apply below_alloc | apply pw_below_drewN | apply below_drew1) | exact HB.out)) hb); clear HO_5; clear HO_6; clear HB; have HO_5 := n0_; have HO_6 := n1_; have HB := n2_; clear n0_ n1_ n2_; (try clear hb); (try clear hb2); (try clear hk); (try clear hi)) | (go_at_call 34; (with_reducible refine (laws_a2Stands.calls kj67 _ _ t245 _ _ t248 (wrap64 (t267 + 1)) t254 t270 _ ?side1 ?side2 ?side3 ?side4 A90.out).mono ?_); (case side1 => repeat (first | exact (Kd.R_reads' HO_5.out).2.2 | (with_reducible refine Kd.C_alloc ?_ _) | (with_reducible refine Kd.C_drewN ?_ _) | (with_reducible refine Kd.C_drew ?_))); (case side2 => exact (Kd.R_reads' HO_5.out).2.1); (case side3 => repeat (first | exact (Kd.R_reads' HO_6.out).2.2 | (with_reducible refine Kd.C_alloc ?_ _) | (with_reducible refine Kd.C_drewN ?_ _) | (with_reducible refine Kd.C_drew ?_))); (case side4 => exact (Kd.R_reads' HO_6.out).2.1); rintro e w93 ⟨rfl, hb⟩; have n0_ := Aside0.mk (Kd.R_below (by (with_reducible repeat (first | apply Kd.R_alloc | apply Kd.R_drewN | apply Kd.R_drew)); exact HO_5.out) hb); have n1_ := Aside0.mk (Kd.R_below (by (with_reducible repeat (first | apply Kd.R_alloc | apply Kd.R_drewN | apply Kd.R_drew)); exact HO_6.out) hb); have n2_ := Aside0.mk (below_step (by repeat (first | (with_reducible first | exact HB.out | apply below_alloc | apply pw_below_drewN | apply below_drew1) | exact HB.out)) hb); clear HO_5; clear HO_6; clear HB; have HO_5 := n0_; have HO_6 := n1_; have HB := n2_; clear n0_ n1_ n2_; (try clear hb); (try clear hb2); (try clear hk); (try clear hi)))
                                go_ret
                                exact ⟨by first | rfl | (simp [errW_none, errW_some] <;> rfl) | (simp [*, errW_none, errW_some] <;> rfl), by repeat (first | (with_reducible first | exact HB.out | apply below_alloc | apply pw_below_drewN | apply below_drew1) | exact HB.out)⟩
                            · replace c86 := Bool.eq_false_iff.mpr c86
                              subst c86
                              have H1 : (some false) = some r := by rw [if_neg (show ¬ (false = true) by decide)] at H; exact H
                              clear H
                              have H := H1
                              clear H1
                              obtain rfl := Option.some.inj H
                              exact absurd HRT.out (by decide)
                      · rw [if_neg c80] at H
                        have c80b0 : (t268 == 0) = false := beq_eq_false_iff_ne.mpr c80
                        have c80b1 : (t268 != 0) = true := bne_iff_ne.mpr c80
                        obtain rfl := Option.some.inj H
                        exact absurd HRT.out (by decide)
/-- THE ONE PURE STATEMENT of laws_FnWindForces: yours. -/
def laws_FnWindForces.Pure : Prop := ∀ (l0 : List Int) (l1 : List Int), l0.length ≤ maxLen → l0.length * 1 ≤ 140737488351232 → (∀ x ∈ l0, (Lit.int .u8 x).wf = true) → l1.length ≤ maxLen → l1.length * 1 ≤ 140737488351232 → (∀ x ∈ l1, (Lit.int .u8 x).wf = true) → ∃ k, laws_FnWindForces.f k l0 l1 = some true
end Go.Proofs.Ythbfpkagjobgiaa.PFnWindForces
