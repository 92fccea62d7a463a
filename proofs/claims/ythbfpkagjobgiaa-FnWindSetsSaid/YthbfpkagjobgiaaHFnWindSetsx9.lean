/- The walks of the functions that the law reaches: each computes what its Lean function says. No condition beyond each contract's own. -/
import Derived.Test.YthbfpkagjobgiaaHFnWindSetsx0
import Derived.Test.YthbfpkagjobgiaaHFnWindSetsx1
import Derived.Test.YthbfpkagjobgiaaHFnWindSetsx2
import Derived.Test.YthbfpkagjobgiaaHFnWindSetsx4
import Derived.Test.YthbfpkagjobgiaaHFnWindSetsx5
import Derived.Test.YthbfpkagjobgiaaHFnWindSetsx6
import Derived.Test.YthbfpkagjobgiaaHFnWindSetsx7
import Derived.Test.YthbfpkagjobgiaaHFnWindSetsx8
namespace Go.Proofs.Ythbfpkagjobgiaa.PFnWindSets
noncomputable section
open Go.RowKit Go.Proofs.YthbfpkagjobgiaaW.PrintWords Go.Proofs.YthbfpkagjobgiaaW.PrintLast Go.Proofs.YthbfpkagjobgiaaW.PrintMore
attribute [local go_sem] max2_int min2_int max_two min_two max_three min_three max_four min_four   -- for this text's walks alone
set_option linter.unusedVariables false
set_option linter.unusedSimpArgs false

/-! ### laws_FnWindSets: function 11 -/
mutual
def laws_FnWindSets.j0 : Nat → List Int → List Int → Bool → Option (Bool)
  | 0, _, _, _ => none
  | k + 1, x0, x1, x104 => if x104 = true then (some false) else ((spec_A2Blows.f k x0).bind fun t312 => ((laws_a2At.f x1 2 60).bind fun t315 => (if t312.length < 17592186044416 then ((some (t312 ++ [t315] : List Int)).bind fun y316 => ((laws_a2At.f x1 3 150).bind fun t319 => ((impl_LullsOf.f k y316 t319).bind fun bt320 => (laws_FnWindSets.l0 k y316 t319 bt320.1 bt320.2.1 bt320.2.2 0 0 0 0)))) else (none))))
def laws_FnWindSets.l0 : Nat → List Int → Int → Int → Int → Int → Int → Int → Int → Int → Option (Bool)
  | 0, _, _, _, _, _, _, _, _, _ => none
  | k + 1, x16, x17, x18, x19, x20, x21, x22, x23, x24 => if x24 < (x16.length : Int) then (if 0 ≤ x24 then (if (rd x16 x24) ≥ x17 then (if 0 > x22 then (laws_FnWindSets.l0 k x16 x17 x18 x19 x20 0 0 (wrap64 ((wrap64 (x24 + 1)) - 0)) (wrap64 (x24 + 1))) else (laws_FnWindSets.l0 k x16 x17 x18 x19 x20 0 x22 x23 (wrap64 (x24 + 1)))) else (if (wrap64 (x21 + 1)) > x22 then (laws_FnWindSets.l0 k x16 x17 x18 x19 x20 (wrap64 (x21 + 1)) (wrap64 (x21 + 1)) (wrap64 ((wrap64 (x24 + 1)) - (wrap64 (x21 + 1)))) (wrap64 (x24 + 1))) else (laws_FnWindSets.l0 k x16 x17 x18 x19 x20 (wrap64 (x21 + 1)) x22 x23 (wrap64 (x24 + 1))))) else (none)) else (if x22 = 0 then (if x20 = 3 then (if x22 > 0 then (if x20 = 0 then (if x18 = x23 then (laws_FnWindSets.j2 k x16 (x19 != x22)) else (laws_FnWindSets.j2 k x16 true)) else (laws_FnWindSets.j2 k x16 true)) else (laws_FnWindSets.j2 k x16 false)) else (laws_FnWindSets.j2 k x16 true)) else (if x22 > 0 then (if x20 = 0 then (if x18 = x23 then (laws_FnWindSets.j2 k x16 (x19 != x22)) else (laws_FnWindSets.j2 k x16 true)) else (laws_FnWindSets.j2 k x16 true)) else (laws_FnWindSets.j2 k x16 false)))
def laws_FnWindSets.j2 : Nat → List Int → Bool → Option (Bool)
  | 0, _, _ => none
  | k + 1, x16, x165 => if x165 = true then (some false) else ((impl_GustFactor.f k x16).bind fun bt324 => (if bt324.2.2 = 0 then (if bt324.2.1 ≥ 1 then (if bt324.1 ≥ bt324.2.1 then (some (decide (bt324.1 ≤ (wrap64 (bt324.2.1 * (x16.length : Int)))))) else (some false)) else (some false)) else (if bt324.2.2 = 3 then ((laws_a2Sum.f k x16).bind fun t328 => (some (t328 == 0))) else (some false))))
end
def laws_FnWindSets.f (k : Nat) (l0 : List Int) (l1 : List Int) : Option (Bool) := (laws_a2Long.f l0 l1).bind fun t291 => (if t291 = true then (some true) else ((spec_A2Canvas.f k l0).bind fun t292 => ((laws_a2At.f l1 0 250).bind fun t295 => ((laws_a2At.f l1 1 250).bind fun t296 => ((impl_BestSet.f k t292 t295 (wrap64 (20000 * t296))).bind fun bt297 => ((impl_TotalForce.f k t292 bt297.1 t295).bind fun bt302 => ((spec_A2Some.f k l1 (t292.length : Int)).bind fun t304 => ((spec_TotalForce.f k t292 t304 t295).bind fun bt307 => (if bt297.2.2 = 0 then (if bt302.2 = 0 then (if bt302.1 = bt297.2.1 then ((laws_a2Rises.f k bt297.1 (t292.length : Int)).bind fun t309 => (if t309 = true then ((laws_a2Stands.f k t292 bt297.1 t295 (wrap64 (20000 * t296))).bind fun t310 => (if t310 = true then (if bt307.2 = 0 then ((laws_a2Stands.f k t292 t304 t295 (wrap64 (20000 * t296))).bind fun t311 => (if t311 = true then (laws_FnWindSets.j0 k l0 l1 (decide (bt307.1 > bt297.2.1))) else (laws_FnWindSets.j0 k l0 l1 false))) else (laws_FnWindSets.j0 k l0 l1 true)) else (laws_FnWindSets.j0 k l0 l1 true))) else (laws_FnWindSets.j0 k l0 l1 true))) else (laws_FnWindSets.j0 k l0 l1 true)) else (laws_FnWindSets.j0 k l0 l1 true)) else (laws_FnWindSets.j0 k l0 l1 true))))))))))
theorem laws_FnWindSets.mono_l : ∀ k, (∀ y0 y1 y2, LeO (laws_FnWindSets.j0 k y0 y1 y2) (laws_FnWindSets.j0 (k + 1) y0 y1 y2)) ∧ (∀ y0 y1 y2 y3 y4 y5 y6 y7 y8, LeO (laws_FnWindSets.l0 k y0 y1 y2 y3 y4 y5 y6 y7 y8) (laws_FnWindSets.l0 (k + 1) y0 y1 y2 y3 y4 y5 y6 y7 y8)) ∧ (∀ y0 y1, LeO (laws_FnWindSets.j2 k y0 y1) (laws_FnWindSets.j2 (k + 1) y0 y1))
  | 0 => ⟨fun _ _ _ r h => by simp [laws_FnWindSets.j0] at h, fun _ _ _ _ _ _ _ _ _ r h => by simp [laws_FnWindSets.l0] at h, fun _ _ r h => by simp [laws_FnWindSets.j2] at h⟩
  | k + 1 => by
    obtain ⟨ih0, ih1, ih2⟩ := laws_FnWindSets.mono_l k
    refine ⟨?_, ?_, ?_⟩
    · intro y0 y1 y2
      unfold laws_FnWindSets.j0
      repeat' first
      | (with_reducible exact ih0 _ _ _)
      | (with_reducible exact ih1 _ _ _ _ _ _ _ _ _)
      | (with_reducible exact ih2 _ _)
      | (with_reducible exact impl_BestSet.mono _ _ _ _)
      | (with_reducible exact impl_GustFactor.mono _ _)
      | (with_reducible exact impl_LullsOf.mono _ _ _)
      | (with_reducible exact impl_TotalForce.mono _ _ _ _)
      | (with_reducible exact laws_a2Rises.mono _ _ _)
      | (with_reducible exact laws_a2Stands.mono _ _ _ _ _)
      | (with_reducible exact laws_a2Sum.mono _ _)
      | (with_reducible exact spec_A2Blows.mono _ _)
      | (with_reducible exact spec_A2Canvas.mono _ _)
      | (with_reducible exact spec_A2Some.mono _ _ _)
      | (with_reducible exact spec_TotalForce.mono _ _ _ _)
      | (with_reducible exact LeO.refl _)
      | (with_reducible exact LeO.none _)
      | (with_reducible refine LeO.ite ?_ ?_)
      | (with_reducible refine LeO.bind ?_ (fun _ => ?_))
      | exact ih0 _ _ _
      | exact ih1 _ _ _ _ _ _ _ _ _
      | exact ih2 _ _
      | exact impl_BestSet.mono _ _ _ _
      | exact impl_GustFactor.mono _ _
      | exact impl_LullsOf.mono _ _ _
      | exact impl_TotalForce.mono _ _ _ _
      | exact laws_a2Rises.mono _ _ _
      | exact laws_a2Stands.mono _ _ _ _ _
      | exact laws_a2Sum.mono _ _
      | exact spec_A2Blows.mono _ _
      | exact spec_A2Canvas.mono _ _
      | exact spec_A2Some.mono _ _ _
      | exact spec_TotalForce.mono _ _ _ _
      | exact LeO.none _
      | refine LeO.ite ?_ ?_
      | refine LeO.bind ?_ (fun _ => ?_)
    · intro y0 y1 y2 y3 y4 y5 y6 y7 y8
      unfold laws_FnWindSets.l0
      repeat' first
      | (with_reducible exact ih0 _ _ _)
      | (with_reducible exact ih1 _ _ _ _ _ _ _ _ _)
      | (with_reducible exact ih2 _ _)
      | (with_reducible exact impl_BestSet.mono _ _ _ _)
      | (with_reducible exact impl_GustFactor.mono _ _)
      | (with_reducible exact impl_LullsOf.mono _ _ _)
      | (with_reducible exact impl_TotalForce.mono _ _ _ _)
      | (with_reducible exact laws_a2Rises.mono _ _ _)
      | (with_reducible exact laws_a2Stands.mono _ _ _ _ _)
      | (with_reducible exact laws_a2Sum.mono _ _)
      | (with_reducible exact spec_A2Blows.mono _ _)
      | (with_reducible exact spec_A2Canvas.mono _ _)
      | (with_reducible exact spec_A2Some.mono _ _ _)
      | (with_reducible exact spec_TotalForce.mono _ _ _ _)
      | (with_reducible exact LeO.refl _)
      | (with_reducible exact LeO.none _)
      | (with_reducible refine LeO.ite ?_ ?_)
      | (with_reducible refine LeO.bind ?_ (fun _ => ?_))
      | exact ih0 _ _ _
      | exact ih1 _ _ _ _ _ _ _ _ _
      | exact ih2 _ _
      | exact impl_BestSet.mono _ _ _ _
      | exact impl_GustFactor.mono _ _
      | exact impl_LullsOf.mono _ _ _
      | exact impl_TotalForce.mono _ _ _ _
      | exact laws_a2Rises.mono _ _ _
      | exact laws_a2Stands.mono _ _ _ _ _
      | exact laws_a2Sum.mono _ _
      | exact spec_A2Blows.mono _ _
      | exact spec_A2Canvas.mono _ _
      | exact spec_A2Some.mono _ _ _
      | exact spec_TotalForce.mono _ _ _ _
      | exact LeO.none _
      | refine LeO.ite ?_ ?_
      | refine LeO.bind ?_ (fun _ => ?_)
    · intro y0 y1
      unfold laws_FnWindSets.j2
      repeat' first
      | (with_reducible exact ih0 _ _ _)
      | (with_reducible exact ih1 _ _ _ _ _ _ _ _ _)
      | (with_reducible exact ih2 _ _)
      | (with_reducible exact impl_BestSet.mono _ _ _ _)
      | (with_reducible exact impl_GustFactor.mono _ _)
      | (with_reducible exact impl_LullsOf.mono _ _ _)
      | (with_reducible exact impl_TotalForce.mono _ _ _ _)
      | (with_reducible exact laws_a2Rises.mono _ _ _)
      | (with_reducible exact laws_a2Stands.mono _ _ _ _ _)
      | (with_reducible exact laws_a2Sum.mono _ _)
      | (with_reducible exact spec_A2Blows.mono _ _)
      | (with_reducible exact spec_A2Canvas.mono _ _)
      | (with_reducible exact spec_A2Some.mono _ _ _)
      | (with_reducible exact spec_TotalForce.mono _ _ _ _)
      | (with_reducible exact LeO.refl _)
      | (with_reducible exact LeO.none _)
      | (with_reducible refine LeO.ite ?_ ?_)
      | (with_reducible refine LeO.bind ?_ (fun _ => ?_))
      | exact ih0 _ _ _
      | exact ih1 _ _ _ _ _ _ _ _ _
      | exact ih2 _ _
      | exact impl_BestSet.mono _ _ _ _
      | exact impl_GustFactor.mono _ _
      | exact impl_LullsOf.mono _ _ _
      | exact impl_TotalForce.mono _ _ _ _
      | exact laws_a2Rises.mono _ _ _
      | exact laws_a2Stands.mono _ _ _ _ _
      | exact laws_a2Sum.mono _ _
      | exact spec_A2Blows.mono _ _
      | exact spec_A2Canvas.mono _ _
      | exact spec_A2Some.mono _ _ _
      | exact spec_TotalForce.mono _ _ _ _
      | exact LeO.none _
      | refine LeO.ite ?_ ?_
      | refine LeO.bind ?_ (fun _ => ?_)
theorem laws_FnWindSets.mono : ∀ a0 a1 k, LeO (laws_FnWindSets.f k a0 a1) (laws_FnWindSets.f (k + 1) a0 a1) := by
  intro a0 a1 k
  obtain ⟨ih0, ih1, ih2⟩ := laws_FnWindSets.mono_l k
  unfold laws_FnWindSets.f
  repeat' first
      | (with_reducible exact ih0 _ _ _)
      | (with_reducible exact ih1 _ _ _ _ _ _ _ _ _)
      | (with_reducible exact ih2 _ _)
      | (with_reducible exact impl_BestSet.mono _ _ _ _)
      | (with_reducible exact impl_GustFactor.mono _ _)
      | (with_reducible exact impl_LullsOf.mono _ _ _)
      | (with_reducible exact impl_TotalForce.mono _ _ _ _)
      | (with_reducible exact laws_a2Rises.mono _ _ _)
      | (with_reducible exact laws_a2Stands.mono _ _ _ _ _)
      | (with_reducible exact laws_a2Sum.mono _ _)
      | (with_reducible exact spec_A2Blows.mono _ _)
      | (with_reducible exact spec_A2Canvas.mono _ _)
      | (with_reducible exact spec_A2Some.mono _ _ _)
      | (with_reducible exact spec_TotalForce.mono _ _ _ _)
      | (with_reducible exact LeO.refl _)
      | (with_reducible exact LeO.none _)
      | (with_reducible refine LeO.ite ?_ ?_)
      | (with_reducible refine LeO.bind ?_ (fun _ => ?_))
      | exact ih0 _ _ _
      | exact ih1 _ _ _ _ _ _ _ _ _
      | exact ih2 _ _
      | exact impl_BestSet.mono _ _ _ _
      | exact impl_GustFactor.mono _ _
      | exact impl_LullsOf.mono _ _ _
      | exact impl_TotalForce.mono _ _ _ _
      | exact laws_a2Rises.mono _ _ _
      | exact laws_a2Stands.mono _ _ _ _ _
      | exact laws_a2Sum.mono _ _
      | exact spec_A2Blows.mono _ _
      | exact spec_A2Canvas.mono _ _
      | exact spec_A2Some.mono _ _ _
      | exact spec_TotalForce.mono _ _ _ _
      | exact LeO.none _
      | refine LeO.ite ?_ ?_
      | refine LeO.bind ?_ (fun _ => ?_)
theorem laws_FnWindSets.j0_cut (k : Nat) (x0_ : List Int) (x1_ : List Int) (r : Bool) (h : laws_FnWindSets.j0 k x0_ x1_ true = some r) (hr : r = true) : False := by
  cases k with
  | zero => simp only [laws_FnWindSets.j0] at h; cases h
  | succ k =>
    have h2 : some false = some r := h
    cases h2
    cases hr
theorem laws_FnWindSets.j2_cut (k : Nat) (x0_ : List Int) (r : Bool) (h : laws_FnWindSets.j2 k x0_ true = some r) (hr : r = true) : False := by
  cases k with
  | zero => simp only [laws_FnWindSets.j2] at h; cases h
  | succ k =>
    have h2 : some false = some r := h
    cases h2
    cases hr
set_option maxHeartbeats 8000000 in
set_option maxRecDepth 100000 in
theorem laws_FnWindSets.calls (k : Nat) (A0 : Option Addr) (c0 : Nat) (l0 : List Int) (A1 : Option Addr) (c1 : Nat) (l1 : List Int) (r : Bool) (w : World) (hr0 : Kd.C (Kd.int .u8) w A0 l0.length l0) (hc0 : l0.length ≤ c0) (hr1 : Kd.C (Kd.int .u8) w A1 l1.length l1) (hc1 : l1.length ≤ c1) (h : laws_FnWindSets.f k l0 l1 = some r) (hrt : r = true) :
    Calls Try.prog 11 #[.slice A0 l0.length c0, .slice A1 l1.length c1] w fun e w' => e = .returned (.bool r) ∧ Below w.heap.size w w' := by
  have HRT := Aside0.mk hrt
  clear hrt
  have hu32 := Try.underlying32
  have HR0 := Aside0.mk hr0
  have HC0 := Aside0.mk hc0
  clear hr0 hc0
  have HR1 := Aside0.mk hr1
  have HC1 := Aside0.mk hc1
  clear hr1 hc1
  have HB := Aside0.mk (Below.refl w.heap.size w)
  have H : ((laws_a2Long.f l0 l1).bind fun t291 => (if t291 = true then (some true) else ((spec_A2Canvas.f k l0).bind fun t292 => ((laws_a2At.f l1 0 250).bind fun t295 => ((laws_a2At.f l1 1 250).bind fun t296 => ((impl_BestSet.f k t292 t295 (wrap64 (20000 * t296))).bind fun bt297 => ((impl_TotalForce.f k t292 bt297.1 t295).bind fun bt302 => ((spec_A2Some.f k l1 (t292.length : Int)).bind fun t304 => ((spec_TotalForce.f k t292 t304 t295).bind fun bt307 => (if bt297.2.2 = 0 then (if bt302.2 = 0 then (if bt302.1 = bt297.2.1 then ((laws_a2Rises.f k bt297.1 (t292.length : Int)).bind fun t309 => (if t309 = true then ((laws_a2Stands.f k t292 bt297.1 t295 (wrap64 (20000 * t296))).bind fun t310 => (if t310 = true then (if bt307.2 = 0 then ((laws_a2Stands.f k t292 t304 t295 (wrap64 (20000 * t296))).bind fun t311 => (if t311 = true then (laws_FnWindSets.j0 k l0 l1 (decide (bt307.1 > bt297.2.1))) else (laws_FnWindSets.j0 k l0 l1 false))) else (laws_FnWindSets.j0 k l0 l1 true)) else (laws_FnWindSets.j0 k l0 l1 true))) else (laws_FnWindSets.j0 k l0 l1 true))) else (laws_FnWindSets.j0 k l0 l1 true)) else (laws_FnWindSets.j0 k l0 l1 true)) else (laws_FnWindSets.j0 k l0 l1 true))))))))))) = some r := h
  clear h
  replace H := Option.bind_eq_some_iff.mp H
  obtain ⟨t291, A30, H⟩ := H
  replace H : (if t291 = true then (some true) else ((spec_A2Canvas.f k l0).bind fun t292 => ((laws_a2At.f l1 0 250).bind fun t295 => ((laws_a2At.f l1 1 250).bind fun t296 => ((impl_BestSet.f k t292 t295 (wrap64 (20000 * t296))).bind fun bt297 => ((impl_TotalForce.f k t292 bt297.1 t295).bind fun bt302 => ((spec_A2Some.f k l1 (t292.length : Int)).bind fun t304 => ((spec_TotalForce.f k t292 t304 t295).bind fun bt307 => (if bt297.2.2 = 0 then (if bt302.2 = 0 then (if bt302.1 = bt297.2.1 then ((laws_a2Rises.f k bt297.1 (t292.length : Int)).bind fun t309 => (if t309 = true then ((laws_a2Stands.f k t292 bt297.1 t295 (wrap64 (20000 * t296))).bind fun t310 => (if t310 = true then (if bt307.2 = 0 then ((laws_a2Stands.f k t292 t304 t295 (wrap64 (20000 * t296))).bind fun t311 => (if t311 = true then (laws_FnWindSets.j0 k l0 l1 (decide (bt307.1 > bt297.2.1))) else (laws_FnWindSets.j0 k l0 l1 false))) else (laws_FnWindSets.j0 k l0 l1 true)) else (laws_FnWindSets.j0 k l0 l1 true))) else (laws_FnWindSets.j0 k l0 l1 true))) else (laws_FnWindSets.j0 k l0 l1 true)) else (laws_FnWindSets.j0 k l0 l1 true)) else (laws_FnWindSets.j0 k l0 l1 true)))))))))) = some r := H
  have A3 := Aside0.mk A30
  clear A30
  by_cases c4 : t291 = true
  · subst c4
    have H1 : (some true) = some r := by rw [if_pos rfl] at H; exact H
    clear H
    have H := H1
    clear H1
    obtain rfl := Option.some.inj H
    go_enter Try.func11, Try.ntmps11
    go_wp2_with (first | ((with_reducible refine gate_callee (f := 26) rfl ?_); refine goesL_ (some 29) rfl rfl Try.func26 (by kernel_rfl) rfl #[.slice A0 l0.length c0, .slice A1 l1.length c1] rfl (by (try simp only [List.map_toArray, List.map_cons, List.map_nil]); first | done | rfl | (simp only [List.length_drop, List.length_take]; rfl)) ?_; (with_reducible refine (laws_a2Long.calls _ _ l0 _ _ l1 true _ ?side1 ?side2 ?side3 ?side4 A3.out).mono ?_); (case side1 => repeat (first | exact HR0.out | (with_reducible refine Kd.C_alloc ?_ _) | (with_reducible refine Kd.C_drewN ?_ _) | (with_reducible refine Kd.C_drew ?_))); (case side2 => exact HC0.out); (case side3 => repeat (first | exact HR1.out | (with_reducible refine Kd.C_alloc ?_ _) | (with_reducible refine Kd.C_drewN ?_ _) | (with_reducible refine Kd.C_drew ?_))); (case side4 => exact HC1.out); rintro e w' ⟨rfl, ⟨nd, rfl⟩⟩; refine ⟨_, rfl, ?_⟩))
    go_ret
    exact ⟨by first | rfl | (simp [errW_none, errW_some] <;> rfl) | (simp [*, errW_none, errW_some] <;> rfl), by repeat (first | (with_reducible first | exact HB.out | apply below_alloc | apply pw_below_drewN | apply below_drew1) | exact HB.out)⟩
  · replace c4 := Bool.eq_false_iff.mpr c4
    subst c4
    have H1 : ((spec_A2Canvas.f k l0).bind fun t292 => ((laws_a2At.f l1 0 250).bind fun t295 => ((laws_a2At.f l1 1 250).bind fun t296 => ((impl_BestSet.f k t292 t295 (wrap64 (20000 * t296))).bind fun bt297 => ((impl_TotalForce.f k t292 bt297.1 t295).bind fun bt302 => ((spec_A2Some.f k l1 (t292.length : Int)).bind fun t304 => ((spec_TotalForce.f k t292 t304 t295).bind fun bt307 => (if bt297.2.2 = 0 then (if bt302.2 = 0 then (if bt302.1 = bt297.2.1 then ((laws_a2Rises.f k bt297.1 (t292.length : Int)).bind fun t309 => (if t309 = true then ((laws_a2Stands.f k t292 bt297.1 t295 (wrap64 (20000 * t296))).bind fun t310 => (if t310 = true then (if bt307.2 = 0 then ((laws_a2Stands.f k t292 t304 t295 (wrap64 (20000 * t296))).bind fun t311 => (if t311 = true then (laws_FnWindSets.j0 k l0 l1 (decide (bt307.1 > bt297.2.1))) else (laws_FnWindSets.j0 k l0 l1 false))) else (laws_FnWindSets.j0 k l0 l1 true)) else (laws_FnWindSets.j0 k l0 l1 true))) else (laws_FnWindSets.j0 k l0 l1 true))) else (laws_FnWindSets.j0 k l0 l1 true)) else (laws_FnWindSets.j0 k l0 l1 true)) else (laws_FnWindSets.j0 k l0 l1 true))))))))) = some r := by rw [if_neg (show ¬ (false = true) by decide)] at H; exact H
    clear H
    have H := H1
    clear H1
    replace H := Option.bind_eq_some_iff.mp H
    obtain ⟨t292, A50, H⟩ := H
    replace H : ((laws_a2At.f l1 0 250).bind fun t295 => ((laws_a2At.f l1 1 250).bind fun t296 => ((impl_BestSet.f k t292 t295 (wrap64 (20000 * t296))).bind fun bt297 => ((impl_TotalForce.f k t292 bt297.1 t295).bind fun bt302 => ((spec_A2Some.f k l1 (t292.length : Int)).bind fun t304 => ((spec_TotalForce.f k t292 t304 t295).bind fun bt307 => (if bt297.2.2 = 0 then (if bt302.2 = 0 then (if bt302.1 = bt297.2.1 then ((laws_a2Rises.f k bt297.1 (t292.length : Int)).bind fun t309 => (if t309 = true then ((laws_a2Stands.f k t292 bt297.1 t295 (wrap64 (20000 * t296))).bind fun t310 => (if t310 = true then (if bt307.2 = 0 then ((laws_a2Stands.f k t292 t304 t295 (wrap64 (20000 * t296))).bind fun t311 => (if t311 = true then (laws_FnWindSets.j0 k l0 l1 (decide (bt307.1 > bt297.2.1))) else (laws_FnWindSets.j0 k l0 l1 false))) else (laws_FnWindSets.j0 k l0 l1 true)) else (laws_FnWindSets.j0 k l0 l1 true))) else (laws_FnWindSets.j0 k l0 l1 true))) else (laws_FnWindSets.j0 k l0 l1 true)) else (laws_FnWindSets.j0 k l0 l1 true)) else (laws_FnWindSets.j0 k l0 l1 true)))))))) = some r := H
    have A5 := Aside0.mk A50
    clear A50
    replace H := Option.bind_eq_some_iff.mp H
    obtain ⟨t295, A60, H⟩ := H
    replace H : ((laws_a2At.f l1 1 250).bind fun t296 => ((impl_BestSet.f k t292 t295 (wrap64 (20000 * t296))).bind fun bt297 => ((impl_TotalForce.f k t292 bt297.1 t295).bind fun bt302 => ((spec_A2Some.f k l1 (t292.length : Int)).bind fun t304 => ((spec_TotalForce.f k t292 t304 t295).bind fun bt307 => (if bt297.2.2 = 0 then (if bt302.2 = 0 then (if bt302.1 = bt297.2.1 then ((laws_a2Rises.f k bt297.1 (t292.length : Int)).bind fun t309 => (if t309 = true then ((laws_a2Stands.f k t292 bt297.1 t295 (wrap64 (20000 * t296))).bind fun t310 => (if t310 = true then (if bt307.2 = 0 then ((laws_a2Stands.f k t292 t304 t295 (wrap64 (20000 * t296))).bind fun t311 => (if t311 = true then (laws_FnWindSets.j0 k l0 l1 (decide (bt307.1 > bt297.2.1))) else (laws_FnWindSets.j0 k l0 l1 false))) else (laws_FnWindSets.j0 k l0 l1 true)) else (laws_FnWindSets.j0 k l0 l1 true))) else (laws_FnWindSets.j0 k l0 l1 true))) else (laws_FnWindSets.j0 k l0 l1 true)) else (laws_FnWindSets.j0 k l0 l1 true)) else (laws_FnWindSets.j0 k l0 l1 true))))))) = some r := H
    have A6 := Aside0.mk A60
    clear A60
    replace H := Option.bind_eq_some_iff.mp H
    obtain ⟨t296, A70, H⟩ := H
    replace H : ((impl_BestSet.f k t292 t295 (wrap64 (20000 * t296))).bind fun bt297 => ((impl_TotalForce.f k t292 bt297.1 t295).bind fun bt302 => ((spec_A2Some.f k l1 (t292.length : Int)).bind fun t304 => ((spec_TotalForce.f k t292 t304 t295).bind fun bt307 => (if bt297.2.2 = 0 then (if bt302.2 = 0 then (if bt302.1 = bt297.2.1 then ((laws_a2Rises.f k bt297.1 (t292.length : Int)).bind fun t309 => (if t309 = true then ((laws_a2Stands.f k t292 bt297.1 t295 (wrap64 (20000 * t296))).bind fun t310 => (if t310 = true then (if bt307.2 = 0 then ((laws_a2Stands.f k t292 t304 t295 (wrap64 (20000 * t296))).bind fun t311 => (if t311 = true then (laws_FnWindSets.j0 k l0 l1 (decide (bt307.1 > bt297.2.1))) else (laws_FnWindSets.j0 k l0 l1 false))) else (laws_FnWindSets.j0 k l0 l1 true)) else (laws_FnWindSets.j0 k l0 l1 true))) else (laws_FnWindSets.j0 k l0 l1 true))) else (laws_FnWindSets.j0 k l0 l1 true)) else (laws_FnWindSets.j0 k l0 l1 true)) else (laws_FnWindSets.j0 k l0 l1 true)))))) = some r := H
    have A7 := Aside0.mk A70
    clear A70
    replace H := Option.bind_eq_some_iff.mp H
    obtain ⟨⟨t297, t298, t299⟩, A80, H⟩ := H
    replace H : ((impl_TotalForce.f k t292 t297 t295).bind fun bt302 => ((spec_A2Some.f k l1 (t292.length : Int)).bind fun t304 => ((spec_TotalForce.f k t292 t304 t295).bind fun bt307 => (if t299 = 0 then (if bt302.2 = 0 then (if bt302.1 = t298 then ((laws_a2Rises.f k t297 (t292.length : Int)).bind fun t309 => (if t309 = true then ((laws_a2Stands.f k t292 t297 t295 (wrap64 (20000 * t296))).bind fun t310 => (if t310 = true then (if bt307.2 = 0 then ((laws_a2Stands.f k t292 t304 t295 (wrap64 (20000 * t296))).bind fun t311 => (if t311 = true then (laws_FnWindSets.j0 k l0 l1 (decide (bt307.1 > t298))) else (laws_FnWindSets.j0 k l0 l1 false))) else (laws_FnWindSets.j0 k l0 l1 true)) else (laws_FnWindSets.j0 k l0 l1 true))) else (laws_FnWindSets.j0 k l0 l1 true))) else (laws_FnWindSets.j0 k l0 l1 true)) else (laws_FnWindSets.j0 k l0 l1 true)) else (laws_FnWindSets.j0 k l0 l1 true))))) = some r := H
    have A8 := Aside0.mk A80
    clear A80
    replace H := Option.bind_eq_some_iff.mp H
    obtain ⟨⟨t302, t303⟩, A90, H⟩ := H
    replace H : ((spec_A2Some.f k l1 (t292.length : Int)).bind fun t304 => ((spec_TotalForce.f k t292 t304 t295).bind fun bt307 => (if t299 = 0 then (if t303 = 0 then (if t302 = t298 then ((laws_a2Rises.f k t297 (t292.length : Int)).bind fun t309 => (if t309 = true then ((laws_a2Stands.f k t292 t297 t295 (wrap64 (20000 * t296))).bind fun t310 => (if t310 = true then (if bt307.2 = 0 then ((laws_a2Stands.f k t292 t304 t295 (wrap64 (20000 * t296))).bind fun t311 => (if t311 = true then (laws_FnWindSets.j0 k l0 l1 (decide (bt307.1 > t298))) else (laws_FnWindSets.j0 k l0 l1 false))) else (laws_FnWindSets.j0 k l0 l1 true)) else (laws_FnWindSets.j0 k l0 l1 true))) else (laws_FnWindSets.j0 k l0 l1 true))) else (laws_FnWindSets.j0 k l0 l1 true)) else (laws_FnWindSets.j0 k l0 l1 true)) else (laws_FnWindSets.j0 k l0 l1 true)))) = some r := H
    have A9 := Aside0.mk A90
    clear A90
    replace H := Option.bind_eq_some_iff.mp H
    obtain ⟨t304, A100, H⟩ := H
    replace H : ((spec_TotalForce.f k t292 t304 t295).bind fun bt307 => (if t299 = 0 then (if t303 = 0 then (if t302 = t298 then ((laws_a2Rises.f k t297 (t292.length : Int)).bind fun t309 => (if t309 = true then ((laws_a2Stands.f k t292 t297 t295 (wrap64 (20000 * t296))).bind fun t310 => (if t310 = true then (if bt307.2 = 0 then ((laws_a2Stands.f k t292 t304 t295 (wrap64 (20000 * t296))).bind fun t311 => (if t311 = true then (laws_FnWindSets.j0 k l0 l1 (decide (bt307.1 > t298))) else (laws_FnWindSets.j0 k l0 l1 false))) else (laws_FnWindSets.j0 k l0 l1 true)) else (laws_FnWindSets.j0 k l0 l1 true))) else (laws_FnWindSets.j0 k l0 l1 true))) else (laws_FnWindSets.j0 k l0 l1 true)) else (laws_FnWindSets.j0 k l0 l1 true)) else (laws_FnWindSets.j0 k l0 l1 true))) = some r := H
    have A10 := Aside0.mk A100
    clear A100
    replace H := Option.bind_eq_some_iff.mp H
    obtain ⟨⟨t307, t308⟩, A110, H⟩ := H
    replace H : (if t299 = 0 then (if t303 = 0 then (if t302 = t298 then ((laws_a2Rises.f k t297 (t292.length : Int)).bind fun t309 => (if t309 = true then ((laws_a2Stands.f k t292 t297 t295 (wrap64 (20000 * t296))).bind fun t310 => (if t310 = true then (if t308 = 0 then ((laws_a2Stands.f k t292 t304 t295 (wrap64 (20000 * t296))).bind fun t311 => (if t311 = true then (laws_FnWindSets.j0 k l0 l1 (decide (t307 > t298))) else (laws_FnWindSets.j0 k l0 l1 false))) else (laws_FnWindSets.j0 k l0 l1 true)) else (laws_FnWindSets.j0 k l0 l1 true))) else (laws_FnWindSets.j0 k l0 l1 true))) else (laws_FnWindSets.j0 k l0 l1 true)) else (laws_FnWindSets.j0 k l0 l1 true)) else (laws_FnWindSets.j0 k l0 l1 true)) = some r := H
    have A11 := Aside0.mk A110
    clear A110
    have HC12 := Aside0.mk H
    clear H
    go_enter Try.func11, Try.ntmps11
    go_upto_region 10 with (first | ((with_reducible refine gate_callee (f := 26) rfl ?_); refine goesL_ (some 29) rfl rfl Try.func26 (by kernel_rfl) rfl #[.slice A0 l0.length c0, .slice A1 l1.length c1] rfl (by (try simp only [List.map_toArray, List.map_cons, List.map_nil]); first | done | rfl | (simp only [List.length_drop, List.length_take]; rfl)) ?_; (with_reducible refine (laws_a2Long.calls _ _ l0 _ _ l1 false _ ?side1 ?side2 ?side3 ?side4 A3.out).mono ?_); (case side1 => repeat (first | exact HR0.out | (with_reducible refine Kd.C_alloc ?_ _) | (with_reducible refine Kd.C_drewN ?_ _) | (with_reducible refine Kd.C_drew ?_))); (case side2 => exact HC0.out); (case side3 => repeat (first | exact HR1.out | (with_reducible refine Kd.C_alloc ?_ _) | (with_reducible refine Kd.C_drewN ?_ _) | (with_reducible refine Kd.C_drew ?_))); (case side4 => exact HC1.out); rintro e w' ⟨rfl, ⟨nd, rfl⟩⟩; refine ⟨_, rfl, ?_⟩) | ((with_reducible refine gate_callee (f := 27) rfl ?_); refine goesL_ (some 31) rfl rfl Try.func27 (by kernel_rfl) rfl #[.slice A0 l0.length c0] rfl (by (try simp only [List.map_toArray, List.map_cons, List.map_nil]); first | done | rfl | (simp only [List.length_drop, List.length_take]; rfl)) ?_; (with_reducible refine (spec_A2Canvas.calls k _ _ l0 t292 _ ?side1 ?side2 A5.out).mono ?_); (case side1 => repeat (first | exact HR0.out | (with_reducible refine Kd.C_alloc ?_ _) | (with_reducible refine Kd.C_drewN ?_ _) | (with_reducible refine Kd.C_drew ?_))); (case side2 => exact HC0.out); rintro e w13 ⟨v293, rfl, ho0, hb⟩; refine ⟨_, rfl, ?_⟩; have n0_ := Aside0.mk (Kd.R_lower ho0 (below_size (by repeat (first | (with_reducible first | exact HB.out | apply below_alloc | apply pw_below_drewN | apply below_drew1) | exact HB.out)))); have n1_ := Aside0.mk (below_step (by repeat (first | (with_reducible first | exact HB.out | apply below_alloc | apply pw_below_drewN | apply below_drew1) | exact HB.out)) hb); clear HB; have HO294 := n0_; have HB := n1_; clear n0_ n1_; (try clear hb); (try clear hb2); (try clear hk); (try clear hi); (try clear ho0)) | ((with_reducible refine gate_callee (f := 29) rfl ?_); refine goesL_ (some 33) rfl rfl Try.func29 (by kernel_rfl) rfl #[.slice A1 l1.length c1, .int .i64 0, .int .i64 250] rfl (by (try simp only [List.map_toArray, List.map_cons, List.map_nil]); first | done | rfl | (simp only [List.length_drop, List.length_take]; rfl)) ?_; (with_reducible refine (laws_a2At.calls _ _ l1 0 250 t295 _ ?side1 ?side2 A6.out).mono ?_); (case side1 => repeat (first | exact (Kd.C_below HR1.out HB.out) | (with_reducible refine Kd.C_alloc ?_ _) | (with_reducible refine Kd.C_drewN ?_ _) | (with_reducible refine Kd.C_drew ?_))); (case side2 => exact HC1.out); rintro e w' ⟨rfl, ⟨nd, rfl⟩⟩; refine ⟨_, rfl, ?_⟩) | ((with_reducible refine gate_callee (f := 29) rfl ?_); refine goesL_ (some 35) rfl rfl Try.func29 (by kernel_rfl) rfl #[.slice A1 l1.length c1, .int .i64 1, .int .i64 250] rfl (by (try simp only [List.map_toArray, List.map_cons, List.map_nil]); first | done | rfl | (simp only [List.length_drop, List.length_take]; rfl)) ?_; (with_reducible refine (laws_a2At.calls _ _ l1 1 250 t296 _ ?side1 ?side2 A7.out).mono ?_); (case side1 => repeat (first | exact (Kd.C_below HR1.out (by repeat (first | (with_reducible first | exact HB.out | apply below_alloc | apply pw_below_drewN | apply below_drew1) | exact HB.out))) | (with_reducible refine Kd.C_alloc ?_ _) | (with_reducible refine Kd.C_drewN ?_ _) | (with_reducible refine Kd.C_drew ?_))); (case side2 => exact HC1.out); rintro e w' ⟨rfl, ⟨nd, rfl⟩⟩; refine ⟨_, rfl, ?_⟩; obtain ⟨Ao14, co14, eo14⟩ := Kd.R_slice HO294.out; subst eo14) | ((with_reducible refine gate_callee (f := 39) rfl ?_); refine goesL_ (some 41) rfl rfl Try.func39 (by kernel_rfl) rfl #[.slice Ao14 t292.length co14, .int .i64 t295, .int .i64 (wrap64 (20000 * t296))] rfl (by (try simp only [List.map_toArray, List.map_cons, List.map_nil]); first | done | rfl | (simp only [List.length_drop, List.length_take]; rfl)) ?_; (with_reducible refine (impl_BestSet.calls k _ _ t292 t295 (wrap64 (20000 * t296)) t297 t298 t299 _ ?side1 ?side2 A8.out).mono ?_); (case side1 => repeat (first | exact (Kd.R_reads' HO294.out).2.2 | (with_reducible refine Kd.C_alloc ?_ _) | (with_reducible refine Kd.C_drewN ?_ _) | (with_reducible refine Kd.C_drew ?_))); (case side2 => exact (Kd.R_reads' HO294.out).2.1); rintro e w15 ⟨v300, rfl, ho0, hb⟩; refine ⟨_, rfl, ?_⟩; have n0_ := Aside0.mk (Kd.R_below (by (with_reducible repeat (first | apply Kd.R_alloc | apply Kd.R_drewN | apply Kd.R_drew)); exact HO294.out) hb); have n1_ := Aside0.mk (Kd.R_lower ho0 (below_size (by repeat (first | (with_reducible first | exact HB.out | apply below_alloc | apply pw_below_drewN | apply below_drew1) | exact HB.out)))); have n2_ := Aside0.mk (below_step (by repeat (first | (with_reducible first | exact HB.out | apply below_alloc | apply pw_below_drewN | apply below_drew1) | exact HB.out)) hb); clear HO294; clear HB; have HO294 := n0_; have HO301 := n1_; have HB := n2_; clear n0_ n1_ n2_; (try clear hb); (try clear hb2); (try clear hk); (try clear hi); (try clear ho0); obtain ⟨Ao16, co16, eo16⟩ := Kd.R_slice HO301.out; subst eo16) | ((with_reducible refine gate_callee (f := 30) rfl ?_); refine goesL_ (some 49) rfl rfl Try.func30 (by kernel_rfl) rfl #[.slice Ao14 t292.length co14, .slice Ao16 t297.length co16, .int .i64 t295] rfl (by (try simp only [List.map_toArray, List.map_cons, List.map_nil]); first | done | rfl | (simp only [List.length_drop, List.length_take]; rfl)) ?_; (with_reducible refine (impl_TotalForce.calls k _ _ t292 _ _ t297 t295 t302 t303 _ ?side1 ?side2 ?side3 ?side4 A9.out).mono ?_); (case side1 => repeat (first | exact (Kd.R_reads' HO294.out).2.2 | (with_reducible refine Kd.C_alloc ?_ _) | (with_reducible refine Kd.C_drewN ?_ _) | (with_reducible refine Kd.C_drew ?_))); (case side2 => exact (Kd.R_reads' HO294.out).2.1); (case side3 => repeat (first | exact (Kd.R_reads' HO301.out).2.2 | (with_reducible refine Kd.C_alloc ?_ _) | (with_reducible refine Kd.C_drewN ?_ _) | (with_reducible refine Kd.C_drew ?_))); (case side4 => exact (Kd.R_reads' HO301.out).2.1); rintro e w17 ⟨rfl, hb⟩; refine ⟨_, rfl, ?_⟩; have n0_ := Aside0.mk (Kd.R_below (by (with_reducible repeat (first | apply Kd.R_alloc | apply Kd.R_drewN | apply Kd.R_drew)); exact HO294.out) hb); have n1_ := Aside0.mk (Kd.R_below (by (with_reducible repeat (first | apply Kd.R_alloc | apply Kd.R_drewN | apply Kd.R_drew)); exact HO301.out) hb); have n2_ := Aside0.mk (below_step (by repeat (first | (with_reducible first | exact HB.out | apply below_alloc | apply pw_below_drewN | apply below_drew1) | exact HB.out)) hb); clear HO294; clear HO301; clear HB; have HO294 := n0_; have HO301 := n1_; have HB := n2_; clear n0_ n1_ n2_; (try clear hb); (try clear hb2); (try clear hk); (try clear hi)) | ((with_reducible refine gate_callee (f := 28) rfl ?_); refine goesL_ (some 55) rfl rfl Try.func28 (by kernel_rfl) rfl #[.slice A1 l1.length c1, .int .i64 (t292.length : Int)] rfl (by (try simp only [List.map_toArray, List.map_cons, List.map_nil]); first | done | rfl | (simp only [List.length_drop, List.length_take]; rfl)) ?_; (with_reducible refine (spec_A2Some.calls k _ _ l1 (t292.length : Int) t304 _ ?side1 ?side2 A10.out).mono ?_); (case side1 => repeat (first | exact (Kd.C_below HR1.out HB.out) | (with_reducible refine Kd.C_alloc ?_ _) | (with_reducible refine Kd.C_drewN ?_ _) | (with_reducible refine Kd.C_drew ?_))); (case side2 => exact HC1.out); rintro e w18 ⟨v305, rfl, ho0, hb⟩; refine ⟨_, rfl, ?_⟩; have n0_ := Aside0.mk (Kd.R_below (by (with_reducible repeat (first | apply Kd.R_alloc | apply Kd.R_drewN | apply Kd.R_drew)); exact HO294.out) hb); have n1_ := Aside0.mk (Kd.R_elder' (by (with_reducible repeat (first | apply Kd.R_alloc | apply Kd.R_drewN | apply Kd.R_drew)); exact HO301.out) (Kd.R_base ho0) hb); have n2_ := Aside0.mk (Kd.R_lower (Kd.R_new' ho0 (Kd.R_lt (by (with_reducible repeat (first | apply Kd.R_alloc | apply Kd.R_drewN | apply Kd.R_drew)); exact HO301.out))) (below_size (by repeat (first | (with_reducible first | exact HB.out | apply below_alloc | apply pw_below_drewN | apply below_drew1) | exact HB.out)))); have n3_ := Aside0.mk (below_step (by repeat (first | (with_reducible first | exact HB.out | apply below_alloc | apply pw_below_drewN | apply below_drew1) | exact HB.out)) hb); clear HO294; clear HO301; clear HB; have HO294 := n0_; have HO301 := n1_; have HO306 := n2_; have HB := n3_; clear n0_ n1_ n2_ n3_; (try clear hb); (try clear hb2); (try clear hk); (try clear hi); (try clear ho0); obtain ⟨Ao19, co19, eo19⟩ := Kd.R_slice HO306.out; subst eo19) | ((with_reducible refine gate_callee (f := 36) rfl ?_); refine goesL_ (some 60) rfl rfl Try.func36 (by kernel_rfl) rfl #[.slice Ao14 t292.length co14, .slice Ao19 t304.length co19, .int .i64 t295] rfl (by (try simp only [List.map_toArray, List.map_cons, List.map_nil]); first | done | rfl | (simp only [List.length_drop, List.length_take]; rfl)) ?_; (with_reducible refine (spec_TotalForce.calls k _ _ t292 _ _ t304 t295 t307 t308 _ ?side1 ?side2 ?side3 ?side4 A11.out).mono ?_); (case side1 => repeat (first | exact (Kd.R_reads' HO294.out).2.2 | (with_reducible refine Kd.C_alloc ?_ _) | (with_reducible refine Kd.C_drewN ?_ _) | (with_reducible refine Kd.C_drew ?_))); (case side2 => exact (Kd.R_reads' HO294.out).2.1); (case side3 => repeat (first | exact (Kd.R_reads' HO306.out).2.2 | (with_reducible refine Kd.C_alloc ?_ _) | (with_reducible refine Kd.C_drewN ?_ _) | (with_reducible refine Kd.C_drew ?_))); (case side4 => exact (Kd.R_reads' HO306.out).2.1); rintro e w20 ⟨rfl, hb⟩; refine ⟨_, rfl, ?_⟩; have n0_ := Aside0.mk (Kd.R_below (by (with_reducible repeat (first | apply Kd.R_alloc | apply Kd.R_drewN | apply Kd.R_drew)); exact HO294.out) hb); have n1_ := Aside0.mk (Kd.R_below (by (with_reducible repeat (first | apply Kd.R_alloc | apply Kd.R_drewN | apply Kd.R_drew)); exact HO301.out) hb); have n2_ := Aside0.mk (Kd.R_below (by (with_reducible repeat (first | apply Kd.R_alloc | apply Kd.R_drewN | apply Kd.R_drew)); exact HO306.out) hb); have n3_ := Aside0.mk (below_step (by repeat (first | (with_reducible first | exact HB.out | apply below_alloc | apply pw_below_drewN | apply below_drew1) | exact HB.out)) hb); clear HO294; clear HO301; clear HO306; clear HB; have HO294 := n0_; have HO301 := n1_; have HO306 := n2_; have HB := n3_; clear n0_ n1_ n2_ n3_; (try clear hb); (try clear hb2); (try clear hk); (try clear hi)))
    (try simp only [Act.put, List.setIfInBounds_toArray, List.set_cons_zero, List.set_cons_succ])
    go_cut [104] (fun v104 wc => ∃ (kq : Nat) (x104_11 : Bool), v104 = .bool x104_11 ∧ Aside0 (laws_FnWindSets.j0 kq l0 l1 x104_11 = some r) ∧ Aside0 (kq ≤ k) ∧ Aside0 (Below w.heap.size w wc))
    case first =>
      have H := HC12.out
      clear HC12
      by_cases c21 : t299 = 0
      · rw [if_pos c21] at H
        have c21b0 : (t299 == 0) = true := beq_iff_eq.mpr c21
        have c21b1 : (t299 != 0) = false := bne_eq_false_iff_eq.mpr c21
        clear c21
        (first | rw [c21b0] | (simp only [i64_w, i32_w]; rw [c21b0]) | skip)
        by_cases c22 : t303 = 0
        · rw [if_pos c22] at H
          have c22b0 : (t303 == 0) = true := beq_iff_eq.mpr c22
          have c22b1 : (t303 != 0) = false := bne_eq_false_iff_eq.mpr c22
          clear c22
          by_cases c23 : t302 = t298
          · rw [if_pos c23] at H
            have c23b0 : (t302 == t298) = true := beq_iff_eq.mpr c23
            have c23b1 : (t302 != t298) = false := bne_eq_false_iff_eq.mpr c23
            clear c23
            replace H := Option.bind_eq_some_iff.mp H
            obtain ⟨t309, A240, H⟩ := H
            replace H : (if t309 = true then ((laws_a2Stands.f k t292 t297 t295 (wrap64 (20000 * t296))).bind fun t310 => (if t310 = true then (if t308 = 0 then ((laws_a2Stands.f k t292 t304 t295 (wrap64 (20000 * t296))).bind fun t311 => (if t311 = true then (laws_FnWindSets.j0 k l0 l1 (decide (t307 > t298))) else (laws_FnWindSets.j0 k l0 l1 false))) else (laws_FnWindSets.j0 k l0 l1 true)) else (laws_FnWindSets.j0 k l0 l1 true))) else (laws_FnWindSets.j0 k l0 l1 true)) = some r := H
            have A24 := Aside0.mk A240
            clear A240
            by_cases c25 : t309 = true
            · subst c25
              have H1 : ((laws_a2Stands.f k t292 t297 t295 (wrap64 (20000 * t296))).bind fun t310 => (if t310 = true then (if t308 = 0 then ((laws_a2Stands.f k t292 t304 t295 (wrap64 (20000 * t296))).bind fun t311 => (if t311 = true then (laws_FnWindSets.j0 k l0 l1 (decide (t307 > t298))) else (laws_FnWindSets.j0 k l0 l1 false))) else (laws_FnWindSets.j0 k l0 l1 true)) else (laws_FnWindSets.j0 k l0 l1 true))) = some r := by rw [if_pos rfl] at H; exact H
              clear H
              have H := H1
              clear H1
              replace H := Option.bind_eq_some_iff.mp H
              obtain ⟨t310, A260, H⟩ := H
              replace H : (if t310 = true then (if t308 = 0 then ((laws_a2Stands.f k t292 t304 t295 (wrap64 (20000 * t296))).bind fun t311 => (if t311 = true then (laws_FnWindSets.j0 k l0 l1 (decide (t307 > t298))) else (laws_FnWindSets.j0 k l0 l1 false))) else (laws_FnWindSets.j0 k l0 l1 true)) else (laws_FnWindSets.j0 k l0 l1 true)) = some r := H
              have A26 := Aside0.mk A260
              clear A260
              by_cases c27 : t310 = true
              · subst c27
                have H1 : (if t308 = 0 then ((laws_a2Stands.f k t292 t304 t295 (wrap64 (20000 * t296))).bind fun t311 => (if t311 = true then (laws_FnWindSets.j0 k l0 l1 (decide (t307 > t298))) else (laws_FnWindSets.j0 k l0 l1 false))) else (laws_FnWindSets.j0 k l0 l1 true)) = some r := by rw [if_pos rfl] at H; exact H
                clear H
                have H := H1
                clear H1
                by_cases c28 : t308 = 0
                · rw [if_pos c28] at H
                  have c28b0 : (t308 == 0) = true := beq_iff_eq.mpr c28
                  have c28b1 : (t308 != 0) = false := bne_eq_false_iff_eq.mpr c28
                  clear c28
                  replace H := Option.bind_eq_some_iff.mp H
                  obtain ⟨t311, A290, H⟩ := H
                  replace H : (if t311 = true then (laws_FnWindSets.j0 k l0 l1 (decide (t307 > t298))) else (laws_FnWindSets.j0 k l0 l1 false)) = some r := H
                  have A29 := Aside0.mk A290
                  clear A290
                  by_cases c30 : t311 = true
                  · subst c30
                    have H1 : (laws_FnWindSets.j0 k l0 l1 (decide (t307 > t298))) = some r := by rw [if_pos rfl] at H; exact H
                    clear H
                    have H := H1
                    clear H1
                    have H' := Aside0.mk H
                    clear H
                    go_wp2_with (first | (go_at_call 43; (with_reducible refine (laws_a2Rises.calls k _ _ t297 (t292.length : Int) true _ ?side1 ?side2 A24.out).mono ?_); (case side1 => repeat (first | exact (Kd.R_reads' HO301.out).2.2 | (with_reducible refine Kd.C_alloc ?_ _) | (with_reducible refine Kd.C_drewN ?_ _) | (with_reducible refine Kd.C_drew ?_))); (case side2 => exact (Kd.R_reads' HO301.out).2.1); rintro e w' ⟨rfl, ⟨nd, rfl⟩⟩) | (go_at_call 34; (with_reducible refine (laws_a2Stands.calls k _ _ t292 _ _ t297 t295 (wrap64 (20000 * t296)) true _ ?side1 ?side2 ?side3 ?side4 A26.out).mono ?_); (case side1 => repeat (first | exact (Kd.R_reads' HO294.out).2.2 | (with_reducible refine Kd.C_alloc ?_ _) | (with_reducible refine Kd.C_drewN ?_ _) | (with_reducible refine Kd.C_drew ?_))); (case side2 => exact (Kd.R_reads' HO294.out).2.1); (case side3 => repeat (first | exact (Kd.R_reads' HO301.out).2.2 | (with_reducible refine Kd.C_alloc ?_ _) | (with_reducible refine Kd.C_drewN ?_ _) | (with_reducible refine Kd.C_drew ?_))); (case side4 => exact (Kd.R_reads' HO301.out).2.1); rintro e w31 ⟨rfl, hb⟩; have n0_ := Aside0.mk (Kd.R_below (by (with_reducible repeat (first | apply Kd.R_alloc | apply Kd.R_drewN | apply Kd.R_drew)); exact HO294.out) hb); have n1_ := Aside0.mk (Kd.R_below (by (with_reducible repeat (first | apply Kd.R_alloc | apply Kd.R_drewN | apply Kd.R_drew)); exact HO301.out) hb); have n2_ := Aside0.mk (Kd.R_below (by (with_reducible repeat (first | apply Kd.R_alloc | apply Kd.R_drewN | apply Kd.R_drew)); exact HO306.out) hb); have n3_ := Aside0.mk (below_step (by repeat (first | (with_reducible first | exact HB.out | apply below_alloc | apply pw_below_drewN | apply below_drew1) | exact HB.out)) hb); clear HO294; clear HO301; clear HO306; clear HB; have HO294 := n0_; have HO301 := n1_; have HO306 := n2_; have HB := n3_; clear n0_ n1_ n2_ n3_; (try clear hb); (try clear hb2); (try clear hk); (try clear hi)) | (go_at_call 34; (with_reducible refine (laws_a2Stands.calls k _ _ t292 _ _ t304 t295 (wrap64 (20000 * t296)) true _ ?side1 ?side2 ?side3 ?side4 A29.out).mono ?_); (case side1 => repeat (first | exact (Kd.R_reads' HO294.out).2.2 | (with_reducible refine Kd.C_alloc ?_ _) | (with_reducible refine Kd.C_drewN ?_ _) | (with_reducible refine Kd.C_drew ?_))); (case side2 => exact (Kd.R_reads' HO294.out).2.1); (case side3 => repeat (first | exact (Kd.R_reads' HO306.out).2.2 | (with_reducible refine Kd.C_alloc ?_ _) | (with_reducible refine Kd.C_drewN ?_ _) | (with_reducible refine Kd.C_drew ?_))); (case side4 => exact (Kd.R_reads' HO306.out).2.1); rintro e w32 ⟨rfl, hb⟩; have n0_ := Aside0.mk (Kd.R_below (by (with_reducible repeat (first | apply Kd.R_alloc | apply Kd.R_drewN | apply Kd.R_drew)); exact HO294.out) hb); have n1_ := Aside0.mk (Kd.R_below (by (with_reducible repeat (first | apply Kd.R_alloc | apply Kd.R_drewN | apply Kd.R_drew)); exact HO301.out) hb); have n2_ := Aside0.mk (Kd.R_below (by (with_reducible repeat (first | apply Kd.R_alloc | apply Kd.R_drewN | apply Kd.R_drew)); exact HO306.out) hb); have n3_ := Aside0.mk (below_step (by repeat (first | (with_reducible first | exact HB.out | apply below_alloc | apply pw_below_drewN | apply below_drew1) | exact HB.out)) hb); clear HO294; clear HO301; clear HO306; clear HB; have HO294 := n0_; have HO301 := n1_; have HO306 := n2_; have HB := n3_; clear n0_ n1_ n2_ n3_; (try clear hb); (try clear hb2); (try clear hk); (try clear hi)))
                    go_meet
                    case rel => exact ⟨_, (decide (t307 > t298)), (by first | rfl | (simp; done) | (simp [*]; done)), H', ⟨by first | omega | exact Nat.le_refl _⟩, ⟨by repeat (first | (with_reducible first | exact HB.out | apply below_alloc | apply pw_below_drewN | apply below_drew1) | exact HB.out)⟩⟩
                  · replace c30 := Bool.eq_false_iff.mpr c30
                    subst c30
                    have H1 : (laws_FnWindSets.j0 k l0 l1 false) = some r := by rw [if_neg (show ¬ (false = true) by decide)] at H; exact H
                    clear H
                    have H := H1
                    clear H1
                    have H' := Aside0.mk H
                    clear H
                    go_wp2_with (first | (go_at_call 43; (with_reducible refine (laws_a2Rises.calls k _ _ t297 (t292.length : Int) true _ ?side1 ?side2 A24.out).mono ?_); (case side1 => repeat (first | exact (Kd.R_reads' HO301.out).2.2 | (with_reducible refine Kd.C_alloc ?_ _) | (with_reducible refine Kd.C_drewN ?_ _) | (with_reducible refine Kd.C_drew ?_))); (case side2 => exact (Kd.R_reads' HO301.out).2.1); rintro e w' ⟨rfl, ⟨nd, rfl⟩⟩) | (go_at_call 34; (with_reducible refine (laws_a2Stands.calls k _ _ t292 _ _ t297 t295 (wrap64 (20000 * t296)) true _ ?side1 ?side2 ?side3 ?side4 A26.out).mono ?_); (case side1 => repeat (first | exact (Kd.R_reads' HO294.out).2.2 | (with_reducible refine Kd.C_alloc ?_ _) | (with_reducible refine Kd.C_drewN ?_ _) | (with_reducible refine Kd.C_drew ?_))); (case side2 => exact (Kd.R_reads' HO294.out).2.1); (case side3 => repeat (first | exact (Kd.R_reads' HO301.out).2.2 | (with_reducible refine Kd.C_alloc ?_ _) | (with_reducible refine Kd.C_drewN ?_ _) | (with_reducible refine Kd.C_drew ?_))); (case side4 => exact (Kd.R_reads' HO301.out).2.1); rintro e w33 ⟨rfl, hb⟩; have n0_ := Aside0.mk (Kd.R_below (by (with_reducible repeat (first | apply Kd.R_alloc | apply Kd.R_drewN | apply Kd.R_drew)); exact HO294.out) hb); have n1_ := Aside0.mk (Kd.R_below (by (with_reducible repeat (first | apply Kd.R_alloc | apply Kd.R_drewN | apply Kd.R_drew)); exact HO301.out) hb); have n2_ := Aside0.mk (Kd.R_below (by (with_reducible repeat (first | apply Kd.R_alloc | apply Kd.R_drewN | apply Kd.R_drew)); exact HO306.out) hb); have n3_ := Aside0.mk (below_step (by repeat (first | (with_reducible first | exact HB.out | apply below_alloc | apply pw_below_drewN | apply below_drew1) | exact HB.out)) hb); clear HO294; clear HO301; clear HO306; clear HB; have HO294 := n0_; have HO301 := n1_; have HO306 := n2_; have HB := n3_; clear n0_ n1_ n2_ n3_; (try clear hb); (try clear hb2); (try clear hk); (try clear hi)) | (go_at_call 34; (with_reducible refine (laws_a2Stands.calls k _ _ t292 _ _ t304 t295 (wrap64 (20000 * t296)) false _ ?side1 ?side2 ?side3 ?side4 A29.out).mono ?_); (case side1 => repeat (first | exact (Kd.R_reads' HO294.out).2.2 | (with_reducible refine Kd.C_alloc ?_ _) | (with_reducible refine Kd.C_drewN ?_ _) | (with_reducible refine Kd.C_drew ?_))); (case side2 => exact (Kd.R_reads' HO294.out).2.1); (case side3 => repeat (first | exact (Kd.R_reads' HO306.out).2.2 | (with_reducible refine Kd.C_alloc ?_ _) | (with_reducible refine Kd.C_drewN ?_ _) | (with_reducible refine Kd.C_drew ?_))); (case side4 => exact (Kd.R_reads' HO306.out).2.1); rintro e w34 ⟨rfl, hb⟩; have n0_ := Aside0.mk (Kd.R_below (by (with_reducible repeat (first | apply Kd.R_alloc | apply Kd.R_drewN | apply Kd.R_drew)); exact HO294.out) hb); have n1_ := Aside0.mk (Kd.R_below (by (with_reducible repeat (first | apply Kd.R_alloc | apply Kd.R_drewN | apply Kd.R_drew)); exact HO301.out) hb); have n2_ := Aside0.mk (Kd.R_below (by (with_reducible repeat (first | apply Kd.R_alloc | apply Kd.R_drewN | apply Kd.R_drew)); exact HO306.out) hb); have n3_ := Aside0.mk (below_step (by repeat (first | (with_reducible first | exact HB.out | apply below_alloc | apply pw_below_drewN | apply below_drew1) | exact HB.out)) hb); clear HO294; clear HO301; clear HO306; clear HB; have HO294 := n0_; have HO301 := n1_; have HO306 := n2_; have HB := n3_; clear n0_ n1_ n2_ n3_; (try clear hb); (try clear hb2); (try clear hk); (try clear hi)))
                    go_meet
                    case rel => exact ⟨_, (false), (by first | rfl | (simp; done) | (simp [*]; done)), H', ⟨by first | omega | exact Nat.le_refl _⟩, ⟨by repeat (first | (with_reducible first | exact HB.out | apply below_alloc | apply pw_below_drewN | apply below_drew1) | exact HB.out)⟩⟩
                · rw [if_neg c28] at H
                  have c28b0 : (t308 == 0) = false := beq_eq_false_iff_ne.mpr c28
                  have c28b1 : (t308 != 0) = true := bne_iff_ne.mpr c28
                  exact (laws_FnWindSets.j0_cut _ _ _ _ H HRT.out).elim
              · replace c27 := Bool.eq_false_iff.mpr c27
                subst c27
                have H1 : (laws_FnWindSets.j0 k l0 l1 true) = some r := by rw [if_neg (show ¬ (false = true) by decide)] at H; exact H
                clear H
                have H := H1
                clear H1
                exact (laws_FnWindSets.j0_cut _ _ _ _ H HRT.out).elim
            · replace c25 := Bool.eq_false_iff.mpr c25
              subst c25
              have H1 : (laws_FnWindSets.j0 k l0 l1 true) = some r := by rw [if_neg (show ¬ (false = true) by decide)] at H; exact H
              clear H
              have H := H1
              clear H1
              exact (laws_FnWindSets.j0_cut _ _ _ _ H HRT.out).elim
          · rw [if_neg c23] at H
            have c23b0 : (t302 == t298) = false := beq_eq_false_iff_ne.mpr c23
            have c23b1 : (t302 != t298) = true := bne_iff_ne.mpr c23
            exact (laws_FnWindSets.j0_cut _ _ _ _ H HRT.out).elim
        · rw [if_neg c22] at H
          have c22b0 : (t303 == 0) = false := beq_eq_false_iff_ne.mpr c22
          have c22b1 : (t303 != 0) = true := bne_iff_ne.mpr c22
          exact (laws_FnWindSets.j0_cut _ _ _ _ H HRT.out).elim
      · rw [if_neg c21] at H
        have c21b0 : (t299 == 0) = false := beq_eq_false_iff_ne.mpr c21
        have c21b1 : (t299 != 0) = true := bne_iff_ne.mpr c21
        (first | rw [c21b0] | (simp only [i64_w, i32_w]; rw [c21b0]) | skip)
        exact (laws_FnWindSets.j0_cut _ _ _ _ H HRT.out).elim
    case rest =>
      clear HC12
      try clear c1
      try clear c2
      try clear p2
      try clear c3
      try clear c4
      try clear p6
      try clear c11
      try clear c21
      try clear c21b0
      try clear c21b1
      try clear c22
      try clear c22b0
      try clear c22b1
      try clear c23
      try clear c23b0
      try clear c23b1
      try clear c25
      try clear c26
      try clear c27
      try clear c28
      try clear c28b0
      try clear c28b1
      try clear c29
      try clear c30
      try clear c36
      obtain ⟨kq, x104_11, rfl, HA, HJ11, HB⟩ := hcut
      cases kq with
      | zero => exact absurd HA.out (by simp [laws_FnWindSets.j0])
      | succ kj11 =>
        have H := HA.out
        clear HA
        simp only [laws_FnWindSets.j0] at H
        by_cases c37 : x104_11 = true
        · subst c37
          have H1 : (some false) = some r := by rw [if_pos rfl] at H; exact H
          clear H
          have H := H1
          clear H1
          obtain rfl := Option.some.inj H
          exact absurd HRT.out (by decide)
        · replace c37 := Bool.eq_false_iff.mpr c37
          subst c37
          have H1 : ((spec_A2Blows.f kj11 l0).bind fun t312 => ((laws_a2At.f l1 2 60).bind fun t315 => (if t312.length < 17592186044416 then ((some (t312 ++ [t315] : List Int)).bind fun y316 => ((laws_a2At.f l1 3 150).bind fun t319 => ((impl_LullsOf.f kj11 y316 t319).bind fun bt320 => (laws_FnWindSets.l0 kj11 y316 t319 bt320.1 bt320.2.1 bt320.2.2 0 0 0 0)))) else (none)))) = some r := by rw [if_neg (show ¬ (false = true) by decide)] at H; exact H
          clear H
          have H := H1
          clear H1
          replace H := Option.bind_eq_some_iff.mp H
          obtain ⟨t312, A380, H⟩ := H
          replace H : ((laws_a2At.f l1 2 60).bind fun t315 => (if t312.length < 17592186044416 then ((some (t312 ++ [t315] : List Int)).bind fun y316 => ((laws_a2At.f l1 3 150).bind fun t319 => ((impl_LullsOf.f kj11 y316 t319).bind fun bt320 => (laws_FnWindSets.l0 kj11 y316 t319 bt320.1 bt320.2.1 bt320.2.2 0 0 0 0)))) else (none))) = some r := H
          have A38 := Aside0.mk A380
          clear A380
          replace H := Option.bind_eq_some_iff.mp H
          obtain ⟨t315, A390, H⟩ := H
          replace H : (if t312.length < 17592186044416 then ((some (t312 ++ [t315] : List Int)).bind fun y316 => ((laws_a2At.f l1 3 150).bind fun t319 => ((impl_LullsOf.f kj11 y316 t319).bind fun bt320 => (laws_FnWindSets.l0 kj11 y316 t319 bt320.1 bt320.2.1 bt320.2.2 0 0 0 0)))) else (none)) = some r := H
          have A39 := Aside0.mk A390
          clear A390
          by_cases c40 : t312.length < 17592186044416
          · rw [if_pos c40] at H
            have LMc40 := Aside0.mk c40
            clear c40
            obtain ⟨y316, hy316⟩ : ∃ y_ : List Int, y_ = (t312 ++ [t315]) := ⟨_, rfl⟩
            replace H : ((laws_a2At.f l1 3 150).bind fun t319 => ((impl_LullsOf.f kj11 y316 t319).bind fun bt320 => (laws_FnWindSets.l0 kj11 y316 t319 bt320.1 bt320.2.1 bt320.2.2 0 0 0 0))) = some r := by first | (rw [hy316]; with_reducible exact H) | (have H2_ := (Option.bind_some _ _).symm.trans H; rw [hy316]; with_reducible exact H2_) | (have H2_ := (Option.bind_some _ _).symm.trans H; with_reducible exact H2_) | with_reducible exact H | (rw [hy316]; exact H) | exact H
            have Ny316 := Aside0.mk hy316
            clear hy316
            replace H := Option.bind_eq_some_iff.mp H
            obtain ⟨t319, A410, H⟩ := H
            replace H : ((impl_LullsOf.f kj11 y316 t319).bind fun bt320 => (laws_FnWindSets.l0 kj11 y316 t319 bt320.1 bt320.2.1 bt320.2.2 0 0 0 0)) = some r := H
            have A41 := Aside0.mk A410
            clear A410
            replace H := Option.bind_eq_some_iff.mp H
            obtain ⟨⟨t320, t321, t322⟩, A420, H⟩ := H
            replace H : (laws_FnWindSets.l0 kj11 y316 t319 t320 t321 t322 0 0 0 0) = some r := H
            have A42 := Aside0.mk A420
            clear A420
            have H' := Aside0.mk H
            clear H
            go_wp2_with (first | ((with_reducible refine gate_callee (f := 44) rfl ?_); refine goesL_ (some 106) rfl rfl Try.func44 (by kernel_rfl) rfl #[.slice A0 l0.length c0] rfl (by (try simp only [List.map_toArray, List.map_cons, List.map_nil]); first | done | rfl | (simp only [List.length_drop, List.length_take]; rfl)) ?_; (with_reducible refine (spec_A2Blows.calls kj11 _ _ l0 t312 _ ?side1 ?side2 A38.out).mono ?_); (case side1 => repeat (first | exact (Kd.C_below HR0.out HB.out) | (with_reducible refine Kd.C_alloc ?_ _) | (with_reducible refine Kd.C_drewN ?_ _) | (with_reducible refine Kd.C_drew ?_))); (case side2 => exact HC0.out); rintro e w43 ⟨v313, rfl, ho0, hb⟩; refine ⟨_, rfl, ?_⟩; have n0_ := Aside0.mk (Kd.R_lower ho0 (below_size (by repeat (first | (with_reducible first | exact HB.out | apply below_alloc | apply pw_below_drewN | apply below_drew1) | exact HB.out)))); have n1_ := Aside0.mk (below_step (by repeat (first | (with_reducible first | exact HB.out | apply below_alloc | apply pw_below_drewN | apply below_drew1) | exact HB.out)) hb); clear HB; have HO314 := n0_; have HB := n1_; clear n0_ n1_; (try clear hb); (try clear hb2); (try clear hk); (try clear hi); (try clear ho0)) | ((with_reducible refine gate_callee (f := 29) rfl ?_); refine goesL_ (some 108) rfl rfl Try.func29 (by kernel_rfl) rfl #[.slice A1 l1.length c1, .int .i64 2, .int .i64 60] rfl (by (try simp only [List.map_toArray, List.map_cons, List.map_nil]); first | done | rfl | (simp only [List.length_drop, List.length_take]; rfl)) ?_; (with_reducible refine (laws_a2At.calls _ _ l1 2 60 t315 _ ?side1 ?side2 A39.out).mono ?_); (case side1 => repeat (first | exact (Kd.C_below HR1.out HB.out) | (with_reducible refine Kd.C_alloc ?_ _) | (with_reducible refine Kd.C_drewN ?_ _) | (with_reducible refine Kd.C_drew ?_))); (case side2 => exact HC1.out); rintro e w' ⟨rfl, ⟨nd, rfl⟩⟩; refine ⟨_, rfl, ?_⟩) | ((with_reducible refine gate_builtin (b := .append) (xs := #[.tmp 106, .tmp 109]) rfl ?_); (try (refine gate_guard (by rfl) ?_; dsimp only)); at_builtin; refine Kd.R_append (Kd.int .i64) (w0 := w) w.heap.size rfl (.tmp 106) (.tmp 109) 30 2 (.int .i64 0) 8 rfl Try.underlying30 info2 rfl (by decide) (by omega) v313 t312 t315 [.int .i64 t315] (fun _ => True) (fun _ => False) rfl rfl ?aP (fun _ hk => hk.elim) ?aF ?aO ?aB ?aS ?aL ?_; (case aP => exact rfl); (case aB => exact (by repeat (first | (with_reducible first | exact HB.out | apply below_alloc | apply pw_below_drewN | apply below_drew1) | exact HB.out))); (case aF => exact (fun _ _ => trivial)); (case aO => exact (by (with_reducible repeat (first | apply Kd.R_alloc | apply Kd.R_drewN | apply Kd.R_drew)); exact HO314.out)); (case aS => exact (below_size (by repeat (first | (with_reducible first | exact HB.out | apply below_alloc | apply pw_below_drewN | apply below_drew1) | exact HB.out)))); (case aL => have := LMc40.out; omega); intro v317 w44 ho hb hg hat; rw [← Ny316.out] at ho; have n0_ := Aside0.mk (hb); have n1_ := Aside0.mk (ho); clear HB; clear HO314; have HB := n0_; have HO318 := n1_; clear n0_ n1_; clear ho hb hg hat) | ((with_reducible refine gate_callee (f := 29) rfl ?_); refine goesL_ (some 112) rfl rfl Try.func29 (by kernel_rfl) rfl #[.slice A1 l1.length c1, .int .i64 3, .int .i64 150] rfl (by (try simp only [List.map_toArray, List.map_cons, List.map_nil]); first | done | rfl | (simp only [List.length_drop, List.length_take]; rfl)) ?_; (with_reducible refine (laws_a2At.calls _ _ l1 3 150 t319 _ ?side1 ?side2 A41.out).mono ?_); (case side1 => repeat (first | exact (Kd.C_below HR1.out HB.out) | (with_reducible refine Kd.C_alloc ?_ _) | (with_reducible refine Kd.C_drewN ?_ _) | (with_reducible refine Kd.C_drew ?_))); (case side2 => exact HC1.out); rintro e w' ⟨rfl, ⟨nd, rfl⟩⟩; refine ⟨_, rfl, ?_⟩; obtain ⟨Ao45, co45, eo45⟩ := Kd.R_slice HO318.out; subst eo45) | ((with_reducible refine gate_callee (f := 45) rfl ?_); refine goesL_ (some 116) rfl rfl Try.func45 (by kernel_rfl) rfl #[.slice Ao45 y316.length co45, .int .i64 t319] rfl (by (try simp only [List.map_toArray, List.map_cons, List.map_nil]); first | done | rfl | (simp only [List.length_drop, List.length_take]; rfl)) ?_; (with_reducible refine (impl_LullsOf.calls kj11 _ _ y316 t319 t320 t321 t322 _ ?side1 ?side2 A42.out).mono ?_); (case side1 => repeat (first | exact (Kd.R_reads' HO318.out).2.2 | (with_reducible refine Kd.C_alloc ?_ _) | (with_reducible refine Kd.C_drewN ?_ _) | (with_reducible refine Kd.C_drew ?_))); (case side2 => exact (Kd.R_reads' HO318.out).2.1); rintro e w' ⟨rfl, ⟨nd, rfl⟩⟩; refine ⟨_, rfl, ?_⟩))
            go_loopg [21, 22, 23, 24] kj11 (fun kq v21 v22 v23 v24 w' => ∃ (x21_2 : Int) (x22_2 : Int) (x23_2 : Int) (x24_2 : Int), v21 = .int .i64 x21_2 ∧ v22 = .int .i64 x22_2 ∧ v23 = .int .i64 x23_2 ∧ v24 = .int .i64 x24_2 ∧ Aside0 (laws_FnWindSets.l0 kq y316 t319 t320 t321 t322 x21_2 x22_2 x23_2 x24_2 = some r) ∧ Aside0 (kq ≤ kj11) ∧ Aside0 (Kd.R (Kd.int .i64) 2 w' w.heap.size (fun _ => True) (.slice Ao45 y316.length co45) y316) ∧ Aside0 (Below w.heap.size w w'))
            case atStart => exact ⟨(0), (0), (0), (0), (by first | rfl | (simp; done) | (simp [*]; done)), (by first | rfl | (simp; done) | (simp [*]; done)), (by first | rfl | (simp; done) | (simp [*]; done)), (by first | rfl | (simp; done) | (simp [*]; done)), H', ⟨Nat.le_refl _⟩, ⟨by (with_reducible repeat (first | apply Kd.R_alloc | apply Kd.R_drewN | apply Kd.R_drew)); exact HO318.out⟩, ⟨by repeat (first | (with_reducible first | exact HB.out | apply below_alloc | apply pw_below_drewN | apply below_drew1) | exact HB.out)⟩⟩
            case round =>
              clear H'
              try clear c1
              try clear c2
              try clear p2
              try clear c3
              try clear c4
              try clear p6
              try clear c11
              try clear c21
              try clear c21b0
              try clear c21b1
              try clear c22
              try clear c22b0
              try clear c22b1
              try clear c23
              try clear c23b0
              try clear c23b1
              try clear c25
              try clear c26
              try clear c27
              try clear c28
              try clear c28b0
              try clear c28b1
              try clear c29
              try clear c30
              try clear c36
              try clear c37
              try clear c39
              try clear c40
              try clear c44
              try clear c45
              try clear p2
              try clear p6
              obtain ⟨x21_2, x22_2, x23_2, x24_2, rfl, rfl, rfl, rfl, HA, HK2, HO_16, HB⟩ := hrel
              cases gk with
              | zero => exact absurd HA.out (by simp [laws_FnWindSets.l0])
              | succ k2 =>
                have H := HA.out
                clear HA
                simp only [laws_FnWindSets.l0] at H
                by_cases c46 : x24_2 < (y316.length : Int)
                · rw [if_pos c46] at H
                  have c46b0 : decide (x24_2 < (y316.length : Int)) = true := decide_eq_true c46
                  clear c46
                  by_cases c47 : 0 ≤ x24_2
                  · rw [if_pos c47] at H
                    have c47b0 : decide (0 ≤ x24_2) = true := decide_eq_true c47
                    clear c47
                    by_cases c48 : (rd y316 x24_2) ≥ t319
                    · rw [if_pos c48] at H
                      have c48b0 : decide (t319 ≤ (rd y316 x24_2)) = true := decide_eq_true c48
                      clear c48
                      by_cases c49 : 0 > x22_2
                      · rw [if_pos c49] at H
                        have c49b0 : decide (x22_2 < 0) = true := decide_eq_true c49
                        clear c49
                        have H' := Aside0.mk H
                        clear H
                        have p323 : 0 ≤ (x24_2 : Int) := of_decide_eq_true (by first | (with_reducible assumption) | assumption)
                        have q323 : x24_2 < (y316.length : Int) := of_decide_eq_true (by first | (with_reducible assumption) | assumption)
                        obtain ⟨ad323, e323, hx323_0⟩ := Kd.at_int (Kd.R_reads' HO_16.out).2.2 x24_2 p323 q323
                        cases e323
                        replace p323 := eq_true p323
                        replace q323 := eq_true q323
                        go_wp2
                        go_roundg k2
                        case measure => have := HJ11.out; have := HK2.out; omega
                        case rel => exact ⟨(0), (0), (wrap64 ((wrap64 (x24_2 + 1)) - 0)), (wrap64 (x24_2 + 1)), (by first | rfl | (simp; done) | (simp [*]; done)), (by first | rfl | (simp; done) | (simp [*]; done)), (by first | rfl | (simp; done) | (simp [*]; done)), (by first | rfl | (simp; done) | (simp [*]; done)), H', ⟨by have := HJ11.out; have := HK2.out; omega⟩, ⟨by (with_reducible repeat (first | apply Kd.R_alloc | apply Kd.R_drewN | apply Kd.R_drew)); exact HO_16.out⟩, ⟨by repeat (first | (with_reducible first | exact HB.out | apply below_alloc | apply pw_below_drewN | apply below_drew1) | exact HB.out)⟩⟩
                      · rw [if_neg c49] at H
                        have c49b0 : decide (x22_2 < 0) = false := decide_eq_false c49
                        clear c49
                        have H' := Aside0.mk H
                        clear H
                        have p323 : 0 ≤ (x24_2 : Int) := of_decide_eq_true (by first | (with_reducible assumption) | assumption)
                        have q323 : x24_2 < (y316.length : Int) := of_decide_eq_true (by first | (with_reducible assumption) | assumption)
                        obtain ⟨ad323, e323, hx323_0⟩ := Kd.at_int (Kd.R_reads' HO_16.out).2.2 x24_2 p323 q323
                        cases e323
                        replace p323 := eq_true p323
                        replace q323 := eq_true q323
                        go_wp2
                        go_roundg k2
                        case measure => have := HJ11.out; have := HK2.out; omega
                        case rel => exact ⟨(0), (x22_2), (x23_2), (wrap64 (x24_2 + 1)), (by first | rfl | (simp; done) | (simp [*]; done)), (by first | rfl | (simp; done) | (simp [*]; done)), (by first | rfl | (simp; done) | (simp [*]; done)), (by first | rfl | (simp; done) | (simp [*]; done)), H', ⟨by have := HJ11.out; have := HK2.out; omega⟩, ⟨by (with_reducible repeat (first | apply Kd.R_alloc | apply Kd.R_drewN | apply Kd.R_drew)); exact HO_16.out⟩, ⟨by repeat (first | (with_reducible first | exact HB.out | apply below_alloc | apply pw_below_drewN | apply below_drew1) | exact HB.out)⟩⟩
                    · rw [if_neg c48] at H
                      have c48b0 : decide (t319 ≤ (rd y316 x24_2)) = false := decide_eq_false c48
                      clear c48
                      by_cases c50 : (wrap64 (x21_2 + 1)) > x22_2
                      · rw [if_pos c50] at H
                        have c50b0 : decide (x22_2 < (wrap64 (x21_2 + 1))) = true := decide_eq_true c50
                        clear c50
                        have H' := Aside0.mk H
                        clear H
                        have p323 : 0 ≤ (x24_2 : Int) := of_decide_eq_true (by first | (with_reducible assumption) | assumption)
                        have q323 : x24_2 < (y316.length : Int) := of_decide_eq_true (by first | (with_reducible assumption) | assumption)
                        obtain ⟨ad323, e323, hx323_0⟩ := Kd.at_int (Kd.R_reads' HO_16.out).2.2 x24_2 p323 q323
                        cases e323
                        replace p323 := eq_true p323
                        replace q323 := eq_true q323
                        go_wp2
                        go_roundg k2
                        case measure => have := HJ11.out; have := HK2.out; omega
                        case rel => exact ⟨(wrap64 (x21_2 + 1)), (wrap64 (x21_2 + 1)), (wrap64 ((wrap64 (x24_2 + 1)) - (wrap64 (x21_2 + 1)))), (wrap64 (x24_2 + 1)), (by first | rfl | (simp; done) | (simp [*]; done)), (by first | rfl | (simp; done) | (simp [*]; done)), (by first | rfl | (simp; done) | (simp [*]; done)), (by first | rfl | (simp; done) | (simp [*]; done)), H', ⟨by have := HJ11.out; have := HK2.out; omega⟩, ⟨by (with_reducible repeat (first | apply Kd.R_alloc | apply Kd.R_drewN | apply Kd.R_drew)); exact HO_16.out⟩, ⟨by repeat (first | (with_reducible first | exact HB.out | apply below_alloc | apply pw_below_drewN | apply below_drew1) | exact HB.out)⟩⟩
                      · rw [if_neg c50] at H
                        have c50b0 : decide (x22_2 < (wrap64 (x21_2 + 1))) = false := decide_eq_false c50
                        clear c50
                        have H' := Aside0.mk H
                        clear H
                        have p323 : 0 ≤ (x24_2 : Int) := of_decide_eq_true (by first | (with_reducible assumption) | assumption)
                        have q323 : x24_2 < (y316.length : Int) := of_decide_eq_true (by first | (with_reducible assumption) | assumption)
                        obtain ⟨ad323, e323, hx323_0⟩ := Kd.at_int (Kd.R_reads' HO_16.out).2.2 x24_2 p323 q323
                        cases e323
                        replace p323 := eq_true p323
                        replace q323 := eq_true q323
                        go_wp2
                        go_roundg k2
                        case measure => have := HJ11.out; have := HK2.out; omega
                        case rel => exact ⟨(wrap64 (x21_2 + 1)), (x22_2), (x23_2), (wrap64 (x24_2 + 1)), (by first | rfl | (simp; done) | (simp [*]; done)), (by first | rfl | (simp; done) | (simp [*]; done)), (by first | rfl | (simp; done) | (simp [*]; done)), (by first | rfl | (simp; done) | (simp [*]; done)), H', ⟨by have := HJ11.out; have := HK2.out; omega⟩, ⟨by (with_reducible repeat (first | apply Kd.R_alloc | apply Kd.R_drewN | apply Kd.R_drew)); exact HO_16.out⟩, ⟨by repeat (first | (with_reducible first | exact HB.out | apply below_alloc | apply pw_below_drewN | apply below_drew1) | exact HB.out)⟩⟩
                  · rw [if_neg c47] at H
                    exact absurd H (by simp)
                · rw [if_neg c46] at H
                  have c46b0 : decide (x24_2 < (y316.length : Int)) = false := decide_eq_false c46
                  clear c46
                  have HC51 := Aside0.mk H
                  clear H
                  go_upto_region 27 with (fail)
                  go_cut [165] (fun v165 wc => ∃ (kq : Nat) (x165_50 : Bool), v165 = .bool x165_50 ∧ Aside0 (laws_FnWindSets.j2 kq y316 x165_50 = some r) ∧ Aside0 (kq ≤ k2) ∧ Aside0 (Kd.R (Kd.int .i64) 2 wc w.heap.size (fun _ => True) (.slice Ao45 y316.length co45) y316) ∧ Aside0 (Below w.heap.size w wc))
                  case first =>
                    have H := HC51.out
                    clear HC51
                    by_cases c52 : x22_2 = 0
                    · rw [if_pos c52] at H
                      have c52b0 : (x22_2 == 0) = true := beq_iff_eq.mpr c52
                      have c52b1 : (x22_2 != 0) = false := bne_eq_false_iff_eq.mpr c52
                      clear c52
                      (first | rw [c52b0] | (simp only [i64_w, i32_w]; rw [c52b0]) | skip)
                      by_cases c53 : t322 = 3
                      · rw [if_pos c53] at H
                        have c53b0 : (t322 == 3) = true := beq_iff_eq.mpr c53
                        have c53b1 : (t322 != 3) = false := bne_eq_false_iff_eq.mpr c53
                        clear c53
                        by_cases c54 : x22_2 > 0
                        · rw [if_pos c54] at H
                          have c54b0 : decide (0 < x22_2) = true := decide_eq_true c54
                          clear c54
                          by_cases c55 : t322 = 0
                          · rw [if_pos c55] at H
                            have c55b0 : (t322 == 0) = true := beq_iff_eq.mpr c55
                            have c55b1 : (t322 != 0) = false := bne_eq_false_iff_eq.mpr c55
                            clear c55
                            by_cases c56 : t320 = x23_2
                            · rw [if_pos c56] at H
                              have c56b0 : (t320 == x23_2) = true := beq_iff_eq.mpr c56
                              have c56b1 : (t320 != x23_2) = false := bne_eq_false_iff_eq.mpr c56
                              clear c56
                              have H' := Aside0.mk H
                              clear H
                              go_wp2
                              go_meet
                              case rel => exact ⟨_, ((t321 != x22_2)), (by first | rfl | (simp; done) | (simp [*]; done)), H', ⟨by have := HJ11.out; have := HK2.out; first | omega | exact Nat.le_refl _⟩, ⟨by (with_reducible repeat (first | apply Kd.R_alloc | apply Kd.R_drewN | apply Kd.R_drew)); exact HO_16.out⟩, ⟨by repeat (first | (with_reducible first | exact HB.out | apply below_alloc | apply pw_below_drewN | apply below_drew1) | exact HB.out)⟩⟩
                            · rw [if_neg c56] at H
                              have c56b0 : (t320 == x23_2) = false := beq_eq_false_iff_ne.mpr c56
                              have c56b1 : (t320 != x23_2) = true := bne_iff_ne.mpr c56
                              have H' := Aside0.mk H
                              clear H
                              go_wp2
                              go_meet
                              case rel => exact ⟨_, (true), (by first | rfl | (simp; done) | (simp [*]; done)), H', ⟨by have := HJ11.out; have := HK2.out; first | omega | exact Nat.le_refl _⟩, ⟨by (with_reducible repeat (first | apply Kd.R_alloc | apply Kd.R_drewN | apply Kd.R_drew)); exact HO_16.out⟩, ⟨by repeat (first | (with_reducible first | exact HB.out | apply below_alloc | apply pw_below_drewN | apply below_drew1) | exact HB.out)⟩⟩
                          · rw [if_neg c55] at H
                            have c55b0 : (t322 == 0) = false := beq_eq_false_iff_ne.mpr c55
                            have c55b1 : (t322 != 0) = true := bne_iff_ne.mpr c55
                            have H' := Aside0.mk H
                            clear H
                            go_wp2
                            go_meet
                            case rel => exact ⟨_, (true), (by first | rfl | (simp; done) | (simp [*]; done)), H', ⟨by have := HJ11.out; have := HK2.out; first | omega | exact Nat.le_refl _⟩, ⟨by (with_reducible repeat (first | apply Kd.R_alloc | apply Kd.R_drewN | apply Kd.R_drew)); exact HO_16.out⟩, ⟨by repeat (first | (with_reducible first | exact HB.out | apply below_alloc | apply pw_below_drewN | apply below_drew1) | exact HB.out)⟩⟩
                        · rw [if_neg c54] at H
                          have c54b0 : decide (0 < x22_2) = false := decide_eq_false c54
                          clear c54
                          have H' := Aside0.mk H
                          clear H
                          go_wp2
                          go_meet
                          case rel => exact ⟨_, (false), (by first | rfl | (simp; done) | (simp [*]; done)), H', ⟨by have := HJ11.out; have := HK2.out; first | omega | exact Nat.le_refl _⟩, ⟨by (with_reducible repeat (first | apply Kd.R_alloc | apply Kd.R_drewN | apply Kd.R_drew)); exact HO_16.out⟩, ⟨by repeat (first | (with_reducible first | exact HB.out | apply below_alloc | apply pw_below_drewN | apply below_drew1) | exact HB.out)⟩⟩
                      · rw [if_neg c53] at H
                        have c53b0 : (t322 == 3) = false := beq_eq_false_iff_ne.mpr c53
                        have c53b1 : (t322 != 3) = true := bne_iff_ne.mpr c53
                        have H' := Aside0.mk H
                        clear H
                        go_wp2
                        go_meet
                        case rel => exact ⟨_, (true), (by first | rfl | (simp; done) | (simp [*]; done)), H', ⟨by have := HJ11.out; have := HK2.out; first | omega | exact Nat.le_refl _⟩, ⟨by (with_reducible repeat (first | apply Kd.R_alloc | apply Kd.R_drewN | apply Kd.R_drew)); exact HO_16.out⟩, ⟨by repeat (first | (with_reducible first | exact HB.out | apply below_alloc | apply pw_below_drewN | apply below_drew1) | exact HB.out)⟩⟩
                    · rw [if_neg c52] at H
                      have c52b0 : (x22_2 == 0) = false := beq_eq_false_iff_ne.mpr c52
                      have c52b1 : (x22_2 != 0) = true := bne_iff_ne.mpr c52
                      (first | rw [c52b0] | (simp only [i64_w, i32_w]; rw [c52b0]) | skip)
                      by_cases c57 : x22_2 > 0
                      · rw [if_pos c57] at H
                        have c57b0 : decide (0 < x22_2) = true := decide_eq_true c57
                        clear c57
                        by_cases c58 : t322 = 0
                        · rw [if_pos c58] at H
                          have c58b0 : (t322 == 0) = true := beq_iff_eq.mpr c58
                          have c58b1 : (t322 != 0) = false := bne_eq_false_iff_eq.mpr c58
                          clear c58
                          by_cases c59 : t320 = x23_2
                          · rw [if_pos c59] at H
                            have c59b0 : (t320 == x23_2) = true := beq_iff_eq.mpr c59
                            have c59b1 : (t320 != x23_2) = false := bne_eq_false_iff_eq.mpr c59
                            clear c59
                            have H' := Aside0.mk H
                            clear H
                            go_wp2
                            go_meet
                            case rel => exact ⟨_, ((t321 != x22_2)), (by first | rfl | (simp; done) | (simp [*]; done)), H', ⟨by have := HJ11.out; have := HK2.out; first | omega | exact Nat.le_refl _⟩, ⟨by (with_reducible repeat (first | apply Kd.R_alloc | apply Kd.R_drewN | apply Kd.R_drew)); exact HO_16.out⟩, ⟨by repeat (first | (with_reducible first | exact HB.out | apply below_alloc | apply pw_below_drewN | apply below_drew1) | exact HB.out)⟩⟩
                          · rw [if_neg c59] at H
                            have c59b0 : (t320 == x23_2) = false := beq_eq_false_iff_ne.mpr c59
                            have c59b1 : (t320 != x23_2) = true := bne_iff_ne.mpr c59
                            have H' := Aside0.mk H
                            clear H
                            go_wp2
                            go_meet
                            case rel => exact ⟨_, (true), (by first | rfl | (simp; done) | (simp [*]; done)), H', ⟨by have := HJ11.out; have := HK2.out; first | omega | exact Nat.le_refl _⟩, ⟨by (with_reducible repeat (first | apply Kd.R_alloc | apply Kd.R_drewN | apply Kd.R_drew)); exact HO_16.out⟩, ⟨by repeat (first | (with_reducible first | exact HB.out | apply below_alloc | apply pw_below_drewN | apply below_drew1) | exact HB.out)⟩⟩
                        · rw [if_neg c58] at H
                          have c58b0 : (t322 == 0) = false := beq_eq_false_iff_ne.mpr c58
                          have c58b1 : (t322 != 0) = true := bne_iff_ne.mpr c58
                          have H' := Aside0.mk H
                          clear H
                          go_wp2
                          go_meet
                          case rel => exact ⟨_, (true), (by first | rfl | (simp; done) | (simp [*]; done)), H', ⟨by have := HJ11.out; have := HK2.out; first | omega | exact Nat.le_refl _⟩, ⟨by (with_reducible repeat (first | apply Kd.R_alloc | apply Kd.R_drewN | apply Kd.R_drew)); exact HO_16.out⟩, ⟨by repeat (first | (with_reducible first | exact HB.out | apply below_alloc | apply pw_below_drewN | apply below_drew1) | exact HB.out)⟩⟩
                      · rw [if_neg c57] at H
                        have c57b0 : decide (0 < x22_2) = false := decide_eq_false c57
                        clear c57
                        have H' := Aside0.mk H
                        clear H
                        go_wp2
                        go_meet
                        case rel => exact ⟨_, (false), (by first | rfl | (simp; done) | (simp [*]; done)), H', ⟨by have := HJ11.out; have := HK2.out; first | omega | exact Nat.le_refl _⟩, ⟨by (with_reducible repeat (first | apply Kd.R_alloc | apply Kd.R_drewN | apply Kd.R_drew)); exact HO_16.out⟩, ⟨by repeat (first | (with_reducible first | exact HB.out | apply below_alloc | apply pw_below_drewN | apply below_drew1) | exact HB.out)⟩⟩
                  case rest =>
                    clear HC51
                    try clear c1
                    try clear c2
                    try clear p2
                    try clear c3
                    try clear p3
                    try clear q3
                    try clear hx3
                    try clear c4
                    try clear c5
                    try clear p6
                    try clear c11
                    try clear c21
                    try clear c21b0
                    try clear c21b1
                    try clear c22
                    try clear c22b0
                    try clear c22b1
                    try clear c23
                    try clear c23b0
                    try clear c23b1
                    try clear c25
                    try clear c26
                    try clear c27
                    try clear c28
                    try clear c28b0
                    try clear c28b1
                    try clear c29
                    try clear c30
                    try clear p32
                    try clear q32
                    try clear hx32
                    try clear c36
                    try clear c37
                    try clear c39
                    try clear c40
                    try clear c44
                    try clear c45
                    try clear c46
                    try clear c46b0
                    try clear c47
                    try clear c47b0
                    try clear c48
                    try clear c48b0
                    try clear c49
                    try clear c49b0
                    try clear c50
                    try clear c50b0
                    try clear c52
                    try clear c52b0
                    try clear c52b1
                    try clear c53
                    try clear c53b0
                    try clear c53b1
                    try clear c54
                    try clear c54b0
                    try clear c55
                    try clear c55b0
                    try clear c55b1
                    try clear c56
                    try clear c56b0
                    try clear c56b1
                    try clear c57
                    try clear c57b0
                    try clear c58
                    try clear c58b0
                    try clear c58b1
                    try clear c59
                    try clear c59b0
                    try clear c59b1
                    try clear hx323_0
                    try clear p2
                    try clear p323
                    try clear p6
                    try clear q323
                    obtain ⟨kq, x165_50, rfl, HA, HJ50, HO_16, HB⟩ := hcut
                    cases kq with
                    | zero => exact absurd HA.out (by simp [laws_FnWindSets.j2])
                    | succ kj50 =>
                      have H := HA.out
                      clear HA
                      simp only [laws_FnWindSets.j2] at H
                      by_cases c60 : x165_50 = true
                      · subst c60
                        have H1 : (some false) = some r := by rw [if_pos rfl] at H; exact H
                        clear H
                        have H := H1
                        clear H1
                        obtain rfl := Option.some.inj H
                        exact absurd HRT.out (by decide)
                      · replace c60 := Bool.eq_false_iff.mpr c60
                        subst c60
                        have H1 : ((impl_GustFactor.f kj50 y316).bind fun bt324 => (if bt324.2.2 = 0 then (if bt324.2.1 ≥ 1 then (if bt324.1 ≥ bt324.2.1 then (some (decide (bt324.1 ≤ (wrap64 (bt324.2.1 * (y316.length : Int)))))) else (some false)) else (some false)) else (if bt324.2.2 = 3 then ((laws_a2Sum.f kj50 y316).bind fun t328 => (some (t328 == 0))) else (some false)))) = some r := by rw [if_neg (show ¬ (false = true) by decide)] at H; exact H
                        clear H
                        have H := H1
                        clear H1
                        replace H := Option.bind_eq_some_iff.mp H
                        obtain ⟨⟨t324, t325, t326⟩, A610, H⟩ := H
                        replace H : (if t326 = 0 then (if t325 ≥ 1 then (if t324 ≥ t325 then (some (decide (t324 ≤ (wrap64 (t325 * (y316.length : Int)))))) else (some false)) else (some false)) else (if t326 = 3 then ((laws_a2Sum.f kj50 y316).bind fun t328 => (some (t328 == 0))) else (some false))) = some r := H
                        have A61 := Aside0.mk A610
                        clear A610
                        by_cases c62 : t326 = 0
                        · rw [if_pos c62] at H
                          have c62b0 : (t326 == 0) = true := beq_iff_eq.mpr c62
                          have c62b1 : (t326 != 0) = false := bne_eq_false_iff_eq.mpr c62
                          clear c62
                          by_cases c63 : t325 ≥ 1
                          · rw [if_pos c63] at H
                            have c63b0 : decide (1 ≤ t325) = true := decide_eq_true c63
                            clear c63
                            by_cases c64 : t324 ≥ t325
                            · rw [if_pos c64] at H
                              have c64b0 : decide (t325 ≤ t324) = true := decide_eq_true c64
                              clear c64
                              obtain rfl := Option.some.inj H
                              go_wp2_with (first | ((with_reducible refine gate_callee (f := 18) rfl ?_); refine goesL_ (some 168) rfl rfl Try.func18 (by kernel_rfl) rfl #[.slice Ao45 y316.length co45] rfl (by (try simp only [List.map_toArray, List.map_cons, List.map_nil]); first | done | rfl | (simp only [List.length_drop, List.length_take]; rfl)) ?_; (with_reducible refine (impl_GustFactor.calls kj50 _ _ y316 t324 t325 t326 _ ?side1 ?side2 A61.out).mono ?_); (case side1 => repeat (first | exact (Kd.R_reads' HO_16.out).2.2 | (with_reducible refine Kd.C_alloc ?_ _) | (with_reducible refine Kd.C_drewN ?_ _) | (with_reducible refine Kd.C_drew ?_))); (case side2 => exact (Kd.R_reads' HO_16.out).2.1); rintro e w65 ⟨rfl, hb⟩; refine ⟨_, rfl, ?_⟩; have n0_ := Aside0.mk (Kd.R_below (by (with_reducible repeat (first | apply Kd.R_alloc | apply Kd.R_drewN | apply Kd.R_drew)); exact HO_16.out) hb); have n1_ := Aside0.mk (below_step (by repeat (first | (with_reducible first | exact HB.out | apply below_alloc | apply pw_below_drewN | apply below_drew1) | exact HB.out)) hb); clear HO_16; clear HB; have HO_16 := n0_; have HB := n1_; clear n0_ n1_; (try clear hb); (try clear hb2); (try clear hk); (try clear hi)) | ((with_reducible refine gate_dst (N := 25) rfl ?_); (try (refine gate_guard (by rfl) ?_; dsimp only)); refine box_event ?hg (N := 25) ?hd (cs := #[.int .i64 0, .int .i64 0]) (t := 32) ?hr ?_; (case hd => rfl); (case hg => rfl); (case hr => first | (go_simp; done) | (go_simp; rfl)); intro gb327 hg w66 hbox hb; have n0_ := Aside0.mk (Kd.R_below (by (with_reducible repeat (first | apply Kd.R_alloc | apply Kd.R_drewN | apply Kd.R_drew)); exact HO_16.out) hb); have n1_ := Aside0.mk (below_step (by repeat (first | (with_reducible first | exact HB.out | apply below_alloc | apply pw_below_drewN | apply below_drew1) | exact HB.out)) hb); have n2_ := Aside0.mk (hbox); have n3_ := Aside0.mk ((by rw [hg]; exact (below_size (by repeat (first | (with_reducible first | exact HB.out | apply below_alloc | apply pw_below_drewN | apply below_drew1) | exact HB.out))) : w.heap.size ≤ gb327)); have n4_ := Aside0.mk ((by rw [hg]; exact (below_size (by repeat (first | (with_reducible first | exact HB.out | apply below_alloc | apply pw_below_drewN | apply below_drew1) | exact HB.out))) : w.heap.size ≤ gb327)); clear HO_16; clear HB; have HO_16 := n0_; have HB := n1_; have BK327 := n2_; have GW327 := n3_; have GE327 := n4_; clear n0_ n1_ n2_ n3_ n4_; clear hb hbox hg; have hcz67_0 : w66.cell? ⟨gb327, 0, none⟩ = some (.int .i64 0) := (blk_cell BK327.out 0).trans rfl; have hcz67_1 : w66.cell? ⟨gb327, 1, none⟩ = some (.int .i64 0) := (blk_cell BK327.out 1).trans rfl; have hfz67_0 := blk_frozen BK327.out 0; have hfz67_1 := blk_frozen BK327.out 1))
                              go_ret
                              exact ⟨by first | rfl | (simp [errW_none, errW_some] <;> rfl) | (simp [*, errW_none, errW_some] <;> rfl), by repeat (first | (with_reducible first | exact HB.out | apply below_alloc | apply pw_below_drewN | apply below_drew1 | refine below_set ?_ GE327.out) | exact HB.out)⟩
                            · rw [if_neg c64] at H
                              have c64b0 : decide (t325 ≤ t324) = false := decide_eq_false c64
                              clear c64
                              obtain rfl := Option.some.inj H
                              exact absurd HRT.out (by decide)
                          · rw [if_neg c63] at H
                            have c63b0 : decide (1 ≤ t325) = false := decide_eq_false c63
                            clear c63
                            obtain rfl := Option.some.inj H
                            exact absurd HRT.out (by decide)
                        · rw [if_neg c62] at H
                          have c62b0 : (t326 == 0) = false := beq_eq_false_iff_ne.mpr c62
                          have c62b1 : (t326 != 0) = true := bne_iff_ne.mpr c62
                          by_cases c74 : t326 = 3
                          · rw [if_pos c74] at H
                            have c74b0 : (t326 == 3) = true := beq_iff_eq.mpr c74
                            have c74b1 : (t326 != 3) = false := bne_eq_false_iff_eq.mpr c74
                            clear c74
                            replace H := Option.bind_eq_some_iff.mp H
                            obtain ⟨t328, A750, H⟩ := H
                            replace H : (some (t328 == 0)) = some r := H
                            have A75 := Aside0.mk A750
                            clear A750
                            obtain rfl := Option.some.inj H
                            go_wp2_with (first | ((with_reducible refine gate_callee (f := 18) rfl ?_); refine goesL_ (some 168) rfl rfl Try.func18 (by kernel_rfl) rfl #[.slice Ao45 y316.length co45] rfl (by (try simp only [List.map_toArray, List.map_cons, List.map_nil]); first | done | rfl | (simp only [List.length_drop, List.length_take]; rfl)) ?_; (with_reducible refine (impl_GustFactor.calls kj50 _ _ y316 t324 t325 t326 _ ?side1 ?side2 A61.out).mono ?_); (case side1 => repeat (first | exact (Kd.R_reads' HO_16.out).2.2 | (with_reducible refine Kd.C_alloc ?_ _) | (with_reducible refine Kd.C_drewN ?_ _) | (with_reducible refine Kd.C_drew ?_))); (case side2 => exact (Kd.R_reads' HO_16.out).2.1); rintro e w76 ⟨rfl, hb⟩; refine ⟨_, rfl, ?_⟩; have n0_ := Aside0.mk (Kd.R_below (by (with_reducible repeat (first | apply Kd.R_alloc | apply Kd.R_drewN | apply Kd.R_drew)); exact HO_16.out) hb); have n1_ := Aside0.mk (below_step (by repeat (first | (with_reducible first | exact HB.out | apply below_alloc | apply pw_below_drewN | apply below_drew1) | exact HB.out)) hb); clear HO_16; clear HB; have HO_16 := n0_; have HB := n1_; clear n0_ n1_; (try clear hb); (try clear hb2); (try clear hk); (try clear hi)) | ((with_reducible refine gate_dst (N := 25) rfl ?_); (try (refine gate_guard (by rfl) ?_; dsimp only)); refine box_event ?hg (N := 25) ?hd (cs := #[.int .i64 0, .int .i64 0]) (t := 32) ?hr ?_; (case hd => rfl); (case hg => rfl); (case hr => first | (go_simp; done) | (go_simp; rfl)); intro gb327 hg w77 hbox hb; have n0_ := Aside0.mk (Kd.R_below (by (with_reducible repeat (first | apply Kd.R_alloc | apply Kd.R_drewN | apply Kd.R_drew)); exact HO_16.out) hb); have n1_ := Aside0.mk (below_step (by repeat (first | (with_reducible first | exact HB.out | apply below_alloc | apply pw_below_drewN | apply below_drew1) | exact HB.out)) hb); have n2_ := Aside0.mk (hbox); have n3_ := Aside0.mk ((by rw [hg]; exact (below_size (by repeat (first | (with_reducible first | exact HB.out | apply below_alloc | apply pw_below_drewN | apply below_drew1) | exact HB.out))) : w.heap.size ≤ gb327)); have n4_ := Aside0.mk ((by rw [hg]; exact (below_size (by repeat (first | (with_reducible first | exact HB.out | apply below_alloc | apply pw_below_drewN | apply below_drew1) | exact HB.out))) : w.heap.size ≤ gb327)); clear HO_16; clear HB; have HO_16 := n0_; have HB := n1_; have BK327 := n2_; have GW327 := n3_; have GE327 := n4_; clear n0_ n1_ n2_ n3_ n4_; clear hb hbox hg; have hcz78_0 : w77.cell? ⟨gb327, 0, none⟩ = some (.int .i64 0) := (blk_cell BK327.out 0).trans rfl; have hcz78_1 : w77.cell? ⟨gb327, 1, none⟩ = some (.int .i64 0) := (blk_cell BK327.out 1).trans rfl; have hfz78_0 := blk_frozen BK327.out 0; have hfz78_1 := blk_frozen BK327.out 1) | (go_at_call 46; (with_reducible refine (laws_a2Sum.calls kj50 _ _ y316 t328 _ ?side1 ?side2 A75.out).mono ?_); (case side1 => refine (Kd.R_reads' (e := 2) (base := w.heap.size) (ok := fun k_ => True) (n := y316.length) (c := co45) ?_).2.2; exact (by (with_reducible repeat (first | apply Kd.R_alloc | apply Kd.R_drewN | apply Kd.R_drew)); exact (Kd.R_mono (Kd.R_far (p := ⟨gb327, 1, none⟩) (Kd.R_far (p := ⟨gb327, 0, none⟩) (Kd.R_types HO_16.out BK327.out (by decide)) (fun _ hk => hk.2) (.int .i64 t324)) (fun _ hk => hk.2) (.int .i64 t325)) (fun _ h_ => h_.1)))); (case side2 => exact (Kd.R_reads' HO_16.out).2.1); rintro e w' ⟨rfl, ⟨nd, rfl⟩⟩))
                            go_ret
                            exact ⟨by first | rfl | (simp [errW_none, errW_some] <;> rfl) | (simp [*, errW_none, errW_some] <;> rfl), by repeat (first | (with_reducible first | exact HB.out | apply below_alloc | apply pw_below_drewN | apply below_drew1 | refine below_set ?_ GE327.out) | exact HB.out)⟩
                          · rw [if_neg c74] at H
                            have c74b0 : (t326 == 3) = false := beq_eq_false_iff_ne.mpr c74
                            have c74b1 : (t326 != 3) = true := bne_iff_ne.mpr c74
                            obtain rfl := Option.some.inj H
                            exact absurd HRT.out (by decide)
          · rw [if_neg c40] at H
            exact absurd H (by simp)

/-- THE ONE PURE STATEMENT of laws_FnWindSets: yours. -/
def laws_FnWindSets.Pure : Prop := ∀ (l0 : List Int) (l1 : List Int), l0.length ≤ maxLen → l0.length * 1 ≤ 140737488351232 → (∀ x ∈ l0, (Lit.int .u8 x).wf = true) → l1.length ≤ maxLen → l1.length * 1 ≤ 140737488351232 → (∀ x ∈ l1, (Lit.int .u8 x).wf = true) → ∃ k, laws_FnWindSets.f k l0 l1 = some true
end
end Go.Proofs.Ythbfpkagjobgiaa.PFnWindSets
