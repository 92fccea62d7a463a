/- The walks of the functions that the law reaches: each computes what its Lean function says. No condition beyond each contract's own. -/
import Derived.Test.YthbfpkagjobgiaaHFnExactBestSetx0
import Derived.Test.YthbfpkagjobgiaaHFnExactBestSetx1
import Derived.Test.YthbfpkagjobgiaaHFnExactBestSetx2
import Derived.Test.YthbfpkagjobgiaaHFnExactBestSetx5
import Derived.Test.YthbfpkagjobgiaaHFnExactBestSetx8
import Derived.Test.YthbfpkagjobgiaaHFnExactBestSetx9
namespace Go.Proofs.Ythbfpkagjobgiaa.PFnExactBestSet
noncomputable section
open Go.RowKit Go.Proofs.YthbfpkagjobgiaaW.PrintWords Go.Proofs.YthbfpkagjobgiaaW.PrintLast Go.Proofs.YthbfpkagjobgiaaW.PrintMore
attribute [local go_sem] max2_int min2_int max_two min_two max_three min_three max_four min_four   -- for this text's walks alone
set_option linter.unusedVariables false
set_option linter.unusedSimpArgs false

/-! ### laws_FnExactBestSet: function 10 -/
mutual
def laws_FnExactBestSet.j0 : Nat → List (S23) → Int → Int → List Int → Int → Int → List (S27) → List Int → Int → Int → Bool → Option (Bool)
  | 0, _, _, _, _, _, _, _, _, _, _, _ => none
  | k + 1, x0, x1, x2, x8, x9, x10, x11, x12, x13, x14, x58 => if x58 = true then (some false) else ((laws_toCanvasS.f k x0).bind fun t228 => ((laws_eqCanvasS.f k x11 t228).bind fun t231 => (if t231 = true then ((laws_markCanvasS.f k x11 1).bind fun bt232 => (if bt232.1 < 0 then (laws_FnExactBestSet.j1 k x0 x1 x2 x8 x9 x10 x12 true) else ((laws_eqInt64S.f k x12 x8).bind fun t234 => (if t234 = true then (if x13 = x9 then (laws_FnExactBestSet.j1 k x0 x1 x2 x8 x9 x10 x12 (x14 != x10)) else (laws_FnExactBestSet.j1 k x0 x1 x2 x8 x9 x10 x12 true)) else (laws_FnExactBestSet.j1 k x0 x1 x2 x8 x9 x10 x12 true))))) else (some false))))
def laws_FnExactBestSet.j1 : Nat → List (S23) → Int → Int → List Int → Int → Int → List Int → Bool → Option (Bool)
  | 0, _, _, _, _, _, _, _, _ => none
  | k + 1, x0, x1, x2, x8, x9, x10, x12, x84 => if x84 = true then (some false) else ((laws_markInt64S.f k x12 1).bind fun bt235 => ((laws_heldInt64S.f k bt235.2 1).bind fun t237 => (if t237 < 0 then (some false) else (if t237 = bt235.1 then ((laws_toCanvasS.f k x0).bind fun t238 => ((impl_BestSet.f k t238 x1 x2).bind fun bt241 => ((laws_eqInt64S.f k bt241.1 x8).bind fun t246 => (if t246 = true then (if bt241.2.1 = x9 then (laws_FnExactBestSet.j2 k bt235.2 bt235.1 (bt241.2.2 != x10)) else (laws_FnExactBestSet.j2 k bt235.2 bt235.1 true)) else (laws_FnExactBestSet.j2 k bt235.2 bt235.1 true))))) else (some false)))))
def laws_FnExactBestSet.j2 : Nat → List Int → Int → Bool → Option (Bool)
  | 0, _, _, _ => none
  | k + 1, x12, x16, x118 => if x118 = true then (some false) else ((laws_heldInt64S.f k x12 1).bind fun t247 => (if t247 < 0 then (some false) else (if t247 = x16 then (some true) else (some false))))
end
def laws_FnExactBestSet.f (k : Nat) (l0 : List (S23)) (a1 : Int) (a2 : Int) : Option (Bool) := (laws_szCanvasS.f k l0 1048576).bind fun t210 => (if t210 < 0 then (some true) else ((laws_toCanvasS.f k l0).bind fun t211 => ((spec_BestSet.f k t211 a1 a2).bind fun bt214 => ((laws_toCanvasS.f k l0).bind fun t219 => ((impl_BestSet.f k t219 a1 a2).bind fun bt222 => ((laws_eqInt64S.f k bt222.1 bt214.1).bind fun t227 => (if t227 = true then (if bt222.2.1 = bt214.2.1 then (laws_FnExactBestSet.j0 k l0 a1 a2 bt214.1 bt214.2.1 bt214.2.2 t219 bt222.1 bt222.2.1 bt222.2.2 (bt222.2.2 != bt214.2.2)) else (laws_FnExactBestSet.j0 k l0 a1 a2 bt214.1 bt214.2.1 bt214.2.2 t219 bt222.1 bt222.2.1 bt222.2.2 true)) else (laws_FnExactBestSet.j0 k l0 a1 a2 bt214.1 bt214.2.1 bt214.2.2 t219 bt222.1 bt222.2.1 bt222.2.2 true))))))))
theorem laws_FnExactBestSet.mono_l : ∀ k, (∀ y0 y1 y2 y3 y4 y5 y6 y7 y8 y9 y10, LeO (laws_FnExactBestSet.j0 k y0 y1 y2 y3 y4 y5 y6 y7 y8 y9 y10) (laws_FnExactBestSet.j0 (k + 1) y0 y1 y2 y3 y4 y5 y6 y7 y8 y9 y10)) ∧ (∀ y0 y1 y2 y3 y4 y5 y6 y7, LeO (laws_FnExactBestSet.j1 k y0 y1 y2 y3 y4 y5 y6 y7) (laws_FnExactBestSet.j1 (k + 1) y0 y1 y2 y3 y4 y5 y6 y7)) ∧ (∀ y0 y1 y2, LeO (laws_FnExactBestSet.j2 k y0 y1 y2) (laws_FnExactBestSet.j2 (k + 1) y0 y1 y2))
  | 0 => ⟨fun _ _ _ _ _ _ _ _ _ _ _ r h => by simp [laws_FnExactBestSet.j0] at h, fun _ _ _ _ _ _ _ _ r h => by simp [laws_FnExactBestSet.j1] at h, fun _ _ _ r h => by simp [laws_FnExactBestSet.j2] at h⟩
  | k + 1 => by
    obtain ⟨ih0, ih1, ih2⟩ := laws_FnExactBestSet.mono_l k
    refine ⟨?_, ?_, ?_⟩
    · intro y0 y1 y2 y3 y4 y5 y6 y7 y8 y9 y10
      unfold laws_FnExactBestSet.j0
      repeat' first
      | (with_reducible exact ih0 _ _ _ _ _ _ _ _ _ _ _)
      | (with_reducible exact ih1 _ _ _ _ _ _ _ _)
      | (with_reducible exact ih2 _ _ _)
      | (with_reducible exact impl_BestSet.mono _ _ _ _)
      | (with_reducible exact laws_eqCanvasS.mono _ _ _)
      | (with_reducible exact laws_eqInt64S.mono _ _ _)
      | (with_reducible exact laws_heldInt64S.mono _ _ _)
      | (with_reducible exact laws_markCanvasS.mono _ _ _)
      | (with_reducible exact laws_markInt64S.mono _ _ _)
      | (with_reducible exact laws_szCanvasS.mono _ _ _)
      | (with_reducible exact laws_toCanvasS.mono _ _)
      | (with_reducible exact spec_BestSet.mono _ _ _ _)
      | (with_reducible exact LeO.refl _)
      | (with_reducible exact LeO.none _)
      | (with_reducible refine LeO.ite ?_ ?_)
      | (with_reducible refine LeO.bind ?_ (fun _ => ?_))
      | exact ih0 _ _ _ _ _ _ _ _ _ _ _
      | exact ih1 _ _ _ _ _ _ _ _
      | exact ih2 _ _ _
      | exact impl_BestSet.mono _ _ _ _
      | exact laws_eqCanvasS.mono _ _ _
      | exact laws_eqInt64S.mono _ _ _
      | exact laws_heldInt64S.mono _ _ _
      | exact laws_markCanvasS.mono _ _ _
      | exact laws_markInt64S.mono _ _ _
      | exact laws_szCanvasS.mono _ _ _
      | exact laws_toCanvasS.mono _ _
      | exact spec_BestSet.mono _ _ _ _
      | exact LeO.none _
      | refine LeO.ite ?_ ?_
      | refine LeO.bind ?_ (fun _ => ?_)
    · intro y0 y1 y2 y3 y4 y5 y6 y7
      unfold laws_FnExactBestSet.j1
      repeat' first
      | (with_reducible exact ih0 _ _ _ _ _ _ _ _ _ _ _)
      | (with_reducible exact ih1 _ _ _ _ _ _ _ _)
      | (with_reducible exact ih2 _ _ _)
      | (with_reducible exact impl_BestSet.mono _ _ _ _)
      | (with_reducible exact laws_eqCanvasS.mono _ _ _)
      | (with_reducible exact laws_eqInt64S.mono _ _ _)
      | (with_reducible exact laws_heldInt64S.mono _ _ _)
      | (with_reducible exact laws_markCanvasS.mono _ _ _)
      | (with_reducible exact laws_markInt64S.mono _ _ _)
      | (with_reducible exact laws_szCanvasS.mono _ _ _)
      | (with_reducible exact laws_toCanvasS.mono _ _)
      | (with_reducible exact spec_BestSet.mono _ _ _ _)
      | (with_reducible exact LeO.refl _)
      | (with_reducible exact LeO.none _)
      | (with_reducible refine LeO.ite ?_ ?_)
      | (with_reducible refine LeO.bind ?_ (fun _ => ?_))
      | exact ih0 _ _ _ _ _ _ _ _ _ _ _
      | exact ih1 _ _ _ _ _ _ _ _
      | exact ih2 _ _ _
      | exact impl_BestSet.mono _ _ _ _
      | exact laws_eqCanvasS.mono _ _ _
      | exact laws_eqInt64S.mono _ _ _
      | exact laws_heldInt64S.mono _ _ _
      | exact laws_markCanvasS.mono _ _ _
      | exact laws_markInt64S.mono _ _ _
      | exact laws_szCanvasS.mono _ _ _
      | exact laws_toCanvasS.mono _ _
      | exact spec_BestSet.mono _ _ _ _
      | exact LeO.none _
      | refine LeO.ite ?_ ?_
      | refine LeO.bind ?_ (fun _ => ?_)
    · intro y0 y1 y2
      unfold laws_FnExactBestSet.j2
      repeat' first
      | (with_reducible exact ih0 _ _ _ _ _ _ _ _ _ _ _)
      | (with_reducible exact ih1 _ _ _ _ _ _ _ _)
      | (with_reducible exact ih2 _ _ _)
      | (with_reducible exact impl_BestSet.mono _ _ _ _)
      | (with_reducible exact laws_eqCanvasS.mono _ _ _)
      | (with_reducible exact laws_eqInt64S.mono _ _ _)
      | (with_reducible exact laws_heldInt64S.mono _ _ _)
      | (with_reducible exact laws_markCanvasS.mono _ _ _)
      | (with_reducible exact laws_markInt64S.mono _ _ _)
      | (with_reducible exact laws_szCanvasS.mono _ _ _)
      | (with_reducible exact laws_toCanvasS.mono _ _)
      | (with_reducible exact spec_BestSet.mono _ _ _ _)
      | (with_reducible exact LeO.refl _)
      | (with_reducible exact LeO.none _)
      | (with_reducible refine LeO.ite ?_ ?_)
      | (with_reducible refine LeO.bind ?_ (fun _ => ?_))
      | exact ih0 _ _ _ _ _ _ _ _ _ _ _
      | exact ih1 _ _ _ _ _ _ _ _
      | exact ih2 _ _ _
      | exact impl_BestSet.mono _ _ _ _
      | exact laws_eqCanvasS.mono _ _ _
      | exact laws_eqInt64S.mono _ _ _
      | exact laws_heldInt64S.mono _ _ _
      | exact laws_markCanvasS.mono _ _ _
      | exact laws_markInt64S.mono _ _ _
      | exact laws_szCanvasS.mono _ _ _
      | exact laws_toCanvasS.mono _ _
      | exact spec_BestSet.mono _ _ _ _
      | exact LeO.none _
      | refine LeO.ite ?_ ?_
      | refine LeO.bind ?_ (fun _ => ?_)
theorem laws_FnExactBestSet.mono : ∀ a0 a1 a2 k, LeO (laws_FnExactBestSet.f k a0 a1 a2) (laws_FnExactBestSet.f (k + 1) a0 a1 a2) := by
  intro a0 a1 a2 k
  obtain ⟨ih0, ih1, ih2⟩ := laws_FnExactBestSet.mono_l k
  unfold laws_FnExactBestSet.f
  repeat' first
      | (with_reducible exact ih0 _ _ _ _ _ _ _ _ _ _ _)
      | (with_reducible exact ih1 _ _ _ _ _ _ _ _)
      | (with_reducible exact ih2 _ _ _)
      | (with_reducible exact impl_BestSet.mono _ _ _ _)
      | (with_reducible exact laws_eqCanvasS.mono _ _ _)
      | (with_reducible exact laws_eqInt64S.mono _ _ _)
      | (with_reducible exact laws_heldInt64S.mono _ _ _)
      | (with_reducible exact laws_markCanvasS.mono _ _ _)
      | (with_reducible exact laws_markInt64S.mono _ _ _)
      | (with_reducible exact laws_szCanvasS.mono _ _ _)
      | (with_reducible exact laws_toCanvasS.mono _ _)
      | (with_reducible exact spec_BestSet.mono _ _ _ _)
      | (with_reducible exact LeO.refl _)
      | (with_reducible exact LeO.none _)
      | (with_reducible refine LeO.ite ?_ ?_)
      | (with_reducible refine LeO.bind ?_ (fun _ => ?_))
      | exact ih0 _ _ _ _ _ _ _ _ _ _ _
      | exact ih1 _ _ _ _ _ _ _ _
      | exact ih2 _ _ _
      | exact impl_BestSet.mono _ _ _ _
      | exact laws_eqCanvasS.mono _ _ _
      | exact laws_eqInt64S.mono _ _ _
      | exact laws_heldInt64S.mono _ _ _
      | exact laws_markCanvasS.mono _ _ _
      | exact laws_markInt64S.mono _ _ _
      | exact laws_szCanvasS.mono _ _ _
      | exact laws_toCanvasS.mono _ _
      | exact spec_BestSet.mono _ _ _ _
      | exact LeO.none _
      | refine LeO.ite ?_ ?_
      | refine LeO.bind ?_ (fun _ => ?_)
theorem laws_FnExactBestSet.j0_cut (k : Nat) (x0_ : List (S23)) (x1_ : Int) (x2_ : Int) (x3_ : List Int) (x4_ : Int) (x5_ : Int) (x6_ : List (S27)) (x7_ : List Int) (x8_ : Int) (x9_ : Int) (r : Bool) (h : laws_FnExactBestSet.j0 k x0_ x1_ x2_ x3_ x4_ x5_ x6_ x7_ x8_ x9_ true = some r) (hr : r = true) : False := by
  cases k with
  | zero => simp only [laws_FnExactBestSet.j0] at h; cases h
  | succ k =>
    have h2 : some false = some r := h
    cases h2
    cases hr
theorem laws_FnExactBestSet.j1_cut (k : Nat) (x0_ : List (S23)) (x1_ : Int) (x2_ : Int) (x3_ : List Int) (x4_ : Int) (x5_ : Int) (x6_ : List Int) (r : Bool) (h : laws_FnExactBestSet.j1 k x0_ x1_ x2_ x3_ x4_ x5_ x6_ true = some r) (hr : r = true) : False := by
  cases k with
  | zero => simp only [laws_FnExactBestSet.j1] at h; cases h
  | succ k =>
    have h2 : some false = some r := h
    cases h2
    cases hr
theorem laws_FnExactBestSet.j2_cut (k : Nat) (x0_ : List Int) (x1_ : Int) (r : Bool) (h : laws_FnExactBestSet.j2 k x0_ x1_ true = some r) (hr : r = true) : False := by
  cases k with
  | zero => simp only [laws_FnExactBestSet.j2] at h; cases h
  | succ k =>
    have h2 : some false = some r := h
    cases h2
    cases hr
set_option maxHeartbeats 8000000 in
set_option maxRecDepth 100000 in
theorem laws_FnExactBestSet.calls (k : Nat) (A0 : Option Addr) (c0 : Nat) (l0 : List (S23)) (a1 : Int) (a2 : Int) (r : Bool) (w : World) (hr0 : Kd.C k23 w A0 l0.length l0) (hc0 : l0.length ≤ c0) (h : laws_FnExactBestSet.f k l0 a1 a2 = some r) (hrt : r = true) :
    Calls Try.prog 10 #[.slice A0 l0.length c0, .int .i64 a1, .int .i64 a2] w fun e w' => e = .returned (.bool r) ∧ Below w.heap.size w w' := by
  have HRT := Aside0.mk hrt
  clear hrt
  have HR0 := Aside0.mk hr0
  have HC0 := Aside0.mk hc0
  clear hr0 hc0
  have HB := Aside0.mk (Below.refl w.heap.size w)
  have H : ((laws_szCanvasS.f k l0 1048576).bind fun t210 => (if t210 < 0 then (some true) else ((laws_toCanvasS.f k l0).bind fun t211 => ((spec_BestSet.f k t211 a1 a2).bind fun bt214 => ((laws_toCanvasS.f k l0).bind fun t219 => ((impl_BestSet.f k t219 a1 a2).bind fun bt222 => ((laws_eqInt64S.f k bt222.1 bt214.1).bind fun t227 => (if t227 = true then (if bt222.2.1 = bt214.2.1 then (laws_FnExactBestSet.j0 k l0 a1 a2 bt214.1 bt214.2.1 bt214.2.2 t219 bt222.1 bt222.2.1 bt222.2.2 (bt222.2.2 != bt214.2.2)) else (laws_FnExactBestSet.j0 k l0 a1 a2 bt214.1 bt214.2.1 bt214.2.2 t219 bt222.1 bt222.2.1 bt222.2.2 true)) else (laws_FnExactBestSet.j0 k l0 a1 a2 bt214.1 bt214.2.1 bt214.2.2 t219 bt222.1 bt222.2.1 bt222.2.2 true))))))))) = some r := h
  clear h
  replace H := Option.bind_eq_some_iff.mp H
  obtain ⟨t210, A40, H⟩ := H
  replace H : (if t210 < 0 then (some true) else ((laws_toCanvasS.f k l0).bind fun t211 => ((spec_BestSet.f k t211 a1 a2).bind fun bt214 => ((laws_toCanvasS.f k l0).bind fun t219 => ((impl_BestSet.f k t219 a1 a2).bind fun bt222 => ((laws_eqInt64S.f k bt222.1 bt214.1).bind fun t227 => (if t227 = true then (if bt222.2.1 = bt214.2.1 then (laws_FnExactBestSet.j0 k l0 a1 a2 bt214.1 bt214.2.1 bt214.2.2 t219 bt222.1 bt222.2.1 bt222.2.2 (bt222.2.2 != bt214.2.2)) else (laws_FnExactBestSet.j0 k l0 a1 a2 bt214.1 bt214.2.1 bt214.2.2 t219 bt222.1 bt222.2.1 bt222.2.2 true)) else (laws_FnExactBestSet.j0 k l0 a1 a2 bt214.1 bt214.2.1 bt214.2.2 t219 bt222.1 bt222.2.1 bt222.2.2 true)))))))) = some r := H
  have A4 := Aside0.mk A40
  clear A40
  by_cases c5 : t210 < 0
  · rw [if_pos c5] at H
    have c5b0 : decide (t210 < 0) = true := decide_eq_true c5
    clear c5
    obtain rfl := Option.some.inj H
    go_enter Try.func10, Try.ntmps10
    go_wp2_with (first | ((with_reducible refine gate_callee (f := 21) rfl ?_); refine goesL_ (some 23) rfl rfl Try.func21 (by kernel_rfl) rfl #[.slice A0 l0.length c0, .int .i64 1048576] rfl (by (try simp only [List.map_toArray, List.map_cons, List.map_nil]); first | done | rfl | (simp only [List.length_drop, List.length_take]; rfl)) ?_; (with_reducible refine (laws_szCanvasS.calls k _ _ l0 1048576 t210 _ ?side1 ?side2 A4.out).mono ?_); (case side1 => repeat (first | exact HR0.out | (with_reducible refine Kd.C_alloc ?_ _) | (with_reducible refine Kd.C_drewN ?_ _) | (with_reducible refine Kd.C_drew ?_))); (case side2 => exact HC0.out); rintro e w6 ⟨rfl, hb⟩; refine ⟨_, rfl, ?_⟩; have n0_ := Aside0.mk (below_step (by repeat (first | (with_reducible first | exact HB.out | apply below_alloc | apply pw_below_drewN | apply below_drew1) | exact HB.out)) hb); clear HB; have HB := n0_; clear n0_; (try clear hb); (try clear hb2); (try clear hk); (try clear hi)))
    go_ret
    exact ⟨by first | rfl | (simp [errW_none, errW_some] <;> rfl) | (simp [*, errW_none, errW_some] <;> rfl), by repeat (first | (with_reducible first | exact HB.out | apply below_alloc | apply pw_below_drewN | apply below_drew1) | exact HB.out)⟩
  · rw [if_neg c5] at H
    have c5b0 : decide (t210 < 0) = false := decide_eq_false c5
    clear c5
    replace H := Option.bind_eq_some_iff.mp H
    obtain ⟨t211, A70, H⟩ := H
    replace H : ((spec_BestSet.f k t211 a1 a2).bind fun bt214 => ((laws_toCanvasS.f k l0).bind fun t219 => ((impl_BestSet.f k t219 a1 a2).bind fun bt222 => ((laws_eqInt64S.f k bt222.1 bt214.1).bind fun t227 => (if t227 = true then (if bt222.2.1 = bt214.2.1 then (laws_FnExactBestSet.j0 k l0 a1 a2 bt214.1 bt214.2.1 bt214.2.2 t219 bt222.1 bt222.2.1 bt222.2.2 (bt222.2.2 != bt214.2.2)) else (laws_FnExactBestSet.j0 k l0 a1 a2 bt214.1 bt214.2.1 bt214.2.2 t219 bt222.1 bt222.2.1 bt222.2.2 true)) else (laws_FnExactBestSet.j0 k l0 a1 a2 bt214.1 bt214.2.1 bt214.2.2 t219 bt222.1 bt222.2.1 bt222.2.2 true)))))) = some r := H
    have A7 := Aside0.mk A70
    clear A70
    replace H := Option.bind_eq_some_iff.mp H
    obtain ⟨⟨t214, t215, t216⟩, A80, H⟩ := H
    replace H : ((laws_toCanvasS.f k l0).bind fun t219 => ((impl_BestSet.f k t219 a1 a2).bind fun bt222 => ((laws_eqInt64S.f k bt222.1 t214).bind fun t227 => (if t227 = true then (if bt222.2.1 = t215 then (laws_FnExactBestSet.j0 k l0 a1 a2 t214 t215 t216 t219 bt222.1 bt222.2.1 bt222.2.2 (bt222.2.2 != t216)) else (laws_FnExactBestSet.j0 k l0 a1 a2 t214 t215 t216 t219 bt222.1 bt222.2.1 bt222.2.2 true)) else (laws_FnExactBestSet.j0 k l0 a1 a2 t214 t215 t216 t219 bt222.1 bt222.2.1 bt222.2.2 true))))) = some r := H
    have A8 := Aside0.mk A80
    clear A80
    replace H := Option.bind_eq_some_iff.mp H
    obtain ⟨t219, A90, H⟩ := H
    replace H : ((impl_BestSet.f k t219 a1 a2).bind fun bt222 => ((laws_eqInt64S.f k bt222.1 t214).bind fun t227 => (if t227 = true then (if bt222.2.1 = t215 then (laws_FnExactBestSet.j0 k l0 a1 a2 t214 t215 t216 t219 bt222.1 bt222.2.1 bt222.2.2 (bt222.2.2 != t216)) else (laws_FnExactBestSet.j0 k l0 a1 a2 t214 t215 t216 t219 bt222.1 bt222.2.1 bt222.2.2 true)) else (laws_FnExactBestSet.j0 k l0 a1 a2 t214 t215 t216 t219 bt222.1 bt222.2.1 bt222.2.2 true)))) = some r := H
    have A9 := Aside0.mk A90
    clear A90
    replace H := Option.bind_eq_some_iff.mp H
    obtain ⟨⟨t222, t223, t224⟩, A100, H⟩ := H
    replace H : ((laws_eqInt64S.f k t222 t214).bind fun t227 => (if t227 = true then (if t223 = t215 then (laws_FnExactBestSet.j0 k l0 a1 a2 t214 t215 t216 t219 t222 t223 t224 (t224 != t216)) else (laws_FnExactBestSet.j0 k l0 a1 a2 t214 t215 t216 t219 t222 t223 t224 true)) else (laws_FnExactBestSet.j0 k l0 a1 a2 t214 t215 t216 t219 t222 t223 t224 true))) = some r := H
    have A10 := Aside0.mk A100
    clear A100
    have HC11 := Aside0.mk H
    clear H
    go_enter Try.func10, Try.ntmps10
    go_upto_region 8 with (first | ((with_reducible refine gate_callee (f := 21) rfl ?_); refine goesL_ (some 23) rfl rfl Try.func21 (by kernel_rfl) rfl #[.slice A0 l0.length c0, .int .i64 1048576] rfl (by (try simp only [List.map_toArray, List.map_cons, List.map_nil]); first | done | rfl | (simp only [List.length_drop, List.length_take]; rfl)) ?_; (with_reducible refine (laws_szCanvasS.calls k _ _ l0 1048576 t210 _ ?side1 ?side2 A4.out).mono ?_); (case side1 => repeat (first | exact HR0.out | (with_reducible refine Kd.C_alloc ?_ _) | (with_reducible refine Kd.C_drewN ?_ _) | (with_reducible refine Kd.C_drew ?_))); (case side2 => exact HC0.out); rintro e w12 ⟨rfl, hb⟩; refine ⟨_, rfl, ?_⟩; have n0_ := Aside0.mk (below_step (by repeat (first | (with_reducible first | exact HB.out | apply below_alloc | apply pw_below_drewN | apply below_drew1) | exact HB.out)) hb); clear HB; have HB := n0_; clear n0_; (try clear hb); (try clear hb2); (try clear hk); (try clear hi)) | ((with_reducible refine gate_callee (f := 23) rfl ?_); refine goesL_ (some 28) rfl rfl Try.func23 (by kernel_rfl) rfl #[.slice A0 l0.length c0] rfl (by (try simp only [List.map_toArray, List.map_cons, List.map_nil]); first | done | rfl | (simp only [List.length_drop, List.length_take]; rfl)) ?_; (with_reducible refine (laws_toCanvasS.calls k _ _ l0 t211 _ ?side1 ?side2 A7.out).mono ?_); (case side1 => repeat (first | exact (Kd.C_below HR0.out HB.out) | (with_reducible refine Kd.C_alloc ?_ _) | (with_reducible refine Kd.C_drewN ?_ _) | (with_reducible refine Kd.C_drew ?_))); (case side2 => exact HC0.out); rintro e w13 ⟨v212, rfl, ho0, hb⟩; refine ⟨_, rfl, ?_⟩; have n0_ := Aside0.mk (Kd.R_lower ho0 (below_size (by repeat (first | (with_reducible first | exact HB.out | apply below_alloc | apply pw_below_drewN | apply below_drew1) | exact HB.out)))); have n1_ := Aside0.mk (below_step (by repeat (first | (with_reducible first | exact HB.out | apply below_alloc | apply pw_below_drewN | apply below_drew1) | exact HB.out)) hb); clear HB; have HO213 := n0_; have HB := n1_; clear n0_ n1_; (try clear hb); (try clear hb2); (try clear hk); (try clear hi); (try clear ho0); obtain ⟨Ao14, co14, eo14⟩ := Kd.R_slice HO213.out; subst eo14) | ((with_reducible refine gate_callee (f := 38) rfl ?_); refine goesL_ (some 31) rfl rfl Try.func38 (by kernel_rfl) rfl #[.slice Ao14 t211.length co14, .int .i64 a1, .int .i64 a2] rfl (by (try simp only [List.map_toArray, List.map_cons, List.map_nil]); first | done | rfl | (simp only [List.length_drop, List.length_take]; rfl)) ?_; (with_reducible refine (spec_BestSet.calls k _ _ t211 a1 a2 t214 t215 t216 _ ?side1 ?side2 A8.out).mono ?_); (case side1 => repeat (first | exact (Kd.R_reads' HO213.out).2.2 | (with_reducible refine Kd.C_alloc ?_ _) | (with_reducible refine Kd.C_drewN ?_ _) | (with_reducible refine Kd.C_drew ?_))); (case side2 => exact (Kd.R_reads' HO213.out).2.1); rintro e w15 ⟨v217, rfl, ho0, hb⟩; refine ⟨_, rfl, ?_⟩; have n0_ := Aside0.mk (Kd.R_below (by (with_reducible repeat (first | apply Kd.R_alloc | apply Kd.R_drewN | apply Kd.R_drew)); exact HO213.out) hb); have n1_ := Aside0.mk (Kd.R_lower ho0 (below_size (by repeat (first | (with_reducible first | exact HB.out | apply below_alloc | apply pw_below_drewN | apply below_drew1) | exact HB.out)))); have n2_ := Aside0.mk (below_step (by repeat (first | (with_reducible first | exact HB.out | apply below_alloc | apply pw_below_drewN | apply below_drew1) | exact HB.out)) hb); clear HO213; clear HB; have HO213 := n0_; have HO218 := n1_; have HB := n2_; clear n0_ n1_ n2_; (try clear hb); (try clear hb2); (try clear hk); (try clear hi); (try clear ho0)) | ((with_reducible refine gate_callee (f := 23) rfl ?_); refine goesL_ (some 36) rfl rfl Try.func23 (by kernel_rfl) rfl #[.slice A0 l0.length c0] rfl (by (try simp only [List.map_toArray, List.map_cons, List.map_nil]); first | done | rfl | (simp only [List.length_drop, List.length_take]; rfl)) ?_; (with_reducible refine (laws_toCanvasS.calls k _ _ l0 t219 _ ?side1 ?side2 A9.out).mono ?_); (case side1 => repeat (first | exact (Kd.C_below HR0.out HB.out) | (with_reducible refine Kd.C_alloc ?_ _) | (with_reducible refine Kd.C_drewN ?_ _) | (with_reducible refine Kd.C_drew ?_))); (case side2 => exact HC0.out); rintro e w16 ⟨v220, rfl, ho0, hb⟩; refine ⟨_, rfl, ?_⟩; have n0_ := Aside0.mk (Kd.R_elder' (by (with_reducible repeat (first | apply Kd.R_alloc | apply Kd.R_drewN | apply Kd.R_drew)); exact HO213.out) (Kd.R_base ho0) hb); have n1_ := Aside0.mk (Kd.R_below (by (with_reducible repeat (first | apply Kd.R_alloc | apply Kd.R_drewN | apply Kd.R_drew)); exact HO218.out) hb); have n2_ := Aside0.mk (Kd.R_lower (Kd.R_new' ho0 (Kd.R_lt (by (with_reducible repeat (first | apply Kd.R_alloc | apply Kd.R_drewN | apply Kd.R_drew)); exact HO213.out))) (below_size (by repeat (first | (with_reducible first | exact HB.out | apply below_alloc | apply pw_below_drewN | apply below_drew1) | exact HB.out)))); have n3_ := Aside0.mk (below_step (by repeat (first | (with_reducible first | exact HB.out | apply below_alloc | apply pw_below_drewN | apply below_drew1) | exact HB.out)) hb); clear HO213; clear HO218; clear HB; have HO213 := n0_; have HO218 := n1_; have HO221 := n2_; have HB := n3_; clear n0_ n1_ n2_ n3_; (try clear hb); (try clear hb2); (try clear hk); (try clear hi); (try clear ho0); obtain ⟨Ao17, co17, eo17⟩ := Kd.R_slice HO221.out; subst eo17) | ((with_reducible refine gate_callee (f := 39) rfl ?_); refine goesL_ (some 41) rfl rfl Try.func39 (by kernel_rfl) rfl #[.slice Ao17 t219.length co17, .int .i64 a1, .int .i64 a2] rfl (by (try simp only [List.map_toArray, List.map_cons, List.map_nil]); first | done | rfl | (simp only [List.length_drop, List.length_take]; rfl)) ?_; (with_reducible refine (impl_BestSet.calls k _ _ t219 a1 a2 t222 t223 t224 _ ?side1 ?side2 A10.out).mono ?_); (case side1 => repeat (first | exact (Kd.R_reads' HO221.out).2.2 | (with_reducible refine Kd.C_alloc ?_ _) | (with_reducible refine Kd.C_drewN ?_ _) | (with_reducible refine Kd.C_drew ?_))); (case side2 => exact (Kd.R_reads' HO221.out).2.1); rintro e w18 ⟨v225, rfl, ho0, hb⟩; refine ⟨_, rfl, ?_⟩; have n0_ := Aside0.mk (Kd.R_below (by (with_reducible repeat (first | apply Kd.R_alloc | apply Kd.R_drewN | apply Kd.R_drew)); exact HO213.out) hb); have n1_ := Aside0.mk (Kd.R_elder' (by (with_reducible repeat (first | apply Kd.R_alloc | apply Kd.R_drewN | apply Kd.R_drew)); exact HO218.out) (Kd.R_base ho0) hb); have n2_ := Aside0.mk (Kd.R_below (by (with_reducible repeat (first | apply Kd.R_alloc | apply Kd.R_drewN | apply Kd.R_drew)); exact HO221.out) hb); have n3_ := Aside0.mk (Kd.R_lower (Kd.R_new' ho0 (Kd.R_lt (by (with_reducible repeat (first | apply Kd.R_alloc | apply Kd.R_drewN | apply Kd.R_drew)); exact HO218.out))) (below_size (by repeat (first | (with_reducible first | exact HB.out | apply below_alloc | apply pw_below_drewN | apply below_drew1) | exact HB.out)))); have n4_ := Aside0.mk (below_step (by repeat (first | (with_reducible first | exact HB.out | apply below_alloc | apply pw_below_drewN | apply below_drew1) | exact HB.out)) hb); clear HO213; clear HO218; clear HO221; clear HB; have HO213 := n0_; have HO218 := n1_; have HO221 := n2_; have HO226 := n3_; have HB := n4_; clear n0_ n1_ n2_ n3_ n4_; (try clear hb); (try clear hb2); (try clear hk); (try clear hi); (try clear ho0)))
    (try simp only [Act.put, List.setIfInBounds_toArray, List.set_cons_zero, List.set_cons_succ])
    go_cut [58] (fun v58 wc => ∃ (kq : Nat) (x58_10 : Bool), v58 = .bool x58_10 ∧ Aside0 (laws_FnExactBestSet.j0 kq l0 a1 a2 t214 t215 t216 t219 t222 t223 t224 x58_10 = some r) ∧ Aside0 (kq ≤ k) ∧ Aside0 (Kd.R (Kd.int .i64) 2 wc w.heap.size (fun k_ => some k_ ≠ (v225 : Value).ownBlock) v217 t214) ∧ Aside0 (Kd.R k27 27 wc w.heap.size (fun _ => True) (.slice Ao17 t219.length co17) t219) ∧ Aside0 (Kd.R (Kd.int .i64) 2 wc w.heap.size (fun k_ => some k_ ≠ (v217 : Value).ownBlock) v225 t222) ∧ Aside0 (Below w.heap.size w wc))
    case first =>
      have H := HC11.out
      clear HC11
      replace H := Option.bind_eq_some_iff.mp H
      obtain ⟨t227, A190, H⟩ := H
      replace H : (if t227 = true then (if t223 = t215 then (laws_FnExactBestSet.j0 k l0 a1 a2 t214 t215 t216 t219 t222 t223 t224 (t224 != t216)) else (laws_FnExactBestSet.j0 k l0 a1 a2 t214 t215 t216 t219 t222 t223 t224 true)) else (laws_FnExactBestSet.j0 k l0 a1 a2 t214 t215 t216 t219 t222 t223 t224 true)) = some r := H
      have A19 := Aside0.mk A190
      clear A190
      by_cases c20 : t227 = true
      · subst c20
        have H1 : (if t223 = t215 then (laws_FnExactBestSet.j0 k l0 a1 a2 t214 t215 t216 t219 t222 t223 t224 (t224 != t216)) else (laws_FnExactBestSet.j0 k l0 a1 a2 t214 t215 t216 t219 t222 t223 t224 true)) = some r := by rw [if_pos rfl] at H; exact H
        clear H
        have H := H1
        clear H1
        by_cases c21 : t223 = t215
        · rw [if_pos c21] at H
          have c21b0 : (t223 == t215) = true := beq_iff_eq.mpr c21
          have c21b1 : (t223 != t215) = false := bne_eq_false_iff_eq.mpr c21
          clear c21
          (first | rw [c21b0] | (simp only [i64_w, i32_w]; rw [c21b0]) | skip)
          have H' := Aside0.mk H
          clear H
          obtain ⟨Ao22, co22, eo22⟩ := Kd.R_slice HO226.out
          subst eo22
          obtain ⟨Ao23, co23, eo23⟩ := Kd.R_slice HO218.out
          subst eo23
          go_wp2_with (first | ((with_reducible refine gate_callee (f := 20) rfl ?_); refine goesL_ (some 47) rfl rfl Try.func20 (by kernel_rfl) rfl #[.slice Ao22 t222.length co22, .slice Ao23 t214.length co23] rfl (by (try simp only [List.map_toArray, List.map_cons, List.map_nil]); first | done | rfl | (simp only [List.length_drop, List.length_take]; rfl)) ?_; (with_reducible refine (laws_eqInt64S.calls k _ _ t222 _ _ t214 true _ ?side1 ?side2 ?side3 ?side4 A19.out).mono ?_); (case side1 => repeat (first | exact (Kd.R_reads' HO226.out).2.2 | (with_reducible refine Kd.C_alloc ?_ _) | (with_reducible refine Kd.C_drewN ?_ _) | (with_reducible refine Kd.C_drew ?_))); (case side2 => exact (Kd.R_reads' HO226.out).2.1); (case side3 => repeat (first | exact (Kd.R_reads' HO218.out).2.2 | (with_reducible refine Kd.C_alloc ?_ _) | (with_reducible refine Kd.C_drewN ?_ _) | (with_reducible refine Kd.C_drew ?_))); (case side4 => exact (Kd.R_reads' HO218.out).2.1); rintro e w' ⟨rfl, ⟨nd, rfl⟩⟩; refine ⟨_, rfl, ?_⟩))
          go_meet
          case rel => exact ⟨_, ((t224 != t216)), (by first | rfl | (simp; done) | (simp [*]; done)), H', ⟨by first | omega | exact Nat.le_refl _⟩, ⟨by (with_reducible repeat (first | apply Kd.R_alloc | apply Kd.R_drewN | apply Kd.R_drew)); exact Kd.R_mono HO218.out (fun _ hk => hk.2)⟩, ⟨by (with_reducible repeat (first | apply Kd.R_alloc | apply Kd.R_drewN | apply Kd.R_drew)); exact Kd.R_mono HO221.out (fun _ hk => trivial)⟩, ⟨by (with_reducible repeat (first | apply Kd.R_alloc | apply Kd.R_drewN | apply Kd.R_drew)); exact Kd.R_mono HO226.out (fun _ hk => hk.2)⟩, ⟨by repeat (first | (with_reducible first | exact HB.out | apply below_alloc | apply pw_below_drewN | apply below_drew1) | exact HB.out)⟩⟩
        · rw [if_neg c21] at H
          have c21b0 : (t223 == t215) = false := beq_eq_false_iff_ne.mpr c21
          have c21b1 : (t223 != t215) = true := bne_iff_ne.mpr c21
          (first | rw [c21b0] | (simp only [i64_w, i32_w]; rw [c21b0]) | skip)
          exact (laws_FnExactBestSet.j0_cut _ _ _ _ _ _ _ _ _ _ _ _ H HRT.out).elim
      · replace c20 := Bool.eq_false_iff.mpr c20
        subst c20
        have H1 : (laws_FnExactBestSet.j0 k l0 a1 a2 t214 t215 t216 t219 t222 t223 t224 true) = some r := by rw [if_neg (show ¬ (false = true) by decide)] at H; exact H
        clear H
        have H := H1
        clear H1
        exact (laws_FnExactBestSet.j0_cut _ _ _ _ _ _ _ _ _ _ _ _ H HRT.out).elim
    case rest =>
      clear HC11
      try clear c1
      try clear c2
      try clear p2
      try clear c3
      try clear c5
      try clear c5b0
      try clear c10
      try clear c20
      try clear c21
      try clear c21b0
      try clear c21b1
      try clear c23
      obtain ⟨kq, x58_10, rfl, HA, HJ10, HO_8, HO_11, HO_12, HB⟩ := hcut
      cases kq with
      | zero => exact absurd HA.out (by simp [laws_FnExactBestSet.j0])
      | succ kj10 =>
        have H := HA.out
        clear HA
        simp only [laws_FnExactBestSet.j0] at H
        by_cases c28 : x58_10 = true
        · subst c28
          have H1 : (some false) = some r := by rw [if_pos rfl] at H; exact H
          clear H
          have H := H1
          clear H1
          obtain rfl := Option.some.inj H
          exact absurd HRT.out (by decide)
        · replace c28 := Bool.eq_false_iff.mpr c28
          subst c28
          have H1 : ((laws_toCanvasS.f kj10 l0).bind fun t228 => ((laws_eqCanvasS.f kj10 t219 t228).bind fun t231 => (if t231 = true then ((laws_markCanvasS.f kj10 t219 1).bind fun bt232 => (if bt232.1 < 0 then (laws_FnExactBestSet.j1 kj10 l0 a1 a2 t214 t215 t216 t222 true) else ((laws_eqInt64S.f kj10 t222 t214).bind fun t234 => (if t234 = true then (if t223 = t215 then (laws_FnExactBestSet.j1 kj10 l0 a1 a2 t214 t215 t216 t222 (t224 != t216)) else (laws_FnExactBestSet.j1 kj10 l0 a1 a2 t214 t215 t216 t222 true)) else (laws_FnExactBestSet.j1 kj10 l0 a1 a2 t214 t215 t216 t222 true))))) else (some false)))) = some r := by rw [if_neg (show ¬ (false = true) by decide)] at H; exact H
          clear H
          have H := H1
          clear H1
          replace H := Option.bind_eq_some_iff.mp H
          obtain ⟨t228, A290, H⟩ := H
          replace H : ((laws_eqCanvasS.f kj10 t219 t228).bind fun t231 => (if t231 = true then ((laws_markCanvasS.f kj10 t219 1).bind fun bt232 => (if bt232.1 < 0 then (laws_FnExactBestSet.j1 kj10 l0 a1 a2 t214 t215 t216 t222 true) else ((laws_eqInt64S.f kj10 t222 t214).bind fun t234 => (if t234 = true then (if t223 = t215 then (laws_FnExactBestSet.j1 kj10 l0 a1 a2 t214 t215 t216 t222 (t224 != t216)) else (laws_FnExactBestSet.j1 kj10 l0 a1 a2 t214 t215 t216 t222 true)) else (laws_FnExactBestSet.j1 kj10 l0 a1 a2 t214 t215 t216 t222 true))))) else (some false))) = some r := H
          have A29 := Aside0.mk A290
          clear A290
          replace H := Option.bind_eq_some_iff.mp H
          obtain ⟨t231, A300, H⟩ := H
          replace H : (if t231 = true then ((laws_markCanvasS.f kj10 t219 1).bind fun bt232 => (if bt232.1 < 0 then (laws_FnExactBestSet.j1 kj10 l0 a1 a2 t214 t215 t216 t222 true) else ((laws_eqInt64S.f kj10 t222 t214).bind fun t234 => (if t234 = true then (if t223 = t215 then (laws_FnExactBestSet.j1 kj10 l0 a1 a2 t214 t215 t216 t222 (t224 != t216)) else (laws_FnExactBestSet.j1 kj10 l0 a1 a2 t214 t215 t216 t222 true)) else (laws_FnExactBestSet.j1 kj10 l0 a1 a2 t214 t215 t216 t222 true))))) else (some false)) = some r := H
          have A30 := Aside0.mk A300
          clear A300
          by_cases c31 : t231 = true
          · subst c31
            have H1 : ((laws_markCanvasS.f kj10 t219 1).bind fun bt232 => (if bt232.1 < 0 then (laws_FnExactBestSet.j1 kj10 l0 a1 a2 t214 t215 t216 t222 true) else ((laws_eqInt64S.f kj10 t222 t214).bind fun t234 => (if t234 = true then (if t223 = t215 then (laws_FnExactBestSet.j1 kj10 l0 a1 a2 t214 t215 t216 t222 (t224 != t216)) else (laws_FnExactBestSet.j1 kj10 l0 a1 a2 t214 t215 t216 t222 true)) else (laws_FnExactBestSet.j1 kj10 l0 a1 a2 t214 t215 t216 t222 true))))) = some r := by rw [if_pos rfl] at H; exact H
            clear H
            have H := H1
            clear H1
            replace H := Option.bind_eq_some_iff.mp H
            obtain ⟨⟨t232, t233⟩, A320, H⟩ := H
            replace H : (if t232 < 0 then (laws_FnExactBestSet.j1 kj10 l0 a1 a2 t214 t215 t216 t222 true) else ((laws_eqInt64S.f kj10 t222 t214).bind fun t234 => (if t234 = true then (if t223 = t215 then (laws_FnExactBestSet.j1 kj10 l0 a1 a2 t214 t215 t216 t222 (t224 != t216)) else (laws_FnExactBestSet.j1 kj10 l0 a1 a2 t214 t215 t216 t222 true)) else (laws_FnExactBestSet.j1 kj10 l0 a1 a2 t214 t215 t216 t222 true)))) = some r := H
            have A32 := Aside0.mk A320
            clear A320
            have HC33 := Aside0.mk H
            clear H
            go_upto_region 14 with (first | ((with_reducible refine gate_callee (f := 23) rfl ?_); refine goesL_ (some 61) rfl rfl Try.func23 (by kernel_rfl) rfl #[.slice A0 l0.length c0] rfl (by (try simp only [List.map_toArray, List.map_cons, List.map_nil]); first | done | rfl | (simp only [List.length_drop, List.length_take]; rfl)) ?_; (with_reducible refine (laws_toCanvasS.calls kj10 _ _ l0 t228 _ ?side1 ?side2 A29.out).mono ?_); (case side1 => repeat (first | exact (Kd.C_below HR0.out HB.out) | (with_reducible refine Kd.C_alloc ?_ _) | (with_reducible refine Kd.C_drewN ?_ _) | (with_reducible refine Kd.C_drew ?_))); (case side2 => exact HC0.out); rintro e w34 ⟨v229, rfl, ho0, hb⟩; refine ⟨_, rfl, ?_⟩; have n0_ := Aside0.mk (Kd.R_below (by (with_reducible repeat (first | apply Kd.R_alloc | apply Kd.R_drewN | apply Kd.R_drew)); exact HO_8.out) hb); have n1_ := Aside0.mk (Kd.R_elder' (by (with_reducible repeat (first | apply Kd.R_alloc | apply Kd.R_drewN | apply Kd.R_drew)); exact HO_11.out) (Kd.R_base ho0) hb); have n2_ := Aside0.mk (Kd.R_below (by (with_reducible repeat (first | apply Kd.R_alloc | apply Kd.R_drewN | apply Kd.R_drew)); exact HO_12.out) hb); have n3_ := Aside0.mk (Kd.R_lower (Kd.R_new' ho0 (Kd.R_lt (by (with_reducible repeat (first | apply Kd.R_alloc | apply Kd.R_drewN | apply Kd.R_drew)); exact HO_11.out))) (below_size (by repeat (first | (with_reducible first | exact HB.out | apply below_alloc | apply pw_below_drewN | apply below_drew1) | exact HB.out)))); have n4_ := Aside0.mk (below_step (by repeat (first | (with_reducible first | exact HB.out | apply below_alloc | apply pw_below_drewN | apply below_drew1) | exact HB.out)) hb); clear HO_8; clear HO_11; clear HO_12; clear HB; have HO_8 := n0_; have HO_11 := n1_; have HO_12 := n2_; have HO230 := n3_; have HB := n4_; clear n0_ n1_ n2_ n3_ n4_; (try clear hb); (try clear hb2); (try clear hk); (try clear hi); (try clear ho0); obtain ⟨Ao35, co35, eo35⟩ := Kd.R_slice HO230.out; subst eo35) | ((with_reducible refine gate_callee (f := 25) rfl ?_); refine goesL_ (some 62) rfl rfl Try.func25 (by kernel_rfl) rfl #[.slice Ao17 t219.length co17, .slice Ao35 t228.length co35] rfl (by (try simp only [List.map_toArray, List.map_cons, List.map_nil]); first | done | rfl | (simp only [List.length_drop, List.length_take]; rfl)) ?_; (with_reducible refine (laws_eqCanvasS.calls kj10 _ _ t219 _ _ t228 true _ ?side1 ?side2 ?side3 ?side4 A30.out).mono ?_); (case side1 => repeat (first | exact (Kd.R_reads' HO_11.out).2.2 | (with_reducible refine Kd.C_alloc ?_ _) | (with_reducible refine Kd.C_drewN ?_ _) | (with_reducible refine Kd.C_drew ?_))); (case side2 => exact (Kd.R_reads' HO_11.out).2.1); (case side3 => repeat (first | exact (Kd.R_reads' HO230.out).2.2 | (with_reducible refine Kd.C_alloc ?_ _) | (with_reducible refine Kd.C_drewN ?_ _) | (with_reducible refine Kd.C_drew ?_))); (case side4 => exact (Kd.R_reads' HO230.out).2.1); rintro e w36 ⟨rfl, hb⟩; refine ⟨_, rfl, ?_⟩; have n0_ := Aside0.mk (Kd.R_below (by (with_reducible repeat (first | apply Kd.R_alloc | apply Kd.R_drewN | apply Kd.R_drew)); exact HO_8.out) hb); have n1_ := Aside0.mk (Kd.R_below (by (with_reducible repeat (first | apply Kd.R_alloc | apply Kd.R_drewN | apply Kd.R_drew)); exact HO_11.out) hb); have n2_ := Aside0.mk (Kd.R_below (by (with_reducible repeat (first | apply Kd.R_alloc | apply Kd.R_drewN | apply Kd.R_drew)); exact HO_12.out) hb); have n3_ := Aside0.mk (Kd.R_below (by (with_reducible repeat (first | apply Kd.R_alloc | apply Kd.R_drewN | apply Kd.R_drew)); exact HO230.out) hb); have n4_ := Aside0.mk (below_step (by repeat (first | (with_reducible first | exact HB.out | apply below_alloc | apply pw_below_drewN | apply below_drew1) | exact HB.out)) hb); clear HO_8; clear HO_11; clear HO_12; clear HO230; clear HB; have HO_8 := n0_; have HO_11 := n1_; have HO_12 := n2_; have HO230 := n3_; have HB := n4_; clear n0_ n1_ n2_ n3_ n4_; (try clear hb); (try clear hb2); (try clear hk); (try clear hi)) | ((with_reducible refine gate_callee (f := 40) rfl ?_); refine goesL_ (some 66) rfl rfl Try.func40 (by kernel_rfl) rfl #[.slice Ao17 t219.length co17, .int .i64 1] rfl (by (try simp only [List.map_toArray, List.map_cons, List.map_nil]); first | done | rfl | (simp only [List.length_drop, List.length_take]; rfl)) ?_; (with_reducible refine (laws_markCanvasS.calls kj10 (fun k_ => some k_ = (.slice Ao17 t219.length co17 : Value).ownBlock) (.slice Ao17 t219.length co17) t219 1 t232 t233 w _ ?side1 ?side2 A32.out).mono ?_); (case side1 => repeat (first | (with_reducible first | exact HB.out | apply below_alloc | apply pw_below_drewN | apply below_drew1) | exact HB.out)); (case side2 => exact Kd.R_tight rfl HO_11.out); rintro e w37 ⟨rfl, hy0, hb, hkp⟩; refine ⟨_, rfl, ?_⟩; have n0_ := Aside0.mk (Kd.R_mono (ok' := fun k_ => some k_ ≠ (v225 : Value).ownBlock) (Kd.R_keptB ((Kd.R_apart' HO_8.out (Kd.R_typed HO_11.out) (by decide))) hkp (fun k_ hk_ hs_ => (hk_.2) hs_)) (fun k_ hk_ => hk_.1.1)); have n1_ := Aside0.mk (Kd.R_reok rfl hy0 (fun k_ e_ => HO_11.out.1 k_ e_)); have n2_ := Aside0.mk (Kd.R_mono (ok' := fun k_ => some k_ ≠ (v217 : Value).ownBlock) (Kd.R_keptB ((Kd.R_apart' HO_12.out (Kd.R_typed HO_11.out) (by decide))) hkp (fun k_ hk_ hs_ => (hk_.2) hs_)) (fun k_ hk_ => hk_.1.1)); have n3_ := Aside0.mk (Kd.R_mono (ok' := fun k_ => some k_ ≠ (.slice Ao17 t219.length co17 : Value).ownBlock) (Kd.R_keptB (HO230.out) hkp (fun k_ hk_ hs_ => (hk_.2) hs_)) (fun k_ hk_ => hk_.1.2)); have n4_ := Aside0.mk (hb); clear HO_8; clear HO_11; clear HO_12; clear HO230; clear HB; have HO_8 := n0_; have HO_11 := n1_; have HO_12 := n2_; have HO230 := n3_; have HB := n4_; clear n0_ n1_ n2_ n3_ n4_; (try clear hb); (try clear hkp); (try clear hy0)))
            (try simp only [Act.put, List.setIfInBounds_toArray, List.set_cons_zero, List.set_cons_succ])
            go_cut [84] (fun v84 wc => ∃ (kq : Nat) (x84_32 : Bool), v84 = .bool x84_32 ∧ Aside0 (laws_FnExactBestSet.j1 kq l0 a1 a2 t214 t215 t216 t222 x84_32 = some r) ∧ Aside0 (kq ≤ kj10) ∧ Aside0 (Kd.R (Kd.int .i64) 2 wc w.heap.size (fun k_ => some k_ ≠ (v225 : Value).ownBlock) v217 t214) ∧ Aside0 (Kd.R (Kd.int .i64) 2 wc w.heap.size (fun k_ => some k_ ≠ (v217 : Value).ownBlock) v225 t222) ∧ Aside0 (Below w.heap.size w wc))
            case first =>
              have H := HC33.out
              clear HC33
              by_cases c38 : t232 < 0
              · rw [if_pos c38] at H
                have c38b0 : decide (t232 < 0) = true := decide_eq_true c38
                clear c38
                (first | rw [c38b0] | (simp only [i64_w, i32_w]; rw [c38b0]) | skip)
                exact (laws_FnExactBestSet.j1_cut _ _ _ _ _ _ _ _ _ H HRT.out).elim
              · rw [if_neg c38] at H
                have c38b0 : decide (t232 < 0) = false := decide_eq_false c38
                clear c38
                (first | rw [c38b0] | (simp only [i64_w, i32_w]; rw [c38b0]) | skip)
                replace H := Option.bind_eq_some_iff.mp H
                obtain ⟨t234, A390, H⟩ := H
                replace H : (if t234 = true then (if t223 = t215 then (laws_FnExactBestSet.j1 kj10 l0 a1 a2 t214 t215 t216 t222 (t224 != t216)) else (laws_FnExactBestSet.j1 kj10 l0 a1 a2 t214 t215 t216 t222 true)) else (laws_FnExactBestSet.j1 kj10 l0 a1 a2 t214 t215 t216 t222 true)) = some r := H
                have A39 := Aside0.mk A390
                clear A390
                by_cases c40 : t234 = true
                · subst c40
                  have H1 : (if t223 = t215 then (laws_FnExactBestSet.j1 kj10 l0 a1 a2 t214 t215 t216 t222 (t224 != t216)) else (laws_FnExactBestSet.j1 kj10 l0 a1 a2 t214 t215 t216 t222 true)) = some r := by rw [if_pos rfl] at H; exact H
                  clear H
                  have H := H1
                  clear H1
                  by_cases c41 : t223 = t215
                  · rw [if_pos c41] at H
                    have c41b0 : (t223 == t215) = true := beq_iff_eq.mpr c41
                    have c41b1 : (t223 != t215) = false := bne_eq_false_iff_eq.mpr c41
                    clear c41
                    have H' := Aside0.mk H
                    clear H
                    obtain ⟨Ao42, co42, eo42⟩ := Kd.R_slice HO_12.out
                    subst eo42
                    obtain ⟨Ao43, co43, eo43⟩ := Kd.R_slice HO_8.out
                    subst eo43
                    go_wp2_with (first | (go_at_call 20; (with_reducible refine (laws_eqInt64S.calls kj10 _ _ t222 _ _ t214 true _ ?side1 ?side2 ?side3 ?side4 A39.out).mono ?_); (case side1 => repeat (first | exact (Kd.R_reads' HO_12.out).2.2 | (with_reducible refine Kd.C_alloc ?_ _) | (with_reducible refine Kd.C_drewN ?_ _) | (with_reducible refine Kd.C_drew ?_))); (case side2 => exact (Kd.R_reads' HO_12.out).2.1); (case side3 => repeat (first | exact (Kd.R_reads' HO_8.out).2.2 | (with_reducible refine Kd.C_alloc ?_ _) | (with_reducible refine Kd.C_drewN ?_ _) | (with_reducible refine Kd.C_drew ?_))); (case side4 => exact (Kd.R_reads' HO_8.out).2.1); rintro e w' ⟨rfl, ⟨nd, rfl⟩⟩))
                    go_meet
                    case rel => exact ⟨_, ((t224 != t216)), (by first | rfl | (simp; done) | (simp [*]; done)), H', ⟨by have := HJ10.out; first | omega | exact Nat.le_refl _⟩, ⟨by (with_reducible repeat (first | apply Kd.R_alloc | apply Kd.R_drewN | apply Kd.R_drew)); exact HO_8.out⟩, ⟨by (with_reducible repeat (first | apply Kd.R_alloc | apply Kd.R_drewN | apply Kd.R_drew)); exact HO_12.out⟩, ⟨by repeat (first | (with_reducible first | exact HB.out | apply below_alloc | apply pw_below_drewN | apply below_drew1) | exact HB.out)⟩⟩
                  · rw [if_neg c41] at H
                    have c41b0 : (t223 == t215) = false := beq_eq_false_iff_ne.mpr c41
                    have c41b1 : (t223 != t215) = true := bne_iff_ne.mpr c41
                    exact (laws_FnExactBestSet.j1_cut _ _ _ _ _ _ _ _ _ H HRT.out).elim
                · replace c40 := Bool.eq_false_iff.mpr c40
                  subst c40
                  have H1 : (laws_FnExactBestSet.j1 kj10 l0 a1 a2 t214 t215 t216 t222 true) = some r := by rw [if_neg (show ¬ (false = true) by decide)] at H; exact H
                  clear H
                  have H := H1
                  clear H1
                  exact (laws_FnExactBestSet.j1_cut _ _ _ _ _ _ _ _ _ H HRT.out).elim
            case rest =>
              clear HC33
              try clear c1
              try clear c2
              try clear p2
              try clear c3
              try clear c4
              try clear c5
              try clear c5b0
              try clear c10
              try clear c20
              try clear c21
              try clear c21b0
              try clear c21b1
              try clear c23
              try clear c25
              try clear c28
              try clear c31
              try clear c38
              try clear c38b0
              try clear c39
              try clear c40
              try clear c41
              try clear c41b0
              try clear c41b1
              try clear p2
              obtain ⟨kq, x84_32, rfl, HA, HJ32, HO_8, HO_12, HB⟩ := hcut
              cases kq with
              | zero => exact absurd HA.out (by simp [laws_FnExactBestSet.j1])
              | succ kj32 =>
                have H := HA.out
                clear HA
                simp only [laws_FnExactBestSet.j1] at H
                by_cases c48 : x84_32 = true
                · subst c48
                  have H1 : (some false) = some r := by rw [if_pos rfl] at H; exact H
                  clear H
                  have H := H1
                  clear H1
                  obtain rfl := Option.some.inj H
                  exact absurd HRT.out (by decide)
                · replace c48 := Bool.eq_false_iff.mpr c48
                  subst c48
                  have H1 : ((laws_markInt64S.f kj32 t222 1).bind fun bt235 => ((laws_heldInt64S.f kj32 bt235.2 1).bind fun t237 => (if t237 < 0 then (some false) else (if t237 = bt235.1 then ((laws_toCanvasS.f kj32 l0).bind fun t238 => ((impl_BestSet.f kj32 t238 a1 a2).bind fun bt241 => ((laws_eqInt64S.f kj32 bt241.1 t214).bind fun t246 => (if t246 = true then (if bt241.2.1 = t215 then (laws_FnExactBestSet.j2 kj32 bt235.2 bt235.1 (bt241.2.2 != t216)) else (laws_FnExactBestSet.j2 kj32 bt235.2 bt235.1 true)) else (laws_FnExactBestSet.j2 kj32 bt235.2 bt235.1 true))))) else (some false))))) = some r := by rw [if_neg (show ¬ (false = true) by decide)] at H; exact H
                  clear H
                  have H := H1
                  clear H1
                  replace H := Option.bind_eq_some_iff.mp H
                  obtain ⟨⟨t235, t236⟩, A490, H⟩ := H
                  replace H : ((laws_heldInt64S.f kj32 t236 1).bind fun t237 => (if t237 < 0 then (some false) else (if t237 = t235 then ((laws_toCanvasS.f kj32 l0).bind fun t238 => ((impl_BestSet.f kj32 t238 a1 a2).bind fun bt241 => ((laws_eqInt64S.f kj32 bt241.1 t214).bind fun t246 => (if t246 = true then (if bt241.2.1 = t215 then (laws_FnExactBestSet.j2 kj32 t236 t235 (bt241.2.2 != t216)) else (laws_FnExactBestSet.j2 kj32 t236 t235 true)) else (laws_FnExactBestSet.j2 kj32 t236 t235 true))))) else (some false)))) = some r := H
                  have A49 := Aside0.mk A490
                  clear A490
                  replace H := Option.bind_eq_some_iff.mp H
                  obtain ⟨t237, A500, H⟩ := H
                  replace H : (if t237 < 0 then (some false) else (if t237 = t235 then ((laws_toCanvasS.f kj32 l0).bind fun t238 => ((impl_BestSet.f kj32 t238 a1 a2).bind fun bt241 => ((laws_eqInt64S.f kj32 bt241.1 t214).bind fun t246 => (if t246 = true then (if bt241.2.1 = t215 then (laws_FnExactBestSet.j2 kj32 t236 t235 (bt241.2.2 != t216)) else (laws_FnExactBestSet.j2 kj32 t236 t235 true)) else (laws_FnExactBestSet.j2 kj32 t236 t235 true))))) else (some false))) = some r := H
                  have A50 := Aside0.mk A500
                  clear A500
                  by_cases c51 : t237 < 0
                  · rw [if_pos c51] at H
                    have c51b0 : decide (t237 < 0) = true := decide_eq_true c51
                    clear c51
                    obtain rfl := Option.some.inj H
                    exact absurd HRT.out (by decide)
                  · rw [if_neg c51] at H
                    have c51b0 : decide (t237 < 0) = false := decide_eq_false c51
                    clear c51
                    by_cases c54 : t237 = t235
                    · rw [if_pos c54] at H
                      have c54b0 : (t237 == t235) = true := beq_iff_eq.mpr c54
                      have c54b1 : (t237 != t235) = false := bne_eq_false_iff_eq.mpr c54
                      clear c54
                      replace H := Option.bind_eq_some_iff.mp H
                      obtain ⟨t238, A550, H⟩ := H
                      replace H : ((impl_BestSet.f kj32 t238 a1 a2).bind fun bt241 => ((laws_eqInt64S.f kj32 bt241.1 t214).bind fun t246 => (if t246 = true then (if bt241.2.1 = t215 then (laws_FnExactBestSet.j2 kj32 t236 t235 (bt241.2.2 != t216)) else (laws_FnExactBestSet.j2 kj32 t236 t235 true)) else (laws_FnExactBestSet.j2 kj32 t236 t235 true)))) = some r := H
                      have A55 := Aside0.mk A550
                      clear A550
                      replace H := Option.bind_eq_some_iff.mp H
                      obtain ⟨⟨t241, t242, t243⟩, A560, H⟩ := H
                      replace H : ((laws_eqInt64S.f kj32 t241 t214).bind fun t246 => (if t246 = true then (if t242 = t215 then (laws_FnExactBestSet.j2 kj32 t236 t235 (t243 != t216)) else (laws_FnExactBestSet.j2 kj32 t236 t235 true)) else (laws_FnExactBestSet.j2 kj32 t236 t235 true))) = some r := H
                      have A56 := Aside0.mk A560
                      clear A560
                      have HC57 := Aside0.mk H
                      clear H
                      obtain ⟨Ao58, co58, eo58⟩ := Kd.R_slice HO_12.out
                      subst eo58
                      go_upto_region 25 with (first | ((with_reducible refine gate_callee (f := 41) rfl ?_); refine goesL_ (some 87) rfl rfl Try.func41 (by kernel_rfl) rfl #[.slice Ao58 t222.length co58, .int .i64 1] rfl (by (try simp only [List.map_toArray, List.map_cons, List.map_nil]); first | done | rfl | (simp only [List.length_drop, List.length_take]; rfl)) ?_; (with_reducible refine (laws_markInt64S.calls kj32 (fun k_ => some k_ = (.slice Ao58 t222.length co58 : Value).ownBlock) (.slice Ao58 t222.length co58) t222 1 t235 t236 w _ ?side1 ?side2 A49.out).mono ?_); (case side1 => repeat (first | (with_reducible first | exact HB.out | apply below_alloc | apply pw_below_drewN | apply below_drew1) | exact HB.out)); (case side2 => exact Kd.R_tight rfl HO_12.out); rintro e w59 ⟨rfl, hy0, hb, hkp⟩; refine ⟨_, rfl, ?_⟩; have n0_ := Aside0.mk (Kd.R_mono (ok' := fun k_ => some k_ ≠ (.slice Ao58 t222.length co58 : Value).ownBlock) (Kd.R_keptB (HO_8.out) hkp (fun k_ hk_ hs_ => (hk_) hs_)) (fun k_ hk_ => hk_.1)); have n1_ := Aside0.mk (Kd.R_reok rfl hy0 (fun k_ e_ => HO_12.out.1 k_ e_)); have n2_ := Aside0.mk (hb); clear HO_8; clear HO_12; clear HB; have HO_8 := n0_; have HO_12 := n1_; have HB := n2_; clear n0_ n1_ n2_; (try clear hb); (try clear hkp); (try clear hy0)) | ((with_reducible refine gate_callee (f := 42) rfl ?_); refine goesL_ (some 90) rfl rfl Try.func42 (by kernel_rfl) rfl #[.slice Ao58 t236.length co58, .int .i64 1] rfl (by (try simp only [List.map_toArray, List.map_cons, List.map_nil]); first | done | (rw [show t236.length = t222.length from (Kd.R_reads' HO_12.out).1.symm] <;> rfl) | rfl | (simp only [List.length_drop, List.length_take]; rfl)) ?_; (with_reducible refine (laws_heldInt64S.calls kj32 _ _ t236 1 t237 _ ?side1 ?side2 A50.out).mono ?_); (case side1 => repeat (first | exact (Kd.R_reads' HO_12.out).2.2 | (with_reducible refine Kd.C_alloc ?_ _) | (with_reducible refine Kd.C_drewN ?_ _) | (with_reducible refine Kd.C_drew ?_))); (case side2 => rw [show t236.length = t222.length from (Kd.R_reads' HO_12.out).1.symm]; exact (Kd.R_reads' HO_12.out).2.1); rintro e w' ⟨rfl, ⟨nd, rfl⟩⟩; refine ⟨_, rfl, ?_⟩) | ((with_reducible refine gate_callee (f := 23) rfl ?_); refine goesL_ (some 98) rfl rfl Try.func23 (by kernel_rfl) rfl #[.slice A0 l0.length c0] rfl (by (try simp only [List.map_toArray, List.map_cons, List.map_nil]); first | done | rfl | (simp only [List.length_drop, List.length_take]; rfl)) ?_; (with_reducible refine (laws_toCanvasS.calls kj32 _ _ l0 t238 _ ?side1 ?side2 A55.out).mono ?_); (case side1 => repeat (first | exact (Kd.C_below HR0.out (by repeat (first | (with_reducible first | exact HB.out | apply below_alloc | apply pw_below_drewN | apply below_drew1) | exact HB.out))) | (with_reducible refine Kd.C_alloc ?_ _) | (with_reducible refine Kd.C_drewN ?_ _) | (with_reducible refine Kd.C_drew ?_))); (case side2 => exact HC0.out); rintro e w60 ⟨v239, rfl, ho0, hb⟩; refine ⟨_, rfl, ?_⟩; have n0_ := Aside0.mk (Kd.R_below (by (with_reducible repeat (first | apply Kd.R_alloc | apply Kd.R_drewN | apply Kd.R_drew)); exact HO_8.out) hb); have n1_ := Aside0.mk (Kd.R_below (by (with_reducible repeat (first | apply Kd.R_alloc | apply Kd.R_drewN | apply Kd.R_drew)); exact HO_12.out) hb); have n2_ := Aside0.mk (Kd.R_lower ho0 (below_size (by repeat (first | (with_reducible first | exact HB.out | apply below_alloc | apply pw_below_drewN | apply below_drew1) | exact HB.out)))); have n3_ := Aside0.mk (below_step (by repeat (first | (with_reducible first | exact HB.out | apply below_alloc | apply pw_below_drewN | apply below_drew1) | exact HB.out)) hb); clear HO_8; clear HO_12; clear HB; have HO_8 := n0_; have HO_12 := n1_; have HO240 := n2_; have HB := n3_; clear n0_ n1_ n2_ n3_; (try clear hb); (try clear hb2); (try clear hk); (try clear hi); (try clear ho0); obtain ⟨Ao61, co61, eo61⟩ := Kd.R_slice HO240.out; subst eo61) | ((with_reducible refine gate_callee (f := 39) rfl ?_); refine goesL_ (some 101) rfl rfl Try.func39 (by kernel_rfl) rfl #[.slice Ao61 t238.length co61, .int .i64 a1, .int .i64 a2] rfl (by (try simp only [List.map_toArray, List.map_cons, List.map_nil]); first | done | rfl | (simp only [List.length_drop, List.length_take]; rfl)) ?_; (with_reducible refine (impl_BestSet.calls kj32 _ _ t238 a1 a2 t241 t242 t243 _ ?side1 ?side2 A56.out).mono ?_); (case side1 => repeat (first | exact (Kd.R_reads' HO240.out).2.2 | (with_reducible refine Kd.C_alloc ?_ _) | (with_reducible refine Kd.C_drewN ?_ _) | (with_reducible refine Kd.C_drew ?_))); (case side2 => exact (Kd.R_reads' HO240.out).2.1); rintro e w62 ⟨v244, rfl, ho0, hb⟩; refine ⟨_, rfl, ?_⟩; have n0_ := Aside0.mk (Kd.R_elder' (by (with_reducible repeat (first | apply Kd.R_alloc | apply Kd.R_drewN | apply Kd.R_drew)); exact HO_8.out) (Kd.R_base ho0) hb); have n1_ := Aside0.mk (Kd.R_elder' (by (with_reducible repeat (first | apply Kd.R_alloc | apply Kd.R_drewN | apply Kd.R_drew)); exact HO_12.out) (Kd.R_base ho0) hb); have n2_ := Aside0.mk (Kd.R_below (by (with_reducible repeat (first | apply Kd.R_alloc | apply Kd.R_drewN | apply Kd.R_drew)); exact HO240.out) hb); have n3_ := Aside0.mk (Kd.R_lower (Kd.R_new' (Kd.R_new' ho0 (Kd.R_lt (by (with_reducible repeat (first | apply Kd.R_alloc | apply Kd.R_drewN | apply Kd.R_drew)); exact HO_8.out))) (Kd.R_lt (by (with_reducible repeat (first | apply Kd.R_alloc | apply Kd.R_drewN | apply Kd.R_drew)); exact HO_12.out))) (below_size (by repeat (first | (with_reducible first | exact HB.out | apply below_alloc | apply pw_below_drewN | apply below_drew1) | exact HB.out)))); have n4_ := Aside0.mk (below_step (by repeat (first | (with_reducible first | exact HB.out | apply below_alloc | apply pw_below_drewN | apply below_drew1) | exact HB.out)) hb); clear HO_8; clear HO_12; clear HO240; clear HB; have HO_8 := n0_; have HO_12 := n1_; have HO240 := n2_; have HO245 := n3_; have HB := n4_; clear n0_ n1_ n2_ n3_ n4_; (try clear hb); (try clear hb2); (try clear hk); (try clear hi); (try clear ho0)))
                      (try simp only [Act.put, List.setIfInBounds_toArray, List.set_cons_zero, List.set_cons_succ])
                      go_cut [118] (fun v118 wc => ∃ (kq : Nat) (x118_56 : Bool), v118 = .bool x118_56 ∧ Aside0 (laws_FnExactBestSet.j2 kq t236 t235 x118_56 = some r) ∧ Aside0 (kq ≤ kj32) ∧ Aside0 (Kd.R (Kd.int .i64) 2 wc w.heap.size (fun _ => True) (.slice Ao58 t222.length co58) t236) ∧ Aside0 (Below w.heap.size w wc))
                      case first =>
                        have H := HC57.out
                        clear HC57
                        replace H := Option.bind_eq_some_iff.mp H
                        obtain ⟨t246, A630, H⟩ := H
                        replace H : (if t246 = true then (if t242 = t215 then (laws_FnExactBestSet.j2 kj32 t236 t235 (t243 != t216)) else (laws_FnExactBestSet.j2 kj32 t236 t235 true)) else (laws_FnExactBestSet.j2 kj32 t236 t235 true)) = some r := H
                        have A63 := Aside0.mk A630
                        clear A630
                        by_cases c64 : t246 = true
                        · subst c64
                          have H1 : (if t242 = t215 then (laws_FnExactBestSet.j2 kj32 t236 t235 (t243 != t216)) else (laws_FnExactBestSet.j2 kj32 t236 t235 true)) = some r := by rw [if_pos rfl] at H; exact H
                          clear H
                          have H := H1
                          clear H1
                          by_cases c65 : t242 = t215
                          · rw [if_pos c65] at H
                            have c65b0 : (t242 == t215) = true := beq_iff_eq.mpr c65
                            have c65b1 : (t242 != t215) = false := bne_eq_false_iff_eq.mpr c65
                            clear c65
                            (first | rw [c65b0] | (simp only [i64_w, i32_w]; rw [c65b0]) | skip)
                            have H' := Aside0.mk H
                            clear H
                            obtain ⟨Ao66, co66, eo66⟩ := Kd.R_slice HO245.out
                            subst eo66
                            obtain ⟨Ao67, co67, eo67⟩ := Kd.R_slice HO_8.out
                            subst eo67
                            go_wp2_with (first | ((with_reducible refine gate_callee (f := 20) rfl ?_); refine goesL_ (some 107) rfl rfl Try.func20 (by kernel_rfl) rfl #[.slice Ao66 t241.length co66, .slice Ao67 t214.length co67] rfl (by (try simp only [List.map_toArray, List.map_cons, List.map_nil]); first | done | rfl | (simp only [List.length_drop, List.length_take]; rfl)) ?_; (with_reducible refine (laws_eqInt64S.calls kj32 _ _ t241 _ _ t214 true _ ?side1 ?side2 ?side3 ?side4 A63.out).mono ?_); (case side1 => repeat (first | exact (Kd.R_reads' HO245.out).2.2 | (with_reducible refine Kd.C_alloc ?_ _) | (with_reducible refine Kd.C_drewN ?_ _) | (with_reducible refine Kd.C_drew ?_))); (case side2 => exact (Kd.R_reads' HO245.out).2.1); (case side3 => repeat (first | exact (Kd.R_reads' HO_8.out).2.2 | (with_reducible refine Kd.C_alloc ?_ _) | (with_reducible refine Kd.C_drewN ?_ _) | (with_reducible refine Kd.C_drew ?_))); (case side4 => exact (Kd.R_reads' HO_8.out).2.1); rintro e w' ⟨rfl, ⟨nd, rfl⟩⟩; refine ⟨_, rfl, ?_⟩))
                            go_meet
                            case rel => exact ⟨_, ((t243 != t216)), (by first | rfl | (simp; done) | (simp [*]; done)), H', ⟨by have := HJ10.out; have := HJ32.out; first | omega | exact Nat.le_refl _⟩, ⟨by (with_reducible repeat (first | apply Kd.R_alloc | apply Kd.R_drewN | apply Kd.R_drew)); exact Kd.R_mono HO_12.out (fun _ hk => trivial)⟩, ⟨by repeat (first | (with_reducible first | exact HB.out | apply below_alloc | apply pw_below_drewN | apply below_drew1) | exact HB.out)⟩⟩
                          · rw [if_neg c65] at H
                            have c65b0 : (t242 == t215) = false := beq_eq_false_iff_ne.mpr c65
                            have c65b1 : (t242 != t215) = true := bne_iff_ne.mpr c65
                            (first | rw [c65b0] | (simp only [i64_w, i32_w]; rw [c65b0]) | skip)
                            exact (laws_FnExactBestSet.j2_cut _ _ _ _ H HRT.out).elim
                        · replace c64 := Bool.eq_false_iff.mpr c64
                          subst c64
                          have H1 : (laws_FnExactBestSet.j2 kj32 t236 t235 true) = some r := by rw [if_neg (show ¬ (false = true) by decide)] at H; exact H
                          clear H
                          have H := H1
                          clear H1
                          exact (laws_FnExactBestSet.j2_cut _ _ _ _ H HRT.out).elim
                      case rest =>
                        clear HC57
                        try clear c1
                        try clear c2
                        try clear p2
                        try clear c3
                        try clear c4
                        try clear c5
                        try clear c5b0
                        try clear c6
                        try clear c10
                        try clear c20
                        try clear c21
                        try clear c21b0
                        try clear c21b1
                        try clear c23
                        try clear c25
                        try clear c28
                        try clear c31
                        try clear c38
                        try clear c38b0
                        try clear c39
                        try clear c40
                        try clear c41
                        try clear c41b0
                        try clear c41b1
                        try clear c42
                        try clear c48
                        try clear c51
                        try clear c51b0
                        try clear c54
                        try clear c54b0
                        try clear c54b1
                        try clear c64
                        try clear c65
                        try clear c65b0
                        try clear c65b1
                        try clear p2
                        obtain ⟨kq, x118_56, rfl, HA, HJ56, HO_12, HB⟩ := hcut
                        have hl12_56 := (Kd.R_reads' HO_12.out).1
                        rw [hl12_56] at HO_12
                        (try simp only [hl12_56])
                        cases kq with
                        | zero => exact absurd HA.out (by simp [laws_FnExactBestSet.j2])
                        | succ kj56 =>
                          have H := HA.out
                          clear HA
                          simp only [laws_FnExactBestSet.j2] at H
                          by_cases c72 : x118_56 = true
                          · subst c72
                            have H1 : (some false) = some r := by rw [if_pos rfl] at H; exact H
                            clear H
                            have H := H1
                            clear H1
                            obtain rfl := Option.some.inj H
                            exact absurd HRT.out (by decide)
                          · replace c72 := Bool.eq_false_iff.mpr c72
                            subst c72
                            have H1 : ((laws_heldInt64S.f kj56 t236 1).bind fun t247 => (if t247 < 0 then (some false) else (if t247 = t235 then (some true) else (some false)))) = some r := by rw [if_neg (show ¬ (false = true) by decide)] at H; exact H
                            clear H
                            have H := H1
                            clear H1
                            replace H := Option.bind_eq_some_iff.mp H
                            obtain ⟨t247, A730, H⟩ := H
                            replace H : (if t247 < 0 then (some false) else (if t247 = t235 then (some true) else (some false))) = some r := H
                            have A73 := Aside0.mk A730
                            clear A730
                            by_cases c74 : t247 < 0
                            · rw [if_pos c74] at H
                              have c74b0 : decide (t247 < 0) = true := decide_eq_true c74
                              clear c74
                              obtain rfl := Option.some.inj H
                              exact absurd HRT.out (by decide)
                            · rw [if_neg c74] at H
                              have c74b0 : decide (t247 < 0) = false := decide_eq_false c74
                              clear c74
                              by_cases c75 : t247 = t235
                              · rw [if_pos c75] at H
                                have c75b0 : (t247 == t235) = true := beq_iff_eq.mpr c75
                                have c75b1 : (t247 != t235) = false := bne_eq_false_iff_eq.mpr c75
                                clear c75
                                obtain rfl := Option.some.inj H
                                go_wp2_with (first | ((with_reducible refine gate_callee (f := 42) rfl ?_); refine goesL_ (some 121) rfl rfl Try.func42 (by kernel_rfl) rfl #[.slice Ao58 t236.length co58, .int .i64 1] rfl (by (try simp only [List.map_toArray, List.map_cons, List.map_nil]); first | done | rfl | (simp only [List.length_drop, List.length_take]; rfl)) ?_; (with_reducible refine (laws_heldInt64S.calls kj56 _ _ t236 1 t247 _ ?side1 ?side2 A73.out).mono ?_); (case side1 => repeat (first | exact (Kd.R_reads' HO_12.out).2.2 | (with_reducible refine Kd.C_alloc ?_ _) | (with_reducible refine Kd.C_drewN ?_ _) | (with_reducible refine Kd.C_drew ?_))); (case side2 => exact (Kd.R_reads' HO_12.out).2.1); rintro e w' ⟨rfl, ⟨nd, rfl⟩⟩; refine ⟨_, rfl, ?_⟩))
                                go_ret
                                exact ⟨by first | rfl | (simp [errW_none, errW_some] <;> rfl) | (simp [*, errW_none, errW_some] <;> rfl), by repeat (first | (with_reducible first | exact HB.out | apply below_alloc | apply pw_below_drewN | apply below_drew1) | exact HB.out)⟩
                              · rw [if_neg c75] at H
                                have c75b0 : (t247 == t235) = false := beq_eq_false_iff_ne.mpr c75
                                have c75b1 : (t247 != t235) = true := bne_iff_ne.mpr c75
                                obtain rfl := Option.some.inj H
                                exact absurd HRT.out (by decide)
                    · rw [if_neg c54] at H
                      have c54b0 : (t237 == t235) = false := beq_eq_false_iff_ne.mpr c54
                      have c54b1 : (t237 != t235) = true := bne_iff_ne.mpr c54
                      obtain rfl := Option.some.inj H
                      exact absurd HRT.out (by decide)
          · replace c31 := Bool.eq_false_iff.mpr c31
            subst c31
            have H1 : (some false) = some r := by rw [if_neg (show ¬ (false = true) by decide)] at H; exact H
            clear H
            have H := H1
            clear H1
            obtain rfl := Option.some.inj H
            exact absurd HRT.out (by decide)
end
end Go.Proofs.Ythbfpkagjobgiaa.PFnExactBestSet
