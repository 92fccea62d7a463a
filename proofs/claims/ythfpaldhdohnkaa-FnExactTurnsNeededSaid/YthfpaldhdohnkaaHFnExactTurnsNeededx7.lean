/- The walks of the functions that the law reaches: each computes what its Lean function says. No condition beyond each contract's own. -/
import Derived.Test.YthfpaldhdohnkaaHFnExactTurnsNeededx0
import Derived.Test.YthfpaldhdohnkaaHFnExactTurnsNeededx2
import Derived.Test.YthfpaldhdohnkaaHFnExactTurnsNeededx3
import Derived.Test.YthfpaldhdohnkaaHFnExactTurnsNeededx4
import Derived.Test.YthfpaldhdohnkaaHFnExactTurnsNeededx6
namespace Go.Proofs.Ythfpaldhdohnkaa.PFnExactTurnsNeeded
noncomputable section
open Go.RowKit Go.Proofs.YthfpaldhdohnkaaW.PrintWords Go.Proofs.YthfpaldhdohnkaaW.PrintLast Go.Proofs.YthfpaldhdohnkaaW.PrintMore
attribute [local go_sem] max2_int min2_int max_two min_two max_three min_three max_four min_four   -- for this text's walks alone
set_option linter.unusedVariables false
set_option linter.unusedSimpArgs false

/-! ### laws_FnExactTurnsNeeded: function 13 -/
mutual
def laws_FnExactTurnsNeeded.j0 : Nat → List Int → List Int → List Int → Int → List Int → List Int → List Int → Int → Bool → List Int → List (List Int) → List Int → List (List Int) → Option (Bool)
  | 0, _, _, _, _, _, _, _, _, _, _, _, _, _ => none
  | k + 1, x1, x2, x8, x9, x11, x12, x13, x14, x62, x184000, x184001, x208000, x208001 => if x62 = true then (some false) else ((laws_toTuning.f k x184000 x184001).bind fun bt219 => ((laws_eqTuning.f k x208000 x208001 bt219.1 bt219.2).bind fun t225 => (if t225 = true then ((laws_toInt64S.f k x1).bind fun t226 => ((laws_eqInt64S.f k x11 t226).bind fun t229 => (if t229 = true then ((laws_toInt64S.f k x2).bind fun t230 => ((laws_eqInt64S.f k x12 t230).bind fun t233 => (if t233 = true then ((laws_markTuning.f k x208000 x208001 1).bind fun bt234 => ((laws_markInt64S.f k x11 bt234.1).bind fun bt237 => ((laws_markInt64S.f k x12 bt237.1).bind fun bt239 => (if bt239.1 < 0 then (laws_FnExactTurnsNeeded.j1 k x1 x2 x8 x9 x13 true x184000 x184001) else ((laws_eqInt64S.f k x13 x8).bind fun t241 => (if t241 = true then (laws_FnExactTurnsNeeded.j1 k x1 x2 x8 x9 x13 (x14 != x9) x184000 x184001) else (laws_FnExactTurnsNeeded.j1 k x1 x2 x8 x9 x13 true x184000 x184001))))))) else (some false)))) else (some false)))) else (some false))))
def laws_FnExactTurnsNeeded.j1 : Nat → List Int → List Int → List Int → Int → List Int → Bool → List Int → List (List Int) → Option (Bool)
  | 0, _, _, _, _, _, _, _, _ => none
  | k + 1, x1, x2, x8, x9, x13, x99, x184000, x184001 => if x99 = true then (some false) else ((laws_markInt64S.f k x13 1).bind fun bt242 => ((laws_heldInt64S.f k bt242.2 1).bind fun t244 => (if t244 < 0 then (some false) else (if t244 = bt242.1 then ((laws_toTuning.f k x184000 x184001).bind fun bt245 => ((laws_toInt64S.f k x1).bind fun t251 => ((laws_toInt64S.f k x2).bind fun t254 => ((impl_TurnsNeeded.f k bt245.1 bt245.2 t251 t254).bind fun bt257 => ((laws_eqInt64S.f k bt257.1 x8).bind fun t261 => (if t261 = true then (laws_FnExactTurnsNeeded.j2 k bt242.2 bt242.1 (bt257.2 != x9)) else (laws_FnExactTurnsNeeded.j2 k bt242.2 bt242.1 true))))))) else (some false)))))
def laws_FnExactTurnsNeeded.j2 : Nat → List Int → Int → Bool → Option (Bool)
  | 0, _, _, _ => none
  | k + 1, x13, x16, x129 => if x129 = true then (some false) else ((laws_heldInt64S.f k x13 1).bind fun t262 => (if t262 < 0 then (some false) else (if t262 = x16 then (some true) else (some false))))
end
def laws_FnExactTurnsNeeded.f (k : Nat) (l0_0 : List Int) (l0_1 : List (List Int)) (l1 : List Int) (l2 : List Int) : Option (Bool) := if (l1.length : Int) > 1048576 then (some true) else (if (l2.length : Int) > 1048576 then (some true) else ((laws_szTuning.f k l0_0 l0_1 1048576).bind fun t184 => (if t184 < 0 then (some true) else ((laws_toTuning.f k l0_0 l0_1).bind fun bt185 => ((laws_toInt64S.f k l1).bind fun t191 => ((laws_toInt64S.f k l2).bind fun t194 => ((spec_TurnsNeeded.f k bt185.1 bt185.2 t191 t194).bind fun bt197 => ((laws_toTuning.f k l0_0 l0_1).bind fun bt201 => ((laws_toInt64S.f k l1).bind fun t208 => ((laws_toInt64S.f k l2).bind fun t211 => ((impl_TurnsNeeded.f k bt201.1 bt201.2 t208 t211).bind fun bt214 => ((laws_eqInt64S.f k bt214.1 bt197.1).bind fun t218 => (if t218 = true then (laws_FnExactTurnsNeeded.j0 k l1 l2 bt197.1 bt197.2 t208 t211 bt214.1 bt214.2 (bt214.2 != bt197.2) l0_0 l0_1 bt201.1 bt201.2) else (laws_FnExactTurnsNeeded.j0 k l1 l2 bt197.1 bt197.2 t208 t211 bt214.1 bt214.2 true l0_0 l0_1 bt201.1 bt201.2))))))))))))))
theorem laws_FnExactTurnsNeeded.mono_l : ∀ k, (∀ y0 y1 y2 y3 y4 y5 y6 y7 y8 y9 y10 y11 y12, LeO (laws_FnExactTurnsNeeded.j0 k y0 y1 y2 y3 y4 y5 y6 y7 y8 y9 y10 y11 y12) (laws_FnExactTurnsNeeded.j0 (k + 1) y0 y1 y2 y3 y4 y5 y6 y7 y8 y9 y10 y11 y12)) ∧ (∀ y0 y1 y2 y3 y4 y5 y6 y7, LeO (laws_FnExactTurnsNeeded.j1 k y0 y1 y2 y3 y4 y5 y6 y7) (laws_FnExactTurnsNeeded.j1 (k + 1) y0 y1 y2 y3 y4 y5 y6 y7)) ∧ (∀ y0 y1 y2, LeO (laws_FnExactTurnsNeeded.j2 k y0 y1 y2) (laws_FnExactTurnsNeeded.j2 (k + 1) y0 y1 y2))
  | 0 => ⟨fun _ _ _ _ _ _ _ _ _ _ _ _ _ r h => by simp [laws_FnExactTurnsNeeded.j0] at h, fun _ _ _ _ _ _ _ _ r h => by simp [laws_FnExactTurnsNeeded.j1] at h, fun _ _ _ r h => by simp [laws_FnExactTurnsNeeded.j2] at h⟩
  | k + 1 => by
    obtain ⟨ih0, ih1, ih2⟩ := laws_FnExactTurnsNeeded.mono_l k
    refine ⟨?_, ?_, ?_⟩
    · intro y0 y1 y2 y3 y4 y5 y6 y7 y8 y9 y10 y11 y12
      unfold laws_FnExactTurnsNeeded.j0
      repeat' first
      | (with_reducible exact ih0 _ _ _ _ _ _ _ _ _ _ _ _ _)
      | (with_reducible exact ih1 _ _ _ _ _ _ _ _)
      | (with_reducible exact ih2 _ _ _)
      | (with_reducible exact impl_TurnsNeeded.mono _ _ _ _ _)
      | (with_reducible exact laws_eqInt64S.mono _ _ _)
      | (with_reducible exact laws_eqTuning.mono _ _ _ _ _)
      | (with_reducible exact laws_heldInt64S.mono _ _ _)
      | (with_reducible exact laws_markInt64S.mono _ _ _)
      | (with_reducible exact laws_markTuning.mono _ _ _ _)
      | (with_reducible exact laws_szTuning.mono _ _ _ _)
      | (with_reducible exact laws_toInt64S.mono _ _)
      | (with_reducible exact laws_toTuning.mono _ _ _)
      | (with_reducible exact spec_TurnsNeeded.mono _ _ _ _ _)
      | (with_reducible exact LeO.refl _)
      | (with_reducible exact LeO.none _)
      | (with_reducible refine LeO.ite ?_ ?_)
      | (with_reducible refine LeO.bind ?_ (fun _ => ?_))
      | exact ih0 _ _ _ _ _ _ _ _ _ _ _ _ _
      | exact ih1 _ _ _ _ _ _ _ _
      | exact ih2 _ _ _
      | exact impl_TurnsNeeded.mono _ _ _ _ _
      | exact laws_eqInt64S.mono _ _ _
      | exact laws_eqTuning.mono _ _ _ _ _
      | exact laws_heldInt64S.mono _ _ _
      | exact laws_markInt64S.mono _ _ _
      | exact laws_markTuning.mono _ _ _ _
      | exact laws_szTuning.mono _ _ _ _
      | exact laws_toInt64S.mono _ _
      | exact laws_toTuning.mono _ _ _
      | exact spec_TurnsNeeded.mono _ _ _ _ _
      | exact LeO.none _
      | refine LeO.ite ?_ ?_
      | refine LeO.bind ?_ (fun _ => ?_)
    · intro y0 y1 y2 y3 y4 y5 y6 y7
      unfold laws_FnExactTurnsNeeded.j1
      repeat' first
      | (with_reducible exact ih0 _ _ _ _ _ _ _ _ _ _ _ _ _)
      | (with_reducible exact ih1 _ _ _ _ _ _ _ _)
      | (with_reducible exact ih2 _ _ _)
      | (with_reducible exact impl_TurnsNeeded.mono _ _ _ _ _)
      | (with_reducible exact laws_eqInt64S.mono _ _ _)
      | (with_reducible exact laws_eqTuning.mono _ _ _ _ _)
      | (with_reducible exact laws_heldInt64S.mono _ _ _)
      | (with_reducible exact laws_markInt64S.mono _ _ _)
      | (with_reducible exact laws_markTuning.mono _ _ _ _)
      | (with_reducible exact laws_szTuning.mono _ _ _ _)
      | (with_reducible exact laws_toInt64S.mono _ _)
      | (with_reducible exact laws_toTuning.mono _ _ _)
      | (with_reducible exact spec_TurnsNeeded.mono _ _ _ _ _)
      | (with_reducible exact LeO.refl _)
      | (with_reducible exact LeO.none _)
      | (with_reducible refine LeO.ite ?_ ?_)
      | (with_reducible refine LeO.bind ?_ (fun _ => ?_))
      | exact ih0 _ _ _ _ _ _ _ _ _ _ _ _ _
      | exact ih1 _ _ _ _ _ _ _ _
      | exact ih2 _ _ _
      | exact impl_TurnsNeeded.mono _ _ _ _ _
      | exact laws_eqInt64S.mono _ _ _
      | exact laws_eqTuning.mono _ _ _ _ _
      | exact laws_heldInt64S.mono _ _ _
      | exact laws_markInt64S.mono _ _ _
      | exact laws_markTuning.mono _ _ _ _
      | exact laws_szTuning.mono _ _ _ _
      | exact laws_toInt64S.mono _ _
      | exact laws_toTuning.mono _ _ _
      | exact spec_TurnsNeeded.mono _ _ _ _ _
      | exact LeO.none _
      | refine LeO.ite ?_ ?_
      | refine LeO.bind ?_ (fun _ => ?_)
    · intro y0 y1 y2
      unfold laws_FnExactTurnsNeeded.j2
      repeat' first
      | (with_reducible exact ih0 _ _ _ _ _ _ _ _ _ _ _ _ _)
      | (with_reducible exact ih1 _ _ _ _ _ _ _ _)
      | (with_reducible exact ih2 _ _ _)
      | (with_reducible exact impl_TurnsNeeded.mono _ _ _ _ _)
      | (with_reducible exact laws_eqInt64S.mono _ _ _)
      | (with_reducible exact laws_eqTuning.mono _ _ _ _ _)
      | (with_reducible exact laws_heldInt64S.mono _ _ _)
      | (with_reducible exact laws_markInt64S.mono _ _ _)
      | (with_reducible exact laws_markTuning.mono _ _ _ _)
      | (with_reducible exact laws_szTuning.mono _ _ _ _)
      | (with_reducible exact laws_toInt64S.mono _ _)
      | (with_reducible exact laws_toTuning.mono _ _ _)
      | (with_reducible exact spec_TurnsNeeded.mono _ _ _ _ _)
      | (with_reducible exact LeO.refl _)
      | (with_reducible exact LeO.none _)
      | (with_reducible refine LeO.ite ?_ ?_)
      | (with_reducible refine LeO.bind ?_ (fun _ => ?_))
      | exact ih0 _ _ _ _ _ _ _ _ _ _ _ _ _
      | exact ih1 _ _ _ _ _ _ _ _
      | exact ih2 _ _ _
      | exact impl_TurnsNeeded.mono _ _ _ _ _
      | exact laws_eqInt64S.mono _ _ _
      | exact laws_eqTuning.mono _ _ _ _ _
      | exact laws_heldInt64S.mono _ _ _
      | exact laws_markInt64S.mono _ _ _
      | exact laws_markTuning.mono _ _ _ _
      | exact laws_szTuning.mono _ _ _ _
      | exact laws_toInt64S.mono _ _
      | exact laws_toTuning.mono _ _ _
      | exact spec_TurnsNeeded.mono _ _ _ _ _
      | exact LeO.none _
      | refine LeO.ite ?_ ?_
      | refine LeO.bind ?_ (fun _ => ?_)
theorem laws_FnExactTurnsNeeded.mono : ∀ a0 a1 a2 a3 k, LeO (laws_FnExactTurnsNeeded.f k a0 a1 a2 a3) (laws_FnExactTurnsNeeded.f (k + 1) a0 a1 a2 a3) := by
  intro a0 a1 a2 a3 k
  obtain ⟨ih0, ih1, ih2⟩ := laws_FnExactTurnsNeeded.mono_l k
  unfold laws_FnExactTurnsNeeded.f
  repeat' first
      | (with_reducible exact ih0 _ _ _ _ _ _ _ _ _ _ _ _ _)
      | (with_reducible exact ih1 _ _ _ _ _ _ _ _)
      | (with_reducible exact ih2 _ _ _)
      | (with_reducible exact impl_TurnsNeeded.mono _ _ _ _ _)
      | (with_reducible exact laws_eqInt64S.mono _ _ _)
      | (with_reducible exact laws_eqTuning.mono _ _ _ _ _)
      | (with_reducible exact laws_heldInt64S.mono _ _ _)
      | (with_reducible exact laws_markInt64S.mono _ _ _)
      | (with_reducible exact laws_markTuning.mono _ _ _ _)
      | (with_reducible exact laws_szTuning.mono _ _ _ _)
      | (with_reducible exact laws_toInt64S.mono _ _)
      | (with_reducible exact laws_toTuning.mono _ _ _)
      | (with_reducible exact spec_TurnsNeeded.mono _ _ _ _ _)
      | (with_reducible exact LeO.refl _)
      | (with_reducible exact LeO.none _)
      | (with_reducible refine LeO.ite ?_ ?_)
      | (with_reducible refine LeO.bind ?_ (fun _ => ?_))
      | exact ih0 _ _ _ _ _ _ _ _ _ _ _ _ _
      | exact ih1 _ _ _ _ _ _ _ _
      | exact ih2 _ _ _
      | exact impl_TurnsNeeded.mono _ _ _ _ _
      | exact laws_eqInt64S.mono _ _ _
      | exact laws_eqTuning.mono _ _ _ _ _
      | exact laws_heldInt64S.mono _ _ _
      | exact laws_markInt64S.mono _ _ _
      | exact laws_markTuning.mono _ _ _ _
      | exact laws_szTuning.mono _ _ _ _
      | exact laws_toInt64S.mono _ _
      | exact laws_toTuning.mono _ _ _
      | exact spec_TurnsNeeded.mono _ _ _ _ _
      | exact LeO.none _
      | refine LeO.ite ?_ ?_
      | refine LeO.bind ?_ (fun _ => ?_)
theorem laws_FnExactTurnsNeeded.j0_cut (k : Nat) (x0_ : List Int) (x1_ : List Int) (x2_ : List Int) (x3_ : Int) (x4_ : List Int) (x5_ : List Int) (x6_ : List Int) (x7_ : Int) (x9_ : List Int) (x10_ : List (List Int)) (x11_ : List Int) (x12_ : List (List Int)) (r : Bool) (h : laws_FnExactTurnsNeeded.j0 k x0_ x1_ x2_ x3_ x4_ x5_ x6_ x7_ true x9_ x10_ x11_ x12_ = some r) (hr : r = true) : False := by
  cases k with
  | zero => simp only [laws_FnExactTurnsNeeded.j0] at h; cases h
  | succ k =>
    have h2 : some false = some r := h
    cases h2
    cases hr
theorem laws_FnExactTurnsNeeded.j1_cut (k : Nat) (x0_ : List Int) (x1_ : List Int) (x2_ : List Int) (x3_ : Int) (x4_ : List Int) (x6_ : List Int) (x7_ : List (List Int)) (r : Bool) (h : laws_FnExactTurnsNeeded.j1 k x0_ x1_ x2_ x3_ x4_ true x6_ x7_ = some r) (hr : r = true) : False := by
  cases k with
  | zero => simp only [laws_FnExactTurnsNeeded.j1] at h; cases h
  | succ k =>
    have h2 : some false = some r := h
    cases h2
    cases hr
theorem laws_FnExactTurnsNeeded.j2_cut (k : Nat) (x0_ : List Int) (x1_ : Int) (r : Bool) (h : laws_FnExactTurnsNeeded.j2 k x0_ x1_ true = some r) (hr : r = true) : False := by
  cases k with
  | zero => simp only [laws_FnExactTurnsNeeded.j2] at h; cases h
  | succ k =>
    have h2 : some false = some r := h
    cases h2
    cases hr
set_option maxHeartbeats 8000000 in
set_option maxRecDepth 100000 in
theorem laws_FnExactTurnsNeeded.calls (k : Nat) (A0_0 : Option Addr) (c0_0 : Nat) (l0_0 : List Int) (A0_1 : Option Addr) (c0_1 : Nat) (l0_1 : List (List Int)) (A1 : Option Addr) (c1 : Nat) (l1 : List Int) (A2 : Option Addr) (c2 : Nat) (l2 : List Int) (r : Bool) (w : World) (hr0_0 : Kd.C (Kd.int .i64) w A0_0 l0_0.length l0_0) (hc0_0 : l0_0.length ≤ c0_0) (hr0_1 : Kd.C (Kd.slice 2 (Kd.int .i64)) w A0_1 l0_1.length l0_1) (hc0_1 : l0_1.length ≤ c0_1) (hr1 : Kd.C (Kd.int .i64) w A1 l1.length l1) (hc1 : l1.length ≤ c1) (hr2 : Kd.C (Kd.int .i64) w A2 l2.length l2) (hc2 : l2.length ≤ c2) (h : laws_FnExactTurnsNeeded.f k l0_0 l0_1 l1 l2 = some r) (hrt : r = true) :
    Calls Try.prog 13 #[.agg #[.slice A0_0 l0_0.length c0_0, .slice A0_1 l0_1.length c0_1], .slice A1 l1.length c1, .slice A2 l2.length c2] w fun e w' => e = .returned (.bool r) ∧ Below w.heap.size w w' := by
  have HRT := Aside0.mk hrt
  clear hrt
  have hu38 := Try.underlying38
  have hu27 := Try.underlying27
  have HR0_0 := Aside0.mk hr0_0
  have HC0_0 := Aside0.mk hc0_0
  clear hr0_0 hc0_0
  have HR0_1 := Aside0.mk hr0_1
  have HC0_1 := Aside0.mk hc0_1
  clear hr0_1 hc0_1
  have HR1 := Aside0.mk hr1
  have HC1 := Aside0.mk hc1
  clear hr1 hc1
  have HR2 := Aside0.mk hr2
  have HC2 := Aside0.mk hc2
  clear hr2 hc2
  have HB := Aside0.mk (Below.refl w.heap.size w)
  have H : (if (l1.length : Int) > 1048576 then (some true) else (if (l2.length : Int) > 1048576 then (some true) else ((laws_szTuning.f k l0_0 l0_1 1048576).bind fun t184 => (if t184 < 0 then (some true) else ((laws_toTuning.f k l0_0 l0_1).bind fun bt185 => ((laws_toInt64S.f k l1).bind fun t191 => ((laws_toInt64S.f k l2).bind fun t194 => ((spec_TurnsNeeded.f k bt185.1 bt185.2 t191 t194).bind fun bt197 => ((laws_toTuning.f k l0_0 l0_1).bind fun bt201 => ((laws_toInt64S.f k l1).bind fun t208 => ((laws_toInt64S.f k l2).bind fun t211 => ((impl_TurnsNeeded.f k bt201.1 bt201.2 t208 t211).bind fun bt214 => ((laws_eqInt64S.f k bt214.1 bt197.1).bind fun t218 => (if t218 = true then (laws_FnExactTurnsNeeded.j0 k l1 l2 bt197.1 bt197.2 t208 t211 bt214.1 bt214.2 (bt214.2 != bt197.2) l0_0 l0_1 bt201.1 bt201.2) else (laws_FnExactTurnsNeeded.j0 k l1 l2 bt197.1 bt197.2 t208 t211 bt214.1 bt214.2 true l0_0 l0_1 bt201.1 bt201.2))))))))))))))) = some r := h
  clear h
  by_cases c4 : (l1.length : Int) > 1048576
  · rw [if_pos c4] at H
    have c4b0 : decide (1048576 < (l1.length : Int)) = true := decide_eq_true c4
    have c4b1 : decide (1048576 < l1.length) = true := decide_eq_true (by omega)
    clear c4
    obtain rfl := Option.some.inj H
    go_enter Try.func13, Try.ntmps13
    go_wp2_with (first | ((with_reducible refine gate_dst (N := 3) rfl ?_); refine box_event ?hg (N := 3) ?hd (cs := #[.slice A0_0 l0_0.length c0_0, .slice A0_1 l0_1.length c0_1]) (t := 38) ?hr ?_; (case hd => rfl); (case hg => rfl); (case hr => first | (go_simp; done) | (go_simp; rfl)); intro gb183 hg w5 hbox hb; have n0_ := Aside0.mk (below_step (by repeat (first | (with_reducible first | exact HB.out | apply below_alloc | apply pw_below_drewN | apply below_drew1) | exact HB.out)) hb); have n1_ := Aside0.mk (hbox); have n2_ := Aside0.mk ((by rw [hg]; exact (below_size (by repeat (first | (with_reducible first | exact HB.out | apply below_alloc | apply pw_below_drewN | apply below_drew1) | exact HB.out))) : w.heap.size ≤ gb183)); have n3_ := Aside0.mk ((by rw [hg]; exact (below_size (by repeat (first | (with_reducible first | exact HB.out | apply below_alloc | apply pw_below_drewN | apply below_drew1) | exact HB.out))) : w.heap.size ≤ gb183)); clear HB; have HB := n0_; have BK183 := n1_; have GW183 := n2_; have GE183 := n3_; clear n0_ n1_ n2_ n3_; clear hb hbox hg))
    go_ret
    exact ⟨by first | rfl | (simp [errW_none, errW_some] <;> rfl) | (simp [*, errW_none, errW_some] <;> rfl), by repeat (first | (with_reducible first | exact HB.out | apply below_alloc | apply pw_below_drewN | apply below_drew1 | refine below_set ?_ GE183.out) | exact HB.out)⟩
  · rw [if_neg c4] at H
    have c4b0 : decide (1048576 < (l1.length : Int)) = false := decide_eq_false c4
    have c4b1 : decide (1048576 < l1.length) = false := decide_eq_false (by omega)
    clear c4
    by_cases c6 : (l2.length : Int) > 1048576
    · rw [if_pos c6] at H
      have c6b0 : decide (1048576 < (l2.length : Int)) = true := decide_eq_true c6
      have c6b1 : decide (1048576 < l2.length) = true := decide_eq_true (by omega)
      clear c6
      obtain rfl := Option.some.inj H
      go_enter Try.func13, Try.ntmps13
      go_wp2_with (first | ((with_reducible refine gate_dst (N := 3) rfl ?_); refine box_event ?hg (N := 3) ?hd (cs := #[.slice A0_0 l0_0.length c0_0, .slice A0_1 l0_1.length c0_1]) (t := 38) ?hr ?_; (case hd => rfl); (case hg => rfl); (case hr => first | (go_simp; done) | (go_simp; rfl)); intro gb183 hg w7 hbox hb; have n0_ := Aside0.mk (below_step (by repeat (first | (with_reducible first | exact HB.out | apply below_alloc | apply pw_below_drewN | apply below_drew1) | exact HB.out)) hb); have n1_ := Aside0.mk (hbox); have n2_ := Aside0.mk ((by rw [hg]; exact (below_size (by repeat (first | (with_reducible first | exact HB.out | apply below_alloc | apply pw_below_drewN | apply below_drew1) | exact HB.out))) : w.heap.size ≤ gb183)); have n3_ := Aside0.mk ((by rw [hg]; exact (below_size (by repeat (first | (with_reducible first | exact HB.out | apply below_alloc | apply pw_below_drewN | apply below_drew1) | exact HB.out))) : w.heap.size ≤ gb183)); clear HB; have HB := n0_; have BK183 := n1_; have GW183 := n2_; have GE183 := n3_; clear n0_ n1_ n2_ n3_; clear hb hbox hg))
      go_ret
      exact ⟨by first | rfl | (simp [errW_none, errW_some] <;> rfl) | (simp [*, errW_none, errW_some] <;> rfl), by repeat (first | (with_reducible first | exact HB.out | apply below_alloc | apply pw_below_drewN | apply below_drew1 | refine below_set ?_ GE183.out) | exact HB.out)⟩
    · rw [if_neg c6] at H
      have c6b0 : decide (1048576 < (l2.length : Int)) = false := decide_eq_false c6
      have c6b1 : decide (1048576 < l2.length) = false := decide_eq_false (by omega)
      clear c6
      replace H := Option.bind_eq_some_iff.mp H
      obtain ⟨t184, A80, H⟩ := H
      replace H : (if t184 < 0 then (some true) else ((laws_toTuning.f k l0_0 l0_1).bind fun bt185 => ((laws_toInt64S.f k l1).bind fun t191 => ((laws_toInt64S.f k l2).bind fun t194 => ((spec_TurnsNeeded.f k bt185.1 bt185.2 t191 t194).bind fun bt197 => ((laws_toTuning.f k l0_0 l0_1).bind fun bt201 => ((laws_toInt64S.f k l1).bind fun t208 => ((laws_toInt64S.f k l2).bind fun t211 => ((impl_TurnsNeeded.f k bt201.1 bt201.2 t208 t211).bind fun bt214 => ((laws_eqInt64S.f k bt214.1 bt197.1).bind fun t218 => (if t218 = true then (laws_FnExactTurnsNeeded.j0 k l1 l2 bt197.1 bt197.2 t208 t211 bt214.1 bt214.2 (bt214.2 != bt197.2) l0_0 l0_1 bt201.1 bt201.2) else (laws_FnExactTurnsNeeded.j0 k l1 l2 bt197.1 bt197.2 t208 t211 bt214.1 bt214.2 true l0_0 l0_1 bt201.1 bt201.2)))))))))))) = some r := H
      have A8 := Aside0.mk A80
      clear A80
      by_cases c9 : t184 < 0
      · rw [if_pos c9] at H
        have c9b0 : decide (t184 < 0) = true := decide_eq_true c9
        clear c9
        obtain rfl := Option.some.inj H
        go_enter Try.func13, Try.ntmps13
        go_wp2_with (first | ((with_reducible refine gate_dst (N := 3) rfl ?_); refine box_event ?hg (N := 3) ?hd (cs := #[.slice A0_0 l0_0.length c0_0, .slice A0_1 l0_1.length c0_1]) (t := 38) ?hr ?_; (case hd => rfl); (case hg => rfl); (case hr => first | (go_simp; done) | (go_simp; rfl)); intro gb183 hg w10 hbox hb; have n0_ := Aside0.mk (below_step (by repeat (first | (with_reducible first | exact HB.out | apply below_alloc | apply pw_below_drewN | apply below_drew1) | exact HB.out)) hb); have n1_ := Aside0.mk (hbox); have n2_ := Aside0.mk ((by rw [hg]; exact (below_size (by repeat (first | (with_reducible first | exact HB.out | apply below_alloc | apply pw_below_drewN | apply below_drew1) | exact HB.out))) : w.heap.size ≤ gb183)); have n3_ := Aside0.mk ((by rw [hg]; exact (below_size (by repeat (first | (with_reducible first | exact HB.out | apply below_alloc | apply pw_below_drewN | apply below_drew1) | exact HB.out))) : w.heap.size ≤ gb183)); clear HB; have HB := n0_; have BK183 := n1_; have GW183 := n2_; have GE183 := n3_; clear n0_ n1_ n2_ n3_; clear hb hbox hg; have hcz11_0 : w10.cell? ⟨gb183, 0, none⟩ = some (.slice A0_0 l0_0.length c0_0) := (blk_cell BK183.out 0).trans rfl; have hcz11_1 : w10.cell? ⟨gb183, 1, none⟩ = some (.slice A0_1 l0_1.length c0_1) := (blk_cell BK183.out 1).trans rfl; have hfz11_0 := blk_frozen BK183.out 0; have hfz11_1 := blk_frozen BK183.out 1) | ((with_reducible refine gate_callee (f := 24) rfl ?_); refine goesL_ (some 28) rfl rfl Try.func24 (by kernel_rfl) rfl #[.agg #[.slice A0_0 l0_0.length c0_0, .slice A0_1 l0_1.length c0_1], .int .i64 1048576] rfl (by (try simp only [List.map_toArray, List.map_cons, List.map_nil]); first | done | rfl | (simp only [List.length_drop, List.length_take]; rfl)) ?_; (with_reducible refine (laws_szTuning.calls k _ _ l0_0 _ _ l0_1 1048576 t184 _ ?side1 ?side2 ?side3 ?side4 A8.out).mono ?_); (case side1 => repeat (first | exact (Kd.C_below HR0_0.out HB.out) | (with_reducible refine Kd.C_alloc ?_ _) | (with_reducible refine Kd.C_drewN ?_ _) | (with_reducible refine Kd.C_drew ?_))); (case side2 => exact HC0_0.out); (case side3 => repeat (first | exact (Kd.C_below HR0_1.out HB.out) | (with_reducible refine Kd.C_alloc ?_ _) | (with_reducible refine Kd.C_drewN ?_ _) | (with_reducible refine Kd.C_drew ?_))); (case side4 => exact HC0_1.out); rintro e w12 ⟨rfl, hb⟩; refine ⟨_, rfl, ?_⟩; have n0_ := Aside0.mk (blk_below (g := gb183) (o := .cells #[.slice A0_0 l0_0.length c0_0, .slice A0_1 l0_1.length c0_1] 38 (0, 0)) (by (with_reducible repeat (first | refine blk_drewN ?_ _ | refine blk_drew ?_ | refine blk_alloc ?_ _)); exact BK183.out) hb); have n1_ := Aside0.mk (below_step (by repeat (first | (with_reducible first | exact HB.out | apply below_alloc | apply pw_below_drewN | apply below_drew1 | refine below_set ?_ GE183.out) | exact HB.out)) hb); clear BK183; clear HB; have BK183 := n0_; have HB := n1_; clear n0_ n1_; (try clear hb); (try clear hb2); (try clear hk); (try clear hi)))
        go_ret
        exact ⟨by first | rfl | (simp [errW_none, errW_some] <;> rfl) | (simp [*, errW_none, errW_some] <;> rfl), by repeat (first | (with_reducible first | exact HB.out | apply below_alloc | apply pw_below_drewN | apply below_drew1 | refine below_set ?_ GE183.out) | exact HB.out)⟩
      · rw [if_neg c9] at H
        have c9b0 : decide (t184 < 0) = false := decide_eq_false c9
        clear c9
        replace H := Option.bind_eq_some_iff.mp H
        obtain ⟨⟨t185, t188⟩, A130, H⟩ := H
        replace H : ((laws_toInt64S.f k l1).bind fun t191 => ((laws_toInt64S.f k l2).bind fun t194 => ((spec_TurnsNeeded.f k t185 t188 t191 t194).bind fun bt197 => ((laws_toTuning.f k l0_0 l0_1).bind fun bt201 => ((laws_toInt64S.f k l1).bind fun t208 => ((laws_toInt64S.f k l2).bind fun t211 => ((impl_TurnsNeeded.f k bt201.1 bt201.2 t208 t211).bind fun bt214 => ((laws_eqInt64S.f k bt214.1 bt197.1).bind fun t218 => (if t218 = true then (laws_FnExactTurnsNeeded.j0 k l1 l2 bt197.1 bt197.2 t208 t211 bt214.1 bt214.2 (bt214.2 != bt197.2) l0_0 l0_1 bt201.1 bt201.2) else (laws_FnExactTurnsNeeded.j0 k l1 l2 bt197.1 bt197.2 t208 t211 bt214.1 bt214.2 true l0_0 l0_1 bt201.1 bt201.2)))))))))) = some r := H
        have A13 := Aside0.mk A130
        clear A130
        replace H := Option.bind_eq_some_iff.mp H
        obtain ⟨t191, A140, H⟩ := H
        replace H : ((laws_toInt64S.f k l2).bind fun t194 => ((spec_TurnsNeeded.f k t185 t188 t191 t194).bind fun bt197 => ((laws_toTuning.f k l0_0 l0_1).bind fun bt201 => ((laws_toInt64S.f k l1).bind fun t208 => ((laws_toInt64S.f k l2).bind fun t211 => ((impl_TurnsNeeded.f k bt201.1 bt201.2 t208 t211).bind fun bt214 => ((laws_eqInt64S.f k bt214.1 bt197.1).bind fun t218 => (if t218 = true then (laws_FnExactTurnsNeeded.j0 k l1 l2 bt197.1 bt197.2 t208 t211 bt214.1 bt214.2 (bt214.2 != bt197.2) l0_0 l0_1 bt201.1 bt201.2) else (laws_FnExactTurnsNeeded.j0 k l1 l2 bt197.1 bt197.2 t208 t211 bt214.1 bt214.2 true l0_0 l0_1 bt201.1 bt201.2))))))))) = some r := H
        have A14 := Aside0.mk A140
        clear A140
        replace H := Option.bind_eq_some_iff.mp H
        obtain ⟨t194, A150, H⟩ := H
        replace H : ((spec_TurnsNeeded.f k t185 t188 t191 t194).bind fun bt197 => ((laws_toTuning.f k l0_0 l0_1).bind fun bt201 => ((laws_toInt64S.f k l1).bind fun t208 => ((laws_toInt64S.f k l2).bind fun t211 => ((impl_TurnsNeeded.f k bt201.1 bt201.2 t208 t211).bind fun bt214 => ((laws_eqInt64S.f k bt214.1 bt197.1).bind fun t218 => (if t218 = true then (laws_FnExactTurnsNeeded.j0 k l1 l2 bt197.1 bt197.2 t208 t211 bt214.1 bt214.2 (bt214.2 != bt197.2) l0_0 l0_1 bt201.1 bt201.2) else (laws_FnExactTurnsNeeded.j0 k l1 l2 bt197.1 bt197.2 t208 t211 bt214.1 bt214.2 true l0_0 l0_1 bt201.1 bt201.2)))))))) = some r := H
        have A15 := Aside0.mk A150
        clear A150
        replace H := Option.bind_eq_some_iff.mp H
        obtain ⟨⟨t197, t200⟩, A160, H⟩ := H
        replace H : ((laws_toTuning.f k l0_0 l0_1).bind fun bt201 => ((laws_toInt64S.f k l1).bind fun t208 => ((laws_toInt64S.f k l2).bind fun t211 => ((impl_TurnsNeeded.f k bt201.1 bt201.2 t208 t211).bind fun bt214 => ((laws_eqInt64S.f k bt214.1 t197).bind fun t218 => (if t218 = true then (laws_FnExactTurnsNeeded.j0 k l1 l2 t197 t200 t208 t211 bt214.1 bt214.2 (bt214.2 != t200) l0_0 l0_1 bt201.1 bt201.2) else (laws_FnExactTurnsNeeded.j0 k l1 l2 t197 t200 t208 t211 bt214.1 bt214.2 true l0_0 l0_1 bt201.1 bt201.2))))))) = some r := H
        have A16 := Aside0.mk A160
        clear A160
        replace H := Option.bind_eq_some_iff.mp H
        obtain ⟨⟨t201, t204⟩, A170, H⟩ := H
        replace H : ((laws_toInt64S.f k l1).bind fun t208 => ((laws_toInt64S.f k l2).bind fun t211 => ((impl_TurnsNeeded.f k t201 t204 t208 t211).bind fun bt214 => ((laws_eqInt64S.f k bt214.1 t197).bind fun t218 => (if t218 = true then (laws_FnExactTurnsNeeded.j0 k l1 l2 t197 t200 t208 t211 bt214.1 bt214.2 (bt214.2 != t200) l0_0 l0_1 t201 t204) else (laws_FnExactTurnsNeeded.j0 k l1 l2 t197 t200 t208 t211 bt214.1 bt214.2 true l0_0 l0_1 t201 t204)))))) = some r := H
        have A17 := Aside0.mk A170
        clear A170
        replace H := Option.bind_eq_some_iff.mp H
        obtain ⟨t208, A180, H⟩ := H
        replace H : ((laws_toInt64S.f k l2).bind fun t211 => ((impl_TurnsNeeded.f k t201 t204 t208 t211).bind fun bt214 => ((laws_eqInt64S.f k bt214.1 t197).bind fun t218 => (if t218 = true then (laws_FnExactTurnsNeeded.j0 k l1 l2 t197 t200 t208 t211 bt214.1 bt214.2 (bt214.2 != t200) l0_0 l0_1 t201 t204) else (laws_FnExactTurnsNeeded.j0 k l1 l2 t197 t200 t208 t211 bt214.1 bt214.2 true l0_0 l0_1 t201 t204))))) = some r := H
        have A18 := Aside0.mk A180
        clear A180
        replace H := Option.bind_eq_some_iff.mp H
        obtain ⟨t211, A190, H⟩ := H
        replace H : ((impl_TurnsNeeded.f k t201 t204 t208 t211).bind fun bt214 => ((laws_eqInt64S.f k bt214.1 t197).bind fun t218 => (if t218 = true then (laws_FnExactTurnsNeeded.j0 k l1 l2 t197 t200 t208 t211 bt214.1 bt214.2 (bt214.2 != t200) l0_0 l0_1 t201 t204) else (laws_FnExactTurnsNeeded.j0 k l1 l2 t197 t200 t208 t211 bt214.1 bt214.2 true l0_0 l0_1 t201 t204)))) = some r := H
        have A19 := Aside0.mk A190
        clear A190
        replace H := Option.bind_eq_some_iff.mp H
        obtain ⟨⟨t214, t217⟩, A200, H⟩ := H
        replace H : ((laws_eqInt64S.f k t214 t197).bind fun t218 => (if t218 = true then (laws_FnExactTurnsNeeded.j0 k l1 l2 t197 t200 t208 t211 t214 t217 (t217 != t200) l0_0 l0_1 t201 t204) else (laws_FnExactTurnsNeeded.j0 k l1 l2 t197 t200 t208 t211 t214 t217 true l0_0 l0_1 t201 t204))) = some r := H
        have A20 := Aside0.mk A200
        clear A200
        have HC21 := Aside0.mk H
        clear H
        go_enter Try.func13, Try.ntmps13
        go_upto_region 14 with (first | ((with_reducible refine gate_dst (N := 3) rfl ?_); refine box_event ?hg (N := 3) ?hd (cs := #[.slice A0_0 l0_0.length c0_0, .slice A0_1 l0_1.length c0_1]) (t := 38) ?hr ?_; (case hd => rfl); (case hg => rfl); (case hr => first | (go_simp; done) | (go_simp; rfl)); intro gb183 hg w22 hbox hb; have n0_ := Aside0.mk (below_step (by repeat (first | (with_reducible first | exact HB.out | apply below_alloc | apply pw_below_drewN | apply below_drew1) | exact HB.out)) hb); have n1_ := Aside0.mk (hbox); have n2_ := Aside0.mk ((by rw [hg]; exact (below_size (by repeat (first | (with_reducible first | exact HB.out | apply below_alloc | apply pw_below_drewN | apply below_drew1) | exact HB.out))) : w.heap.size ≤ gb183)); have n3_ := Aside0.mk ((by rw [hg]; exact (below_size (by repeat (first | (with_reducible first | exact HB.out | apply below_alloc | apply pw_below_drewN | apply below_drew1) | exact HB.out))) : w.heap.size ≤ gb183)); clear HB; have HB := n0_; have BK183 := n1_; have GW183 := n2_; have GE183 := n3_; clear n0_ n1_ n2_ n3_; clear hb hbox hg; have hcz23_0 : w22.cell? ⟨gb183, 0, none⟩ = some (.slice A0_0 l0_0.length c0_0) := (blk_cell BK183.out 0).trans rfl; have hcz23_1 : w22.cell? ⟨gb183, 1, none⟩ = some (.slice A0_1 l0_1.length c0_1) := (blk_cell BK183.out 1).trans rfl; have hfz23_0 := blk_frozen BK183.out 0; have hfz23_1 := blk_frozen BK183.out 1) | ((with_reducible refine gate_callee (f := 24) rfl ?_); refine goesL_ (some 28) rfl rfl Try.func24 (by kernel_rfl) rfl #[.agg #[.slice A0_0 l0_0.length c0_0, .slice A0_1 l0_1.length c0_1], .int .i64 1048576] rfl (by (try simp only [List.map_toArray, List.map_cons, List.map_nil]); first | done | rfl | (simp only [List.length_drop, List.length_take]; rfl)) ?_; (with_reducible refine (laws_szTuning.calls k _ _ l0_0 _ _ l0_1 1048576 t184 _ ?side1 ?side2 ?side3 ?side4 A8.out).mono ?_); (case side1 => repeat (first | exact (Kd.C_below HR0_0.out HB.out) | (with_reducible refine Kd.C_alloc ?_ _) | (with_reducible refine Kd.C_drewN ?_ _) | (with_reducible refine Kd.C_drew ?_))); (case side2 => exact HC0_0.out); (case side3 => repeat (first | exact (Kd.C_below HR0_1.out HB.out) | (with_reducible refine Kd.C_alloc ?_ _) | (with_reducible refine Kd.C_drewN ?_ _) | (with_reducible refine Kd.C_drew ?_))); (case side4 => exact HC0_1.out); rintro e w24 ⟨rfl, hb⟩; refine ⟨_, rfl, ?_⟩; have n0_ := Aside0.mk (blk_below (g := gb183) (o := .cells #[.slice A0_0 l0_0.length c0_0, .slice A0_1 l0_1.length c0_1] 38 (0, 0)) (by (with_reducible repeat (first | refine blk_drewN ?_ _ | refine blk_drew ?_ | refine blk_alloc ?_ _)); exact BK183.out) hb); have n1_ := Aside0.mk (below_step (by repeat (first | (with_reducible first | exact HB.out | apply below_alloc | apply pw_below_drewN | apply below_drew1 | refine below_set ?_ GE183.out) | exact HB.out)) hb); clear BK183; clear HB; have BK183 := n0_; have HB := n1_; clear n0_ n1_; (try clear hb); (try clear hb2); (try clear hk); (try clear hi); have hcz25_0 : w24.cell? ⟨gb183, 0, none⟩ = some (.slice A0_0 l0_0.length c0_0) := (blk_cell BK183.out 0).trans rfl; have hcz25_1 : w24.cell? ⟨gb183, 1, none⟩ = some (.slice A0_1 l0_1.length c0_1) := (blk_cell BK183.out 1).trans rfl; have hfz25_0 := blk_frozen BK183.out 0; have hfz25_1 := blk_frozen BK183.out 1) | ((with_reducible refine gate_callee (f := 26) rfl ?_); refine goesL_ (some 33) rfl rfl Try.func26 (by kernel_rfl) rfl #[.agg #[.slice A0_0 l0_0.length c0_0, .slice A0_1 l0_1.length c0_1]] rfl (by (try simp only [List.map_toArray, List.map_cons, List.map_nil]); first | done | rfl | (simp only [List.length_drop, List.length_take]; rfl)) ?_; (with_reducible refine (laws_toTuning.calls k _ _ l0_0 _ _ l0_1 t185 t188 _ ?side1 ?side2 ?side3 ?side4 A13.out).mono ?_); (case side1 => repeat (first | exact (Kd.C_below HR0_0.out HB.out) | (with_reducible refine Kd.C_alloc ?_ _) | (with_reducible refine Kd.C_drewN ?_ _) | (with_reducible refine Kd.C_drew ?_))); (case side2 => exact HC0_0.out); (case side3 => repeat (first | exact (Kd.C_below HR0_1.out HB.out) | (with_reducible refine Kd.C_alloc ?_ _) | (with_reducible refine Kd.C_drewN ?_ _) | (with_reducible refine Kd.C_drew ?_))); (case side4 => exact HC0_1.out); rintro e w26 ⟨v186, v189, rfl, ho0, ho1, hb⟩; refine ⟨_, rfl, ?_⟩; have n0_ := Aside0.mk (Kd.R_lower ho0 (below_size (by repeat (first | (with_reducible first | exact HB.out | apply below_alloc | apply pw_below_drewN | apply below_drew1 | refine below_set ?_ GE183.out) | exact HB.out)))); have n1_ := Aside0.mk (Kd.S_lower ho1 (below_size (by repeat (first | (with_reducible first | exact HB.out | apply below_alloc | apply pw_below_drewN | apply below_drew1 | refine below_set ?_ GE183.out) | exact HB.out)))); have n2_ := Aside0.mk (blk_below (g := gb183) (o := .cells #[.slice A0_0 l0_0.length c0_0, .slice A0_1 l0_1.length c0_1] 38 (0, 0)) (by (with_reducible repeat (first | refine blk_drewN ?_ _ | refine blk_drew ?_ | refine blk_alloc ?_ _)); exact BK183.out) hb); have n3_ := Aside0.mk (below_step (by repeat (first | (with_reducible first | exact HB.out | apply below_alloc | apply pw_below_drewN | apply below_drew1 | refine below_set ?_ GE183.out) | exact HB.out)) hb); clear BK183; clear HB; have HO187 := n0_; have HO190 := n1_; have BK183 := n2_; have HB := n3_; clear n0_ n1_ n2_ n3_; (try clear hb); (try clear hb2); (try clear hk); (try clear hi); (try clear ho0); (try clear ho1)) | ((with_reducible refine gate_callee (f := 32) rfl ?_); refine goesL_ (some 35) rfl rfl Try.func32 (by kernel_rfl) rfl #[.slice A1 l1.length c1] rfl (by (try simp only [List.map_toArray, List.map_cons, List.map_nil]); first | done | rfl | (simp only [List.length_drop, List.length_take]; rfl)) ?_; (with_reducible refine (laws_toInt64S.calls k _ _ l1 t191 _ ?side1 ?side2 A14.out).mono ?_); (case side1 => repeat (first | exact (Kd.C_below HR1.out HB.out) | (with_reducible refine Kd.C_alloc ?_ _) | (with_reducible refine Kd.C_drewN ?_ _) | (with_reducible refine Kd.C_drew ?_))); (case side2 => exact HC1.out); rintro e w27 ⟨v192, rfl, ho0, hb⟩; refine ⟨_, rfl, ?_⟩; have n0_ := Aside0.mk (Kd.R_elder' (by (with_reducible repeat (first | apply Kd.R_alloc | apply Kd.R_drewN | apply Kd.R_drew)); exact HO187.out) (Kd.R_base ho0) hb); have n1_ := Aside0.mk (Kd.S_elder' (by (with_reducible repeat (first | apply Kd.S_alloc | apply Kd.S_drewN | apply Kd.S_drew)); exact HO190.out) (Kd.R_base ho0) hb); have n2_ := Aside0.mk (Kd.R_lower (Kd.R_new' ho0 (Kd.R_lt (by (with_reducible repeat (first | apply Kd.R_alloc | apply Kd.R_drewN | apply Kd.R_drew)); exact HO187.out))) (below_size (by repeat (first | (with_reducible first | exact HB.out | apply below_alloc | apply pw_below_drewN | apply below_drew1 | refine below_set ?_ GE183.out) | exact HB.out)))); have n3_ := Aside0.mk (blk_below (g := gb183) (o := .cells #[.slice A0_0 l0_0.length c0_0, .slice A0_1 l0_1.length c0_1] 38 (0, 0)) (by (with_reducible repeat (first | refine blk_drewN ?_ _ | refine blk_drew ?_ | refine blk_alloc ?_ _)); exact BK183.out) hb); have n4_ := Aside0.mk (below_step (by repeat (first | (with_reducible first | exact HB.out | apply below_alloc | apply pw_below_drewN | apply below_drew1 | refine below_set ?_ GE183.out) | exact HB.out)) hb); clear HO187; clear HO190; clear BK183; clear HB; have HO187 := n0_; have HO190 := n1_; have HO193 := n2_; have BK183 := n3_; have HB := n4_; clear n0_ n1_ n2_ n3_ n4_; (try clear hb); (try clear hb2); (try clear hk); (try clear hi); (try clear ho0)) | ((with_reducible refine gate_callee (f := 32) rfl ?_); refine goesL_ (some 37) rfl rfl Try.func32 (by kernel_rfl) rfl #[.slice A2 l2.length c2] rfl (by (try simp only [List.map_toArray, List.map_cons, List.map_nil]); first | done | rfl | (simp only [List.length_drop, List.length_take]; rfl)) ?_; (with_reducible refine (laws_toInt64S.calls k _ _ l2 t194 _ ?side1 ?side2 A15.out).mono ?_); (case side1 => repeat (first | exact (Kd.C_below HR2.out HB.out) | (with_reducible refine Kd.C_alloc ?_ _) | (with_reducible refine Kd.C_drewN ?_ _) | (with_reducible refine Kd.C_drew ?_))); (case side2 => exact HC2.out); rintro e w28 ⟨v195, rfl, ho0, hb⟩; refine ⟨_, rfl, ?_⟩; have n0_ := Aside0.mk (Kd.R_elder' (by (with_reducible repeat (first | apply Kd.R_alloc | apply Kd.R_drewN | apply Kd.R_drew)); exact HO187.out) (Kd.R_base ho0) hb); have n1_ := Aside0.mk (Kd.S_elder' (by (with_reducible repeat (first | apply Kd.S_alloc | apply Kd.S_drewN | apply Kd.S_drew)); exact HO190.out) (Kd.R_base ho0) hb); have n2_ := Aside0.mk (Kd.R_elder' (by (with_reducible repeat (first | apply Kd.R_alloc | apply Kd.R_drewN | apply Kd.R_drew)); exact HO193.out) (Kd.R_base ho0) hb); have n3_ := Aside0.mk (Kd.R_lower (Kd.R_new' (Kd.R_new' ho0 (Kd.R_lt (by (with_reducible repeat (first | apply Kd.R_alloc | apply Kd.R_drewN | apply Kd.R_drew)); exact HO187.out))) (Kd.R_lt (by (with_reducible repeat (first | apply Kd.R_alloc | apply Kd.R_drewN | apply Kd.R_drew)); exact HO193.out))) (below_size (by repeat (first | (with_reducible first | exact HB.out | apply below_alloc | apply pw_below_drewN | apply below_drew1 | refine below_set ?_ GE183.out) | exact HB.out)))); have n4_ := Aside0.mk (blk_below (g := gb183) (o := .cells #[.slice A0_0 l0_0.length c0_0, .slice A0_1 l0_1.length c0_1] 38 (0, 0)) (by (with_reducible repeat (first | refine blk_drewN ?_ _ | refine blk_drew ?_ | refine blk_alloc ?_ _)); exact BK183.out) hb); have n5_ := Aside0.mk (below_step (by repeat (first | (with_reducible first | exact HB.out | apply below_alloc | apply pw_below_drewN | apply below_drew1 | refine below_set ?_ GE183.out) | exact HB.out)) hb); clear HO187; clear HO190; clear HO193; clear BK183; clear HB; have HO187 := n0_; have HO190 := n1_; have HO193 := n2_; have HO196 := n3_; have BK183 := n4_; have HB := n5_; clear n0_ n1_ n2_ n3_ n4_ n5_; (try clear hb); (try clear hb2); (try clear hk); (try clear hi); (try clear ho0); obtain ⟨Ao29, co29, eo29⟩ := Kd.R_slice HO187.out; subst eo29; obtain ⟨Ao30, co30, eo30⟩ := Kd.S_slice HO190.out; subst eo30; obtain ⟨Ao31, co31, eo31⟩ := Kd.R_slice HO193.out; subst eo31; obtain ⟨Ao32, co32, eo32⟩ := Kd.R_slice HO196.out; subst eo32) | ((with_reducible refine gate_callee (f := 45) rfl ?_); refine goesL_ (some 38) rfl rfl Try.func45 (by kernel_rfl) rfl #[.agg #[.slice Ao29 t185.length co29, .slice Ao30 t188.length co30], .slice Ao31 t191.length co31, .slice Ao32 t194.length co32] rfl (by (try simp only [List.map_toArray, List.map_cons, List.map_nil]); first | done | rfl | (simp only [List.length_drop, List.length_take]; rfl)) ?_; (with_reducible refine (spec_TurnsNeeded.calls k _ _ t185 _ _ t188 _ _ t191 _ _ t194 t197 t200 _ ?side1 ?side2 ?side3 ?side4 ?side5 ?side6 ?side7 ?side8 A16.out).mono ?_); (case side1 => repeat (first | exact (Kd.R_reads' HO187.out).2.2 | (with_reducible refine Kd.C_alloc ?_ _) | (with_reducible refine Kd.C_drewN ?_ _) | (with_reducible refine Kd.C_drew ?_))); (case side2 => exact (Kd.R_reads' HO187.out).2.1); (case side3 => repeat (first | exact (Kd.S_reads' HO190.out).2.2 | (with_reducible refine Kd.C_alloc ?_ _) | (with_reducible refine Kd.C_drewN ?_ _) | (with_reducible refine Kd.C_drew ?_))); (case side4 => exact (Kd.S_reads' HO190.out).2.1); (case side5 => repeat (first | exact (Kd.R_reads' HO193.out).2.2 | (with_reducible refine Kd.C_alloc ?_ _) | (with_reducible refine Kd.C_drewN ?_ _) | (with_reducible refine Kd.C_drew ?_))); (case side6 => exact (Kd.R_reads' HO193.out).2.1); (case side7 => repeat (first | exact (Kd.R_reads' HO196.out).2.2 | (with_reducible refine Kd.C_alloc ?_ _) | (with_reducible refine Kd.C_drewN ?_ _) | (with_reducible refine Kd.C_drew ?_))); (case side8 => exact (Kd.R_reads' HO196.out).2.1); rintro e w33 ⟨v198, rfl, ho0, hb⟩; refine ⟨_, rfl, ?_⟩; have n0_ := Aside0.mk (Kd.R_elder' (by (with_reducible repeat (first | apply Kd.R_alloc | apply Kd.R_drewN | apply Kd.R_drew)); exact HO187.out) (Kd.R_base ho0) hb); have n1_ := Aside0.mk (Kd.S_elder' (by (with_reducible repeat (first | apply Kd.S_alloc | apply Kd.S_drewN | apply Kd.S_drew)); exact HO190.out) (Kd.R_base ho0) hb); have n2_ := Aside0.mk (Kd.R_elder' (by (with_reducible repeat (first | apply Kd.R_alloc | apply Kd.R_drewN | apply Kd.R_drew)); exact HO193.out) (Kd.R_base ho0) hb); have n3_ := Aside0.mk (Kd.R_elder' (by (with_reducible repeat (first | apply Kd.R_alloc | apply Kd.R_drewN | apply Kd.R_drew)); exact HO196.out) (Kd.R_base ho0) hb); have n4_ := Aside0.mk (Kd.R_lower (Kd.R_new' (Kd.R_new' (Kd.R_new' ho0 (Kd.R_lt (by (with_reducible repeat (first | apply Kd.R_alloc | apply Kd.R_drewN | apply Kd.R_drew)); exact HO187.out))) (Kd.R_lt (by (with_reducible repeat (first | apply Kd.R_alloc | apply Kd.R_drewN | apply Kd.R_drew)); exact HO193.out))) (Kd.R_lt (by (with_reducible repeat (first | apply Kd.R_alloc | apply Kd.R_drewN | apply Kd.R_drew)); exact HO196.out))) (below_size (by repeat (first | (with_reducible first | exact HB.out | apply below_alloc | apply pw_below_drewN | apply below_drew1 | refine below_set ?_ GE183.out) | exact HB.out)))); have n5_ := Aside0.mk (blk_below (g := gb183) (o := .cells #[.slice A0_0 l0_0.length c0_0, .slice A0_1 l0_1.length c0_1] 38 (0, 0)) (by (with_reducible repeat (first | refine blk_drewN ?_ _ | refine blk_drew ?_ | refine blk_alloc ?_ _)); exact BK183.out) hb); have n6_ := Aside0.mk (below_step (by repeat (first | (with_reducible first | exact HB.out | apply below_alloc | apply pw_below_drewN | apply below_drew1 | refine below_set ?_ GE183.out) | exact HB.out)) hb); clear HO187; clear HO190; clear HO193; clear HO196; clear BK183; clear HB; have HO187 := n0_; have HO190 := n1_; have HO193 := n2_; have HO196 := n3_; have HO199 := n4_; have BK183 := n5_; have HB := n6_; clear n0_ n1_ n2_ n3_ n4_ n5_ n6_; (try clear hb); (try clear hb2); (try clear hk); (try clear hi); (try clear ho0); have hcz34_0 : w33.cell? ⟨gb183, 0, none⟩ = some (.slice A0_0 l0_0.length c0_0) := (blk_cell BK183.out 0).trans rfl; have hcz34_1 : w33.cell? ⟨gb183, 1, none⟩ = some (.slice A0_1 l0_1.length c0_1) := (blk_cell BK183.out 1).trans rfl; have hfz34_0 := blk_frozen BK183.out 0; have hfz34_1 := blk_frozen BK183.out 1) | ((with_reducible refine gate_callee (f := 26) rfl ?_); refine goesL_ (some 42) rfl rfl Try.func26 (by kernel_rfl) rfl #[.agg #[.slice A0_0 l0_0.length c0_0, .slice A0_1 l0_1.length c0_1]] rfl (by (try simp only [List.map_toArray, List.map_cons, List.map_nil]); first | done | rfl | (simp only [List.length_drop, List.length_take]; rfl)) ?_; (with_reducible refine (laws_toTuning.calls k _ _ l0_0 _ _ l0_1 t201 t204 _ ?side1 ?side2 ?side3 ?side4 A17.out).mono ?_); (case side1 => repeat (first | exact (Kd.C_below HR0_0.out HB.out) | (with_reducible refine Kd.C_alloc ?_ _) | (with_reducible refine Kd.C_drewN ?_ _) | (with_reducible refine Kd.C_drew ?_))); (case side2 => exact HC0_0.out); (case side3 => repeat (first | exact (Kd.C_below HR0_1.out HB.out) | (with_reducible refine Kd.C_alloc ?_ _) | (with_reducible refine Kd.C_drewN ?_ _) | (with_reducible refine Kd.C_drew ?_))); (case side4 => exact HC0_1.out); rintro e w35 ⟨v202, v205, rfl, ho0, ho1, hb⟩; refine ⟨_, rfl, ?_⟩; have n0_ := Aside0.mk (Kd.R_elder' (by (with_reducible repeat (first | apply Kd.R_alloc | apply Kd.R_drewN | apply Kd.R_drew)); exact HO187.out) (Kd.R_base ho0) hb); have n1_ := Aside0.mk (Kd.S_mono (Kd.S_told (Kd.S_told (Kd.S_old (by (with_reducible repeat (first | apply Kd.S_alloc | apply Kd.S_drewN | apply Kd.S_drew)); exact HO190.out) hb) (Kd.R_base ho0)) (Kd.S_base ho1)) (fun _ h_ => h_.1)); have n2_ := Aside0.mk (Kd.R_elder' (by (with_reducible repeat (first | apply Kd.R_alloc | apply Kd.R_drewN | apply Kd.R_drew)); exact HO193.out) (Kd.R_base ho0) hb); have n3_ := Aside0.mk (Kd.R_elder' (by (with_reducible repeat (first | apply Kd.R_alloc | apply Kd.R_drewN | apply Kd.R_drew)); exact HO196.out) (Kd.R_base ho0) hb); have n4_ := Aside0.mk (Kd.R_elder' (by (with_reducible repeat (first | apply Kd.R_alloc | apply Kd.R_drewN | apply Kd.R_drew)); exact HO199.out) (Kd.R_base ho0) hb); have n5_ := Aside0.mk (Kd.R_lower (Kd.R_new' (Kd.R_new' (Kd.R_new' (Kd.R_new' ho0 (Kd.R_lt (by (with_reducible repeat (first | apply Kd.R_alloc | apply Kd.R_drewN | apply Kd.R_drew)); exact HO187.out))) (Kd.R_lt (by (with_reducible repeat (first | apply Kd.R_alloc | apply Kd.R_drewN | apply Kd.R_drew)); exact HO193.out))) (Kd.R_lt (by (with_reducible repeat (first | apply Kd.R_alloc | apply Kd.R_drewN | apply Kd.R_drew)); exact HO196.out))) (Kd.R_lt (by (with_reducible repeat (first | apply Kd.R_alloc | apply Kd.R_drewN | apply Kd.R_drew)); exact HO199.out))) (below_size (by repeat (first | (with_reducible first | exact HB.out | apply below_alloc | apply pw_below_drewN | apply below_drew1 | refine below_set ?_ GE183.out) | exact HB.out)))); have n6_ := Aside0.mk (Kd.S_lower (Kd.S_new' (Kd.S_new' (Kd.S_new' (Kd.S_new' (Kd.S_new' ho1 (Kd.R_lt (by (with_reducible repeat (first | apply Kd.R_alloc | apply Kd.R_drewN | apply Kd.R_drew)); exact HO187.out))) (Kd.S_lt (by (with_reducible repeat (first | apply Kd.S_alloc | apply Kd.S_drewN | apply Kd.S_drew)); exact HO190.out))) (Kd.R_lt (by (with_reducible repeat (first | apply Kd.R_alloc | apply Kd.R_drewN | apply Kd.R_drew)); exact HO193.out))) (Kd.R_lt (by (with_reducible repeat (first | apply Kd.R_alloc | apply Kd.R_drewN | apply Kd.R_drew)); exact HO196.out))) (Kd.R_lt (by (with_reducible repeat (first | apply Kd.R_alloc | apply Kd.R_drewN | apply Kd.R_drew)); exact HO199.out))) (below_size (by repeat (first | (with_reducible first | exact HB.out | apply below_alloc | apply pw_below_drewN | apply below_drew1 | refine below_set ?_ GE183.out) | exact HB.out)))); have n7_ := Aside0.mk (blk_below (g := gb183) (o := .cells #[.slice A0_0 l0_0.length c0_0, .slice A0_1 l0_1.length c0_1] 38 (0, 0)) (by (with_reducible repeat (first | refine blk_drewN ?_ _ | refine blk_drew ?_ | refine blk_alloc ?_ _)); exact BK183.out) hb); have n8_ := Aside0.mk (below_step (by repeat (first | (with_reducible first | exact HB.out | apply below_alloc | apply pw_below_drewN | apply below_drew1 | refine below_set ?_ GE183.out) | exact HB.out)) hb); clear HO187; clear HO190; clear HO193; clear HO196; clear HO199; clear BK183; clear HB; have HO187 := n0_; have HO190 := n1_; have HO193 := n2_; have HO196 := n3_; have HO199 := n4_; have HO203 := n5_; have HO206 := n6_; have BK183 := n7_; have HB := n8_; clear n0_ n1_ n2_ n3_ n4_ n5_ n6_ n7_ n8_; (try clear hb); (try clear hb2); (try clear hk); (try clear hi); (try clear ho0); (try clear ho1)) | ((with_reducible refine gate_dst (N := 10) rfl ?_); refine box_event ?hg (N := 10) ?hd (cs := #[.slice none 0 0, .slice none 0 0]) (t := 27) ?hr ?_; (case hd => rfl); (case hg => rfl); (case hr => first | (go_simp; done) | (go_simp; rfl)); intro gb207 hg w36 hbox hb; have n0_ := Aside0.mk (Kd.R_below (by (with_reducible repeat (first | apply Kd.R_alloc | apply Kd.R_drewN | apply Kd.R_drew)); exact HO187.out) hb); have n1_ := Aside0.mk (Kd.S_below (by (with_reducible repeat (first | apply Kd.S_alloc | apply Kd.S_drewN | apply Kd.S_drew)); exact HO190.out) hb); have n2_ := Aside0.mk (Kd.R_below (by (with_reducible repeat (first | apply Kd.R_alloc | apply Kd.R_drewN | apply Kd.R_drew)); exact HO193.out) hb); have n3_ := Aside0.mk (Kd.R_below (by (with_reducible repeat (first | apply Kd.R_alloc | apply Kd.R_drewN | apply Kd.R_drew)); exact HO196.out) hb); have n4_ := Aside0.mk (Kd.R_below (by (with_reducible repeat (first | apply Kd.R_alloc | apply Kd.R_drewN | apply Kd.R_drew)); exact HO199.out) hb); have n5_ := Aside0.mk (Kd.R_below (by (with_reducible repeat (first | apply Kd.R_alloc | apply Kd.R_drewN | apply Kd.R_drew)); exact HO203.out) hb); have n6_ := Aside0.mk (Kd.S_below (by (with_reducible repeat (first | apply Kd.S_alloc | apply Kd.S_drewN | apply Kd.S_drew)); exact HO206.out) hb); have n7_ := Aside0.mk (blk_below (g := gb183) (o := .cells #[.slice A0_0 l0_0.length c0_0, .slice A0_1 l0_1.length c0_1] 38 (0, 0)) (by (with_reducible repeat (first | refine blk_drewN ?_ _ | refine blk_drew ?_ | refine blk_alloc ?_ _)); exact BK183.out) hb); have n8_ := Aside0.mk (below_step (by repeat (first | (with_reducible first | exact HB.out | apply below_alloc | apply pw_below_drewN | apply below_drew1 | refine below_set ?_ GE183.out) | exact HB.out)) hb); have n9_ := Aside0.mk (hbox); have n10_ := Aside0.mk ((by rw [hg]; exact (below_size (by repeat (first | (with_reducible first | exact HB.out | apply below_alloc | apply pw_below_drewN | apply below_drew1 | refine below_set ?_ GE183.out) | exact HB.out))) : w.heap.size ≤ gb207)); have n11_ := Aside0.mk ((by rw [hg]; exact (below_size (by repeat (first | (with_reducible first | exact HB.out | apply below_alloc | apply pw_below_drewN | apply below_drew1 | refine below_set ?_ GE183.out) | exact HB.out))) : w.heap.size ≤ gb207)); have n12_ := Aside0.mk ((by rw [hg]; exact Nat.ne_of_lt (blk_lt (g := gb183) (o := .cells #[.slice A0_0 l0_0.length c0_0, .slice A0_1 l0_1.length c0_1] 38 (0, 0)) (by (with_reducible repeat (first | refine blk_drewN ?_ _ | refine blk_drew ?_ | refine blk_alloc ?_ _)); exact BK183.out)) : gb183 ≠ gb207)); have n13_ := Aside0.mk ((by rw [hg]; exact Nat.ne_of_gt (blk_lt (g := gb183) (o := .cells #[.slice A0_0 l0_0.length c0_0, .slice A0_1 l0_1.length c0_1] 38 (0, 0)) (by (with_reducible repeat (first | refine blk_drewN ?_ _ | refine blk_drew ?_ | refine blk_alloc ?_ _)); exact BK183.out)) : gb207 ≠ gb183)); clear HO187; clear HO190; clear HO193; clear HO196; clear HO199; clear HO203; clear HO206; clear BK183; clear HB; have HO187 := n0_; have HO190 := n1_; have HO193 := n2_; have HO196 := n3_; have HO199 := n4_; have HO203 := n5_; have HO206 := n6_; have BK183 := n7_; have HB := n8_; have BK207 := n9_; have GW207 := n10_; have GE207 := n11_; have NB183_207 := n12_; have NB207_183 := n13_; clear n0_ n1_ n2_ n3_ n4_ n5_ n6_ n7_ n8_ n9_ n10_ n11_ n12_ n13_; clear hb hbox hg; obtain ⟨Ao37, co37, eo37⟩ := Kd.R_slice HO203.out; subst eo37; have hnb38 := NB207_183.out; have hnc38 := NB183_207.out; have hcz39_0 : w36.cell? ⟨gb207, 0, none⟩ = some (.slice none 0 0) := (blk_cell BK207.out 0).trans rfl; have hcz39_1 : w36.cell? ⟨gb207, 1, none⟩ = some (.slice none 0 0) := (blk_cell BK207.out 1).trans rfl; have hfz39_0 := blk_frozen BK207.out 0; have hfz39_1 := blk_frozen BK207.out 1; obtain ⟨Ao40, co40, eo40⟩ := Kd.S_slice HO206.out; subst eo40) | ((with_reducible refine gate_callee (f := 32) rfl ?_); refine goesL_ (some 44) rfl rfl Try.func32 (by kernel_rfl) rfl #[.slice A1 l1.length c1] rfl (by (try simp only [List.map_toArray, List.map_cons, List.map_nil]); first | done | rfl | (simp only [List.length_drop, List.length_take]; rfl)) ?_; (with_reducible refine (laws_toInt64S.calls k _ _ l1 t208 _ ?side1 ?side2 A18.out).mono ?_); (case side1 => exact Kd.C_below HR1.out (by repeat (first | (with_reducible first | exact HB.out | apply below_alloc | apply pw_below_drewN | apply below_drew1 | refine below_set ?_ GE183.out | refine below_set ?_ GE207.out) | exact HB.out))); (case side2 => exact HC1.out); rintro e w41 ⟨v209, rfl, ho0, hb⟩; refine ⟨_, rfl, ?_⟩; have n0_ := Aside0.mk (Kd.R_elder' (by (with_reducible repeat (first | apply Kd.R_alloc | apply Kd.R_drewN | apply Kd.R_drew)); exact (Kd.R_mono (Kd.R_far (p := ⟨gb207, 1, none⟩) (Kd.R_far (p := ⟨gb207, 0, none⟩) (Kd.R_types HO187.out BK207.out (by decide)) (fun _ hk => hk.2) (.slice Ao37 t201.length co37)) (fun _ hk => hk.2) (.slice Ao40 t204.length co40)) (fun _ h_ => h_.1))) (Kd.R_base ho0) hb); have n1_ := Aside0.mk (Kd.S_elder' (by (with_reducible repeat (first | apply Kd.S_alloc | apply Kd.S_drewN | apply Kd.S_drew)); exact (Kd.S_mono (Kd.S_far (p := ⟨gb207, 1, none⟩) (Kd.S_far (p := ⟨gb207, 0, none⟩) (Kd.S_types HO190.out BK207.out (by decide)) (fun _ hk => hk.2) (.slice Ao37 t201.length co37)) (fun _ hk => hk.2) (.slice Ao40 t204.length co40)) (fun _ h_ => h_.1))) (Kd.R_base ho0) hb); have n2_ := Aside0.mk (Kd.R_elder' (by (with_reducible repeat (first | apply Kd.R_alloc | apply Kd.R_drewN | apply Kd.R_drew)); exact (Kd.R_mono (Kd.R_far (p := ⟨gb207, 1, none⟩) (Kd.R_far (p := ⟨gb207, 0, none⟩) (Kd.R_types HO193.out BK207.out (by decide)) (fun _ hk => hk.2) (.slice Ao37 t201.length co37)) (fun _ hk => hk.2) (.slice Ao40 t204.length co40)) (fun _ h_ => h_.1))) (Kd.R_base ho0) hb); have n3_ := Aside0.mk (Kd.R_elder' (by (with_reducible repeat (first | apply Kd.R_alloc | apply Kd.R_drewN | apply Kd.R_drew)); exact (Kd.R_mono (Kd.R_far (p := ⟨gb207, 1, none⟩) (Kd.R_far (p := ⟨gb207, 0, none⟩) (Kd.R_types HO196.out BK207.out (by decide)) (fun _ hk => hk.2) (.slice Ao37 t201.length co37)) (fun _ hk => hk.2) (.slice Ao40 t204.length co40)) (fun _ h_ => h_.1))) (Kd.R_base ho0) hb); have n4_ := Aside0.mk (Kd.R_elder' (by (with_reducible repeat (first | apply Kd.R_alloc | apply Kd.R_drewN | apply Kd.R_drew)); exact (Kd.R_mono (Kd.R_far (p := ⟨gb207, 1, none⟩) (Kd.R_far (p := ⟨gb207, 0, none⟩) (Kd.R_types HO199.out BK207.out (by decide)) (fun _ hk => hk.2) (.slice Ao37 t201.length co37)) (fun _ hk => hk.2) (.slice Ao40 t204.length co40)) (fun _ h_ => h_.1))) (Kd.R_base ho0) hb); have n5_ := Aside0.mk (Kd.R_elder' (by (with_reducible repeat (first | apply Kd.R_alloc | apply Kd.R_drewN | apply Kd.R_drew)); exact (Kd.R_mono (Kd.R_far (p := ⟨gb207, 1, none⟩) (Kd.R_far (p := ⟨gb207, 0, none⟩) (Kd.R_types HO203.out BK207.out (by decide)) (fun _ hk => hk.2) (.slice Ao37 t201.length co37)) (fun _ hk => hk.2) (.slice Ao40 t204.length co40)) (fun _ h_ => h_.1))) (Kd.R_base ho0) hb); have n6_ := Aside0.mk (Kd.S_elder' (by (with_reducible repeat (first | apply Kd.S_alloc | apply Kd.S_drewN | apply Kd.S_drew)); exact (Kd.S_mono (Kd.S_far (p := ⟨gb207, 1, none⟩) (Kd.S_far (p := ⟨gb207, 0, none⟩) (Kd.S_types HO206.out BK207.out (by decide)) (fun _ hk => hk.2) (.slice Ao37 t201.length co37)) (fun _ hk => hk.2) (.slice Ao40 t204.length co40)) (fun _ h_ => h_.1))) (Kd.R_base ho0) hb); have n7_ := Aside0.mk (Kd.R_lower (Kd.R_new' (Kd.R_new' (Kd.R_new' (Kd.R_new' (Kd.R_new' ho0 (Kd.R_lt (by (with_reducible repeat (first | apply Kd.R_alloc | apply Kd.R_drewN | apply Kd.R_drew)); exact (Kd.R_mono (Kd.R_far (p := ⟨gb207, 1, none⟩) (Kd.R_far (p := ⟨gb207, 0, none⟩) (Kd.R_types HO187.out BK207.out (by decide)) (fun _ hk => hk.2) (.slice Ao37 t201.length co37)) (fun _ hk => hk.2) (.slice Ao40 t204.length co40)) (fun _ h_ => h_.1))))) (Kd.R_lt (by (with_reducible repeat (first | apply Kd.R_alloc | apply Kd.R_drewN | apply Kd.R_drew)); exact (Kd.R_mono (Kd.R_far (p := ⟨gb207, 1, none⟩) (Kd.R_far (p := ⟨gb207, 0, none⟩) (Kd.R_types HO193.out BK207.out (by decide)) (fun _ hk => hk.2) (.slice Ao37 t201.length co37)) (fun _ hk => hk.2) (.slice Ao40 t204.length co40)) (fun _ h_ => h_.1))))) (Kd.R_lt (by (with_reducible repeat (first | apply Kd.R_alloc | apply Kd.R_drewN | apply Kd.R_drew)); exact (Kd.R_mono (Kd.R_far (p := ⟨gb207, 1, none⟩) (Kd.R_far (p := ⟨gb207, 0, none⟩) (Kd.R_types HO196.out BK207.out (by decide)) (fun _ hk => hk.2) (.slice Ao37 t201.length co37)) (fun _ hk => hk.2) (.slice Ao40 t204.length co40)) (fun _ h_ => h_.1))))) (Kd.R_lt (by (with_reducible repeat (first | apply Kd.R_alloc | apply Kd.R_drewN | apply Kd.R_drew)); exact (Kd.R_mono (Kd.R_far (p := ⟨gb207, 1, none⟩) (Kd.R_far (p := ⟨gb207, 0, none⟩) (Kd.R_types HO199.out BK207.out (by decide)) (fun _ hk => hk.2) (.slice Ao37 t201.length co37)) (fun _ hk => hk.2) (.slice Ao40 t204.length co40)) (fun _ h_ => h_.1))))) (Kd.R_lt (by (with_reducible repeat (first | apply Kd.R_alloc | apply Kd.R_drewN | apply Kd.R_drew)); exact (Kd.R_mono (Kd.R_far (p := ⟨gb207, 1, none⟩) (Kd.R_far (p := ⟨gb207, 0, none⟩) (Kd.R_types HO203.out BK207.out (by decide)) (fun _ hk => hk.2) (.slice Ao37 t201.length co37)) (fun _ hk => hk.2) (.slice Ao40 t204.length co40)) (fun _ h_ => h_.1))))) (below_size (by repeat (first | (with_reducible first | exact HB.out | apply below_alloc | apply pw_below_drewN | apply below_drew1 | refine below_set ?_ GE183.out | refine below_set ?_ GE207.out) | exact HB.out)))); have n8_ := Aside0.mk (blk_below (g := gb183) (o := .cells #[.slice A0_0 l0_0.length c0_0, .slice A0_1 l0_1.length c0_1] 38 (0, 0)) (by (with_reducible repeat (first | refine blk_drewN ?_ _ | refine blk_drew ?_ | refine blk_alloc ?_ _)); refine blk_far ?_ NB183_207.out _; (with_reducible repeat (first | refine blk_drewN ?_ _ | refine blk_drew ?_ | refine blk_alloc ?_ _)); refine blk_far ?_ NB183_207.out _; (with_reducible repeat (first | refine blk_drewN ?_ _ | refine blk_drew ?_ | refine blk_alloc ?_ _)); exact BK183.out) hb); have n9_ := Aside0.mk (blk_below (g := gb207) (o := .cells #[.slice Ao37 t201.length co37, .slice Ao40 t204.length co40] 27 (0, 0)) (by (with_reducible repeat (first | refine blk_drewN ?_ _ | refine blk_drew ?_ | refine blk_alloc ?_ _)); refine blk_put (cs := #[.slice Ao37 t201.length co37, .slice none 0 0]) ?_ 1 _ rfl; (with_reducible repeat (first | refine blk_drewN ?_ _ | refine blk_drew ?_ | refine blk_alloc ?_ _)); refine blk_put (cs := #[.slice none 0 0, .slice none 0 0]) ?_ 0 _ rfl; (with_reducible repeat (first | refine blk_drewN ?_ _ | refine blk_drew ?_ | refine blk_alloc ?_ _)); exact BK207.out) hb); have n10_ := Aside0.mk (below_step (by repeat (first | (with_reducible first | exact HB.out | apply below_alloc | apply pw_below_drewN | apply below_drew1 | refine below_set ?_ GE183.out | refine below_set ?_ GE207.out) | exact HB.out)) hb); clear HO187; clear HO190; clear HO193; clear HO196; clear HO199; clear HO203; clear HO206; clear BK183; clear BK207; clear HB; have HO187 := n0_; have HO190 := n1_; have HO193 := n2_; have HO196 := n3_; have HO199 := n4_; have HO203 := n5_; have HO206 := n6_; have HO210 := n7_; have BK183 := n8_; have BK207 := n9_; have HB := n10_; clear n0_ n1_ n2_ n3_ n4_ n5_ n6_ n7_ n8_ n9_ n10_; (try clear hb); (try clear hb2); (try clear hk); (try clear hi); (try clear ho0)) | ((with_reducible refine gate_callee (f := 32) rfl ?_); refine goesL_ (some 46) rfl rfl Try.func32 (by kernel_rfl) rfl #[.slice A2 l2.length c2] rfl (by (try simp only [List.map_toArray, List.map_cons, List.map_nil]); first | done | rfl | (simp only [List.length_drop, List.length_take]; rfl)) ?_; (with_reducible refine (laws_toInt64S.calls k _ _ l2 t211 _ ?side1 ?side2 A19.out).mono ?_); (case side1 => repeat (first | exact (Kd.C_below HR2.out HB.out) | (with_reducible refine Kd.C_alloc ?_ _) | (with_reducible refine Kd.C_drewN ?_ _) | (with_reducible refine Kd.C_drew ?_))); (case side2 => exact HC2.out); rintro e w42 ⟨v212, rfl, ho0, hb⟩; refine ⟨_, rfl, ?_⟩; have n0_ := Aside0.mk (Kd.R_elder' (by (with_reducible repeat (first | apply Kd.R_alloc | apply Kd.R_drewN | apply Kd.R_drew)); exact HO187.out) (Kd.R_base ho0) hb); have n1_ := Aside0.mk (Kd.S_elder' (by (with_reducible repeat (first | apply Kd.S_alloc | apply Kd.S_drewN | apply Kd.S_drew)); exact HO190.out) (Kd.R_base ho0) hb); have n2_ := Aside0.mk (Kd.R_elder' (by (with_reducible repeat (first | apply Kd.R_alloc | apply Kd.R_drewN | apply Kd.R_drew)); exact HO193.out) (Kd.R_base ho0) hb); have n3_ := Aside0.mk (Kd.R_elder' (by (with_reducible repeat (first | apply Kd.R_alloc | apply Kd.R_drewN | apply Kd.R_drew)); exact HO196.out) (Kd.R_base ho0) hb); have n4_ := Aside0.mk (Kd.R_elder' (by (with_reducible repeat (first | apply Kd.R_alloc | apply Kd.R_drewN | apply Kd.R_drew)); exact HO199.out) (Kd.R_base ho0) hb); have n5_ := Aside0.mk (Kd.R_elder' (by (with_reducible repeat (first | apply Kd.R_alloc | apply Kd.R_drewN | apply Kd.R_drew)); exact HO203.out) (Kd.R_base ho0) hb); have n6_ := Aside0.mk (Kd.S_elder' (by (with_reducible repeat (first | apply Kd.S_alloc | apply Kd.S_drewN | apply Kd.S_drew)); exact HO206.out) (Kd.R_base ho0) hb); have n7_ := Aside0.mk (Kd.R_elder' (by (with_reducible repeat (first | apply Kd.R_alloc | apply Kd.R_drewN | apply Kd.R_drew)); exact HO210.out) (Kd.R_base ho0) hb); have n8_ := Aside0.mk (Kd.R_lower (Kd.R_new' (Kd.R_new' (Kd.R_new' (Kd.R_new' (Kd.R_new' (Kd.R_new' ho0 (Kd.R_lt (by (with_reducible repeat (first | apply Kd.R_alloc | apply Kd.R_drewN | apply Kd.R_drew)); exact HO187.out))) (Kd.R_lt (by (with_reducible repeat (first | apply Kd.R_alloc | apply Kd.R_drewN | apply Kd.R_drew)); exact HO193.out))) (Kd.R_lt (by (with_reducible repeat (first | apply Kd.R_alloc | apply Kd.R_drewN | apply Kd.R_drew)); exact HO196.out))) (Kd.R_lt (by (with_reducible repeat (first | apply Kd.R_alloc | apply Kd.R_drewN | apply Kd.R_drew)); exact HO199.out))) (Kd.R_lt (by (with_reducible repeat (first | apply Kd.R_alloc | apply Kd.R_drewN | apply Kd.R_drew)); exact HO203.out))) (Kd.R_lt (by (with_reducible repeat (first | apply Kd.R_alloc | apply Kd.R_drewN | apply Kd.R_drew)); exact HO210.out))) (below_size (by repeat (first | (with_reducible first | exact HB.out | apply below_alloc | apply pw_below_drewN | apply below_drew1 | refine below_set ?_ GE183.out | refine below_set ?_ GE207.out) | exact HB.out)))); have n9_ := Aside0.mk (blk_below (g := gb183) (o := .cells #[.slice A0_0 l0_0.length c0_0, .slice A0_1 l0_1.length c0_1] 38 (0, 0)) (by (with_reducible repeat (first | refine blk_drewN ?_ _ | refine blk_drew ?_ | refine blk_alloc ?_ _)); exact BK183.out) hb); have n10_ := Aside0.mk (blk_below (g := gb207) (o := .cells #[.slice Ao37 t201.length co37, .slice Ao40 t204.length co40] 27 (0, 0)) (by (with_reducible repeat (first | refine blk_drewN ?_ _ | refine blk_drew ?_ | refine blk_alloc ?_ _)); exact BK207.out) hb); have n11_ := Aside0.mk (below_step (by repeat (first | (with_reducible first | exact HB.out | apply below_alloc | apply pw_below_drewN | apply below_drew1 | refine below_set ?_ GE183.out | refine below_set ?_ GE207.out) | exact HB.out)) hb); clear HO187; clear HO190; clear HO193; clear HO196; clear HO199; clear HO203; clear HO206; clear HO210; clear BK183; clear BK207; clear HB; have HO187 := n0_; have HO190 := n1_; have HO193 := n2_; have HO196 := n3_; have HO199 := n4_; have HO203 := n5_; have HO206 := n6_; have HO210 := n7_; have HO213 := n8_; have BK183 := n9_; have BK207 := n10_; have HB := n11_; clear n0_ n1_ n2_ n3_ n4_ n5_ n6_ n7_ n8_ n9_ n10_ n11_; (try clear hb); (try clear hb2); (try clear hk); (try clear hi); (try clear ho0); have hcz43_0 : w42.cell? ⟨gb207, 0, none⟩ = some (.slice Ao37 t201.length co37) := (blk_cell BK207.out 0).trans rfl; have hcz43_1 : w42.cell? ⟨gb207, 1, none⟩ = some (.slice Ao40 t204.length co40) := (blk_cell BK207.out 1).trans rfl; have hfz43_0 := blk_frozen BK207.out 0; have hfz43_1 := blk_frozen BK207.out 1; obtain ⟨Ao44, co44, eo44⟩ := Kd.R_slice HO210.out; subst eo44; obtain ⟨Ao45, co45, eo45⟩ := Kd.R_slice HO213.out; subst eo45) | ((with_reducible refine gate_callee (f := 23) rfl ?_); refine goesL_ (some 51) rfl rfl Try.func23 (by kernel_rfl) rfl #[.agg #[.slice Ao37 t201.length co37, .slice Ao40 t204.length co40], .slice Ao44 t208.length co44, .slice Ao45 t211.length co45] rfl (by (try simp only [List.map_toArray, List.map_cons, List.map_nil]); first | done | rfl | (simp only [List.length_drop, List.length_take]; rfl)) ?_; (with_reducible refine (impl_TurnsNeeded.calls k _ _ t201 _ _ t204 _ _ t208 _ _ t211 t214 t217 _ ?side1 ?side2 ?side3 ?side4 ?side5 ?side6 ?side7 ?side8 A20.out).mono ?_); (case side1 => repeat (first | exact (Kd.R_reads' HO203.out).2.2 | (with_reducible refine Kd.C_alloc ?_ _) | (with_reducible refine Kd.C_drewN ?_ _) | (with_reducible refine Kd.C_drew ?_))); (case side2 => exact (Kd.R_reads' HO203.out).2.1); (case side3 => repeat (first | exact (Kd.S_reads' HO206.out).2.2 | (with_reducible refine Kd.C_alloc ?_ _) | (with_reducible refine Kd.C_drewN ?_ _) | (with_reducible refine Kd.C_drew ?_))); (case side4 => exact (Kd.S_reads' HO206.out).2.1); (case side5 => repeat (first | exact (Kd.R_reads' HO210.out).2.2 | (with_reducible refine Kd.C_alloc ?_ _) | (with_reducible refine Kd.C_drewN ?_ _) | (with_reducible refine Kd.C_drew ?_))); (case side6 => exact (Kd.R_reads' HO210.out).2.1); (case side7 => repeat (first | exact (Kd.R_reads' HO213.out).2.2 | (with_reducible refine Kd.C_alloc ?_ _) | (with_reducible refine Kd.C_drewN ?_ _) | (with_reducible refine Kd.C_drew ?_))); (case side8 => exact (Kd.R_reads' HO213.out).2.1); rintro e w46 ⟨v215, rfl, ho0, hb⟩; refine ⟨_, rfl, ?_⟩; have n0_ := Aside0.mk (Kd.R_elder' (by (with_reducible repeat (first | apply Kd.R_alloc | apply Kd.R_drewN | apply Kd.R_drew)); exact HO187.out) (Kd.R_base ho0) hb); have n1_ := Aside0.mk (Kd.S_elder' (by (with_reducible repeat (first | apply Kd.S_alloc | apply Kd.S_drewN | apply Kd.S_drew)); exact HO190.out) (Kd.R_base ho0) hb); have n2_ := Aside0.mk (Kd.R_elder' (by (with_reducible repeat (first | apply Kd.R_alloc | apply Kd.R_drewN | apply Kd.R_drew)); exact HO193.out) (Kd.R_base ho0) hb); have n3_ := Aside0.mk (Kd.R_elder' (by (with_reducible repeat (first | apply Kd.R_alloc | apply Kd.R_drewN | apply Kd.R_drew)); exact HO196.out) (Kd.R_base ho0) hb); have n4_ := Aside0.mk (Kd.R_elder' (by (with_reducible repeat (first | apply Kd.R_alloc | apply Kd.R_drewN | apply Kd.R_drew)); exact HO199.out) (Kd.R_base ho0) hb); have n5_ := Aside0.mk (Kd.R_elder' (by (with_reducible repeat (first | apply Kd.R_alloc | apply Kd.R_drewN | apply Kd.R_drew)); exact HO203.out) (Kd.R_base ho0) hb); have n6_ := Aside0.mk (Kd.S_elder' (by (with_reducible repeat (first | apply Kd.S_alloc | apply Kd.S_drewN | apply Kd.S_drew)); exact HO206.out) (Kd.R_base ho0) hb); have n7_ := Aside0.mk (Kd.R_elder' (by (with_reducible repeat (first | apply Kd.R_alloc | apply Kd.R_drewN | apply Kd.R_drew)); exact HO210.out) (Kd.R_base ho0) hb); have n8_ := Aside0.mk (Kd.R_elder' (by (with_reducible repeat (first | apply Kd.R_alloc | apply Kd.R_drewN | apply Kd.R_drew)); exact HO213.out) (Kd.R_base ho0) hb); have n9_ := Aside0.mk (Kd.R_lower (Kd.R_new' (Kd.R_new' (Kd.R_new' (Kd.R_new' (Kd.R_new' (Kd.R_new' (Kd.R_new' ho0 (Kd.R_lt (by (with_reducible repeat (first | apply Kd.R_alloc | apply Kd.R_drewN | apply Kd.R_drew)); exact HO187.out))) (Kd.R_lt (by (with_reducible repeat (first | apply Kd.R_alloc | apply Kd.R_drewN | apply Kd.R_drew)); exact HO193.out))) (Kd.R_lt (by (with_reducible repeat (first | apply Kd.R_alloc | apply Kd.R_drewN | apply Kd.R_drew)); exact HO196.out))) (Kd.R_lt (by (with_reducible repeat (first | apply Kd.R_alloc | apply Kd.R_drewN | apply Kd.R_drew)); exact HO199.out))) (Kd.R_lt (by (with_reducible repeat (first | apply Kd.R_alloc | apply Kd.R_drewN | apply Kd.R_drew)); exact HO203.out))) (Kd.R_lt (by (with_reducible repeat (first | apply Kd.R_alloc | apply Kd.R_drewN | apply Kd.R_drew)); exact HO210.out))) (Kd.R_lt (by (with_reducible repeat (first | apply Kd.R_alloc | apply Kd.R_drewN | apply Kd.R_drew)); exact HO213.out))) (below_size (by repeat (first | (with_reducible first | exact HB.out | apply below_alloc | apply pw_below_drewN | apply below_drew1 | refine below_set ?_ GE183.out | refine below_set ?_ GE207.out) | exact HB.out)))); have n10_ := Aside0.mk (blk_below (g := gb183) (o := .cells #[.slice A0_0 l0_0.length c0_0, .slice A0_1 l0_1.length c0_1] 38 (0, 0)) (by (with_reducible repeat (first | refine blk_drewN ?_ _ | refine blk_drew ?_ | refine blk_alloc ?_ _)); exact BK183.out) hb); have n11_ := Aside0.mk (blk_below (g := gb207) (o := .cells #[.slice Ao37 t201.length co37, .slice Ao40 t204.length co40] 27 (0, 0)) (by (with_reducible repeat (first | refine blk_drewN ?_ _ | refine blk_drew ?_ | refine blk_alloc ?_ _)); exact BK207.out) hb); have n12_ := Aside0.mk (below_step (by repeat (first | (with_reducible first | exact HB.out | apply below_alloc | apply pw_below_drewN | apply below_drew1 | refine below_set ?_ GE183.out | refine below_set ?_ GE207.out) | exact HB.out)) hb); clear HO187; clear HO190; clear HO193; clear HO196; clear HO199; clear HO203; clear HO206; clear HO210; clear HO213; clear BK183; clear BK207; clear HB; have HO187 := n0_; have HO190 := n1_; have HO193 := n2_; have HO196 := n3_; have HO199 := n4_; have HO203 := n5_; have HO206 := n6_; have HO210 := n7_; have HO213 := n8_; have HO216 := n9_; have BK183 := n10_; have BK207 := n11_; have HB := n12_; clear n0_ n1_ n2_ n3_ n4_ n5_ n6_ n7_ n8_ n9_ n10_ n11_ n12_; (try clear hb); (try clear hb2); (try clear hk); (try clear hi); (try clear ho0)))
        (try simp only [Act.put, List.setIfInBounds_toArray, List.set_cons_zero, List.set_cons_succ])
        go_cut [62] (fun v62 wc => ∃ (kq : Nat) (x62_20 : Bool), v62 = .bool x62_20 ∧ Aside0 (laws_FnExactTurnsNeeded.j0 kq l1 l2 t197 t200 t208 t211 t214 t217 x62_20 l0_0 l0_1 t201 t204 = some r) ∧ Aside0 (kq ≤ k) ∧ Aside0 (Kd.R (Kd.int .i64) 2 wc w.heap.size (fun k_ => some k_ ≠ ((.slice Ao44 t208.length co44) : Value).ownBlock ∧ some k_ ≠ ((.slice Ao45 t211.length co45) : Value).ownBlock ∧ some k_ ≠ (v215 : Value).ownBlock ∧ some k_ ≠ ((.slice Ao37 t201.length co37) : Value).ownBlock) v198 t197) ∧ Aside0 (Kd.R (Kd.int .i64) 2 wc w.heap.size (fun k_ => some k_ ≠ (v198 : Value).ownBlock ∧ some k_ ≠ ((.slice Ao45 t211.length co45) : Value).ownBlock ∧ some k_ ≠ (v215 : Value).ownBlock ∧ some k_ ≠ ((.slice Ao37 t201.length co37) : Value).ownBlock) (.slice Ao44 t208.length co44) t208) ∧ Aside0 (Kd.R (Kd.int .i64) 2 wc w.heap.size (fun k_ => some k_ ≠ (v198 : Value).ownBlock ∧ some k_ ≠ ((.slice Ao44 t208.length co44) : Value).ownBlock ∧ some k_ ≠ (v215 : Value).ownBlock ∧ some k_ ≠ ((.slice Ao37 t201.length co37) : Value).ownBlock) (.slice Ao45 t211.length co45) t211) ∧ Aside0 (Kd.R (Kd.int .i64) 2 wc w.heap.size (fun k_ => some k_ ≠ (v198 : Value).ownBlock ∧ some k_ ≠ ((.slice Ao44 t208.length co44) : Value).ownBlock ∧ some k_ ≠ ((.slice Ao45 t211.length co45) : Value).ownBlock ∧ some k_ ≠ ((.slice Ao37 t201.length co37) : Value).ownBlock) v215 t214) ∧ Aside0 (Kd.R (Kd.int .i64) 2 wc w.heap.size (fun k_ => some k_ ≠ (v198 : Value).ownBlock ∧ some k_ ≠ ((.slice Ao44 t208.length co44) : Value).ownBlock ∧ some k_ ≠ ((.slice Ao45 t211.length co45) : Value).ownBlock ∧ some k_ ≠ (v215 : Value).ownBlock) (.slice Ao37 t201.length co37) t201) ∧ Aside0 (Kd.S (Kd.slice 2 (Kd.int .i64)) 24 wc w.heap.size (fun k_ => some k_ ≠ (v198 : Value).ownBlock ∧ some k_ ≠ ((.slice Ao44 t208.length co44) : Value).ownBlock ∧ some k_ ≠ ((.slice Ao45 t211.length co45) : Value).ownBlock ∧ some k_ ≠ (v215 : Value).ownBlock ∧ some k_ ≠ ((.slice Ao37 t201.length co37) : Value).ownBlock) (.slice Ao40 t204.length co40) t204) ∧ Aside0 (wc.heap[gb183]? = some (.cells #[(.slice A0_0 l0_0.length c0_0), (.slice A0_1 l0_1.length c0_1)] 38 (0, 0))) ∧ Aside0 (wc.heap[gb207]? = some (.cells #[(.slice Ao37 t201.length co37), (.slice Ao40 t204.length co40)] 27 (0, 0))) ∧ Aside0 (Below w.heap.size w wc))
        case first =>
          have H := HC21.out
          clear HC21
          replace H := Option.bind_eq_some_iff.mp H
          obtain ⟨t218, A470, H⟩ := H
          replace H : (if t218 = true then (laws_FnExactTurnsNeeded.j0 k l1 l2 t197 t200 t208 t211 t214 t217 (t217 != t200) l0_0 l0_1 t201 t204) else (laws_FnExactTurnsNeeded.j0 k l1 l2 t197 t200 t208 t211 t214 t217 true l0_0 l0_1 t201 t204)) = some r := H
          have A47 := Aside0.mk A470
          clear A470
          by_cases c48 : t218 = true
          · subst c48
            have H1 : (laws_FnExactTurnsNeeded.j0 k l1 l2 t197 t200 t208 t211 t214 t217 (t217 != t200) l0_0 l0_1 t201 t204) = some r := by rw [if_pos rfl] at H; exact H
            clear H
            have H := H1
            clear H1
            have H' := Aside0.mk H
            clear H
            obtain ⟨Ao49, co49, eo49⟩ := Kd.R_slice HO216.out
            subst eo49
            obtain ⟨Ao50, co50, eo50⟩ := Kd.R_slice HO199.out
            subst eo50
            go_wp2_with (first | ((with_reducible refine gate_callee (f := 33) rfl ?_); refine goesL_ (some 56) rfl rfl Try.func33 (by kernel_rfl) rfl #[.slice Ao49 t214.length co49, .slice Ao50 t197.length co50] rfl (by (try simp only [List.map_toArray, List.map_cons, List.map_nil]); first | done | rfl | (simp only [List.length_drop, List.length_take]; rfl)) ?_; (with_reducible refine (laws_eqInt64S.calls k _ _ t214 _ _ t197 true _ ?side1 ?side2 ?side3 ?side4 A47.out).mono ?_); (case side1 => repeat (first | exact (Kd.R_reads' HO216.out).2.2 | (with_reducible refine Kd.C_alloc ?_ _) | (with_reducible refine Kd.C_drewN ?_ _) | (with_reducible refine Kd.C_drew ?_))); (case side2 => exact (Kd.R_reads' HO216.out).2.1); (case side3 => repeat (first | exact (Kd.R_reads' HO199.out).2.2 | (with_reducible refine Kd.C_alloc ?_ _) | (with_reducible refine Kd.C_drewN ?_ _) | (with_reducible refine Kd.C_drew ?_))); (case side4 => exact (Kd.R_reads' HO199.out).2.1); rintro e w' ⟨rfl, ⟨nd, rfl⟩⟩; refine ⟨_, rfl, ?_⟩))
            go_meet
            case rel => exact ⟨_, ((t217 != t200)), (by first | rfl | (simp; done) | (simp [*]; done)), H', ⟨by first | omega | exact Nat.le_refl _⟩, ⟨by (with_reducible repeat (first | apply Kd.R_alloc | apply Kd.R_drewN | apply Kd.R_drew)); exact Kd.R_mono HO199.out (fun _ hk => ⟨hk.1.1.2, ⟨hk.1.2, ⟨hk.2, hk.1.1.1.2⟩⟩⟩)⟩, ⟨by (with_reducible repeat (first | apply Kd.R_alloc | apply Kd.R_drewN | apply Kd.R_drew)); exact Kd.R_mono HO210.out (fun _ hk => ⟨hk.1.1.1.2, ⟨hk.1.2, ⟨hk.2, hk.1.1.2⟩⟩⟩)⟩, ⟨by (with_reducible repeat (first | apply Kd.R_alloc | apply Kd.R_drewN | apply Kd.R_drew)); exact Kd.R_mono HO213.out (fun _ hk => ⟨hk.1.1.1.2, ⟨hk.1.2, ⟨hk.2, hk.1.1.2⟩⟩⟩)⟩, ⟨by (with_reducible repeat (first | apply Kd.R_alloc | apply Kd.R_drewN | apply Kd.R_drew)); exact Kd.R_mono HO216.out (fun _ hk => ⟨hk.1.1.1.2, ⟨hk.1.2, ⟨hk.2, hk.1.1.2⟩⟩⟩)⟩, ⟨by (with_reducible repeat (first | apply Kd.R_alloc | apply Kd.R_drewN | apply Kd.R_drew)); exact Kd.R_mono HO203.out (fun _ hk => ⟨hk.1.1.1.2, ⟨hk.1.1.2, ⟨hk.1.2, hk.2⟩⟩⟩)⟩, ⟨by (with_reducible repeat (first | apply Kd.S_alloc | apply Kd.S_drewN | apply Kd.S_drew)); exact Kd.S_mono HO206.out (fun _ hk => ⟨hk.1.1.1.2, ⟨hk.1.1.2, ⟨hk.1.2, ⟨hk.2, hk.1.1.1.1.1.1.1.1⟩⟩⟩⟩)⟩, ⟨by (with_reducible repeat (first | refine blk_drewN ?_ _ | refine blk_drew ?_ | refine blk_alloc ?_ _)); exact BK183.out⟩, ⟨by (with_reducible repeat (first | refine blk_drewN ?_ _ | refine blk_drew ?_ | refine blk_alloc ?_ _)); exact BK207.out⟩, ⟨by repeat (first | (with_reducible first | exact HB.out | apply below_alloc | apply pw_below_drewN | apply below_drew1 | refine below_set ?_ GE183.out | refine below_set ?_ GE207.out) | exact HB.out)⟩⟩
          · replace c48 := Bool.eq_false_iff.mpr c48
            subst c48
            have H1 : (laws_FnExactTurnsNeeded.j0 k l1 l2 t197 t200 t208 t211 t214 t217 true l0_0 l0_1 t201 t204) = some r := by rw [if_neg (show ¬ (false = true) by decide)] at H; exact H
            clear H
            have H := H1
            clear H1
            exact (laws_FnExactTurnsNeeded.j0_cut _ _ _ _ _ _ _ _ _ _ _ _ _ _ H HRT.out).elim
        case rest =>
          clear HC21
          try clear c1
          try clear c2
          try clear p2
          try clear c3
          try clear c4
          try clear c4b0
          try clear c4b1
          try clear c6
          try clear c6b0
          try clear c6b1
          try clear c9
          try clear c9b0
          try clear c13
          try clear c23
          try clear c24
          try clear c26
          try clear c32
          try clear c33
          try clear c38
          try clear c45
          try clear c48
          try clear hcz11_0
          try clear hcz11_1
          try clear hcz23_0
          try clear hcz23_1
          try clear hcz25_0
          try clear hcz25_1
          try clear hcz34_0
          try clear hcz34_1
          try clear hcz39_0
          try clear hcz39_1
          try clear hcz43_0
          try clear hcz43_1
          try clear hfz11_0
          try clear hfz11_1
          try clear hfz23_0
          try clear hfz23_1
          try clear hfz25_0
          try clear hfz25_1
          try clear hfz34_0
          try clear hfz34_1
          try clear hfz39_0
          try clear hfz39_1
          try clear hfz43_0
          try clear hfz43_1
          obtain ⟨kq, x62_20, rfl, HA, HJ20, HO_8, HO_11, HO_12, HO_13, HO_208000, HO_208001, BK183, BK207, HB⟩ := hcut
          cases kq with
          | zero => exact absurd HA.out (by simp [laws_FnExactTurnsNeeded.j0])
          | succ kj20 =>
            have H := HA.out
            clear HA
            simp only [laws_FnExactTurnsNeeded.j0] at H
            by_cases c53 : x62_20 = true
            · subst c53
              have H1 : (some false) = some r := by rw [if_pos rfl] at H; exact H
              clear H
              have H := H1
              clear H1
              obtain rfl := Option.some.inj H
              exact absurd HRT.out (by decide)
            · replace c53 := Bool.eq_false_iff.mpr c53
              subst c53
              have H1 : ((laws_toTuning.f kj20 l0_0 l0_1).bind fun bt219 => ((laws_eqTuning.f kj20 t201 t204 bt219.1 bt219.2).bind fun t225 => (if t225 = true then ((laws_toInt64S.f kj20 l1).bind fun t226 => ((laws_eqInt64S.f kj20 t208 t226).bind fun t229 => (if t229 = true then ((laws_toInt64S.f kj20 l2).bind fun t230 => ((laws_eqInt64S.f kj20 t211 t230).bind fun t233 => (if t233 = true then ((laws_markTuning.f kj20 t201 t204 1).bind fun bt234 => ((laws_markInt64S.f kj20 t208 bt234.1).bind fun bt237 => ((laws_markInt64S.f kj20 t211 bt237.1).bind fun bt239 => (if bt239.1 < 0 then (laws_FnExactTurnsNeeded.j1 kj20 l1 l2 t197 t200 t214 true l0_0 l0_1) else ((laws_eqInt64S.f kj20 t214 t197).bind fun t241 => (if t241 = true then (laws_FnExactTurnsNeeded.j1 kj20 l1 l2 t197 t200 t214 (t217 != t200) l0_0 l0_1) else (laws_FnExactTurnsNeeded.j1 kj20 l1 l2 t197 t200 t214 true l0_0 l0_1))))))) else (some false)))) else (some false)))) else (some false)))) = some r := by rw [if_neg (show ¬ (false = true) by decide)] at H; exact H
              clear H
              have H := H1
              clear H1
              replace H := Option.bind_eq_some_iff.mp H
              obtain ⟨⟨t219, t222⟩, A540, H⟩ := H
              replace H : ((laws_eqTuning.f kj20 t201 t204 t219 t222).bind fun t225 => (if t225 = true then ((laws_toInt64S.f kj20 l1).bind fun t226 => ((laws_eqInt64S.f kj20 t208 t226).bind fun t229 => (if t229 = true then ((laws_toInt64S.f kj20 l2).bind fun t230 => ((laws_eqInt64S.f kj20 t211 t230).bind fun t233 => (if t233 = true then ((laws_markTuning.f kj20 t201 t204 1).bind fun bt234 => ((laws_markInt64S.f kj20 t208 bt234.1).bind fun bt237 => ((laws_markInt64S.f kj20 t211 bt237.1).bind fun bt239 => (if bt239.1 < 0 then (laws_FnExactTurnsNeeded.j1 kj20 l1 l2 t197 t200 t214 true l0_0 l0_1) else ((laws_eqInt64S.f kj20 t214 t197).bind fun t241 => (if t241 = true then (laws_FnExactTurnsNeeded.j1 kj20 l1 l2 t197 t200 t214 (t217 != t200) l0_0 l0_1) else (laws_FnExactTurnsNeeded.j1 kj20 l1 l2 t197 t200 t214 true l0_0 l0_1))))))) else (some false)))) else (some false)))) else (some false))) = some r := H
              have A54 := Aside0.mk A540
              clear A540
              replace H := Option.bind_eq_some_iff.mp H
              obtain ⟨t225, A550, H⟩ := H
              replace H : (if t225 = true then ((laws_toInt64S.f kj20 l1).bind fun t226 => ((laws_eqInt64S.f kj20 t208 t226).bind fun t229 => (if t229 = true then ((laws_toInt64S.f kj20 l2).bind fun t230 => ((laws_eqInt64S.f kj20 t211 t230).bind fun t233 => (if t233 = true then ((laws_markTuning.f kj20 t201 t204 1).bind fun bt234 => ((laws_markInt64S.f kj20 t208 bt234.1).bind fun bt237 => ((laws_markInt64S.f kj20 t211 bt237.1).bind fun bt239 => (if bt239.1 < 0 then (laws_FnExactTurnsNeeded.j1 kj20 l1 l2 t197 t200 t214 true l0_0 l0_1) else ((laws_eqInt64S.f kj20 t214 t197).bind fun t241 => (if t241 = true then (laws_FnExactTurnsNeeded.j1 kj20 l1 l2 t197 t200 t214 (t217 != t200) l0_0 l0_1) else (laws_FnExactTurnsNeeded.j1 kj20 l1 l2 t197 t200 t214 true l0_0 l0_1))))))) else (some false)))) else (some false)))) else (some false)) = some r := H
              have A55 := Aside0.mk A550
              clear A550
              by_cases c56 : t225 = true
              · subst c56
                have H1 : ((laws_toInt64S.f kj20 l1).bind fun t226 => ((laws_eqInt64S.f kj20 t208 t226).bind fun t229 => (if t229 = true then ((laws_toInt64S.f kj20 l2).bind fun t230 => ((laws_eqInt64S.f kj20 t211 t230).bind fun t233 => (if t233 = true then ((laws_markTuning.f kj20 t201 t204 1).bind fun bt234 => ((laws_markInt64S.f kj20 t208 bt234.1).bind fun bt237 => ((laws_markInt64S.f kj20 t211 bt237.1).bind fun bt239 => (if bt239.1 < 0 then (laws_FnExactTurnsNeeded.j1 kj20 l1 l2 t197 t200 t214 true l0_0 l0_1) else ((laws_eqInt64S.f kj20 t214 t197).bind fun t241 => (if t241 = true then (laws_FnExactTurnsNeeded.j1 kj20 l1 l2 t197 t200 t214 (t217 != t200) l0_0 l0_1) else (laws_FnExactTurnsNeeded.j1 kj20 l1 l2 t197 t200 t214 true l0_0 l0_1))))))) else (some false)))) else (some false)))) = some r := by rw [if_pos rfl] at H; exact H
                clear H
                have H := H1
                clear H1
                replace H := Option.bind_eq_some_iff.mp H
                obtain ⟨t226, A570, H⟩ := H
                replace H : ((laws_eqInt64S.f kj20 t208 t226).bind fun t229 => (if t229 = true then ((laws_toInt64S.f kj20 l2).bind fun t230 => ((laws_eqInt64S.f kj20 t211 t230).bind fun t233 => (if t233 = true then ((laws_markTuning.f kj20 t201 t204 1).bind fun bt234 => ((laws_markInt64S.f kj20 t208 bt234.1).bind fun bt237 => ((laws_markInt64S.f kj20 t211 bt237.1).bind fun bt239 => (if bt239.1 < 0 then (laws_FnExactTurnsNeeded.j1 kj20 l1 l2 t197 t200 t214 true l0_0 l0_1) else ((laws_eqInt64S.f kj20 t214 t197).bind fun t241 => (if t241 = true then (laws_FnExactTurnsNeeded.j1 kj20 l1 l2 t197 t200 t214 (t217 != t200) l0_0 l0_1) else (laws_FnExactTurnsNeeded.j1 kj20 l1 l2 t197 t200 t214 true l0_0 l0_1))))))) else (some false)))) else (some false))) = some r := H
                have A57 := Aside0.mk A570
                clear A570
                replace H := Option.bind_eq_some_iff.mp H
                obtain ⟨t229, A580, H⟩ := H
                replace H : (if t229 = true then ((laws_toInt64S.f kj20 l2).bind fun t230 => ((laws_eqInt64S.f kj20 t211 t230).bind fun t233 => (if t233 = true then ((laws_markTuning.f kj20 t201 t204 1).bind fun bt234 => ((laws_markInt64S.f kj20 t208 bt234.1).bind fun bt237 => ((laws_markInt64S.f kj20 t211 bt237.1).bind fun bt239 => (if bt239.1 < 0 then (laws_FnExactTurnsNeeded.j1 kj20 l1 l2 t197 t200 t214 true l0_0 l0_1) else ((laws_eqInt64S.f kj20 t214 t197).bind fun t241 => (if t241 = true then (laws_FnExactTurnsNeeded.j1 kj20 l1 l2 t197 t200 t214 (t217 != t200) l0_0 l0_1) else (laws_FnExactTurnsNeeded.j1 kj20 l1 l2 t197 t200 t214 true l0_0 l0_1))))))) else (some false)))) else (some false)) = some r := H
                have A58 := Aside0.mk A580
                clear A580
                by_cases c59 : t229 = true
                · subst c59
                  have H1 : ((laws_toInt64S.f kj20 l2).bind fun t230 => ((laws_eqInt64S.f kj20 t211 t230).bind fun t233 => (if t233 = true then ((laws_markTuning.f kj20 t201 t204 1).bind fun bt234 => ((laws_markInt64S.f kj20 t208 bt234.1).bind fun bt237 => ((laws_markInt64S.f kj20 t211 bt237.1).bind fun bt239 => (if bt239.1 < 0 then (laws_FnExactTurnsNeeded.j1 kj20 l1 l2 t197 t200 t214 true l0_0 l0_1) else ((laws_eqInt64S.f kj20 t214 t197).bind fun t241 => (if t241 = true then (laws_FnExactTurnsNeeded.j1 kj20 l1 l2 t197 t200 t214 (t217 != t200) l0_0 l0_1) else (laws_FnExactTurnsNeeded.j1 kj20 l1 l2 t197 t200 t214 true l0_0 l0_1))))))) else (some false)))) = some r := by rw [if_pos rfl] at H; exact H
                  clear H
                  have H := H1
                  clear H1
                  replace H := Option.bind_eq_some_iff.mp H
                  obtain ⟨t230, A600, H⟩ := H
                  replace H : ((laws_eqInt64S.f kj20 t211 t230).bind fun t233 => (if t233 = true then ((laws_markTuning.f kj20 t201 t204 1).bind fun bt234 => ((laws_markInt64S.f kj20 t208 bt234.1).bind fun bt237 => ((laws_markInt64S.f kj20 t211 bt237.1).bind fun bt239 => (if bt239.1 < 0 then (laws_FnExactTurnsNeeded.j1 kj20 l1 l2 t197 t200 t214 true l0_0 l0_1) else ((laws_eqInt64S.f kj20 t214 t197).bind fun t241 => (if t241 = true then (laws_FnExactTurnsNeeded.j1 kj20 l1 l2 t197 t200 t214 (t217 != t200) l0_0 l0_1) else (laws_FnExactTurnsNeeded.j1 kj20 l1 l2 t197 t200 t214 true l0_0 l0_1))))))) else (some false))) = some r := H
                  have A60 := Aside0.mk A600
                  clear A600
                  replace H := Option.bind_eq_some_iff.mp H
                  obtain ⟨t233, A610, H⟩ := H
                  replace H : (if t233 = true then ((laws_markTuning.f kj20 t201 t204 1).bind fun bt234 => ((laws_markInt64S.f kj20 t208 bt234.1).bind fun bt237 => ((laws_markInt64S.f kj20 t211 bt237.1).bind fun bt239 => (if bt239.1 < 0 then (laws_FnExactTurnsNeeded.j1 kj20 l1 l2 t197 t200 t214 true l0_0 l0_1) else ((laws_eqInt64S.f kj20 t214 t197).bind fun t241 => (if t241 = true then (laws_FnExactTurnsNeeded.j1 kj20 l1 l2 t197 t200 t214 (t217 != t200) l0_0 l0_1) else (laws_FnExactTurnsNeeded.j1 kj20 l1 l2 t197 t200 t214 true l0_0 l0_1))))))) else (some false)) = some r := H
                  have A61 := Aside0.mk A610
                  clear A610
                  by_cases c62 : t233 = true
                  · subst c62
                    have H1 : ((laws_markTuning.f kj20 t201 t204 1).bind fun bt234 => ((laws_markInt64S.f kj20 t208 bt234.1).bind fun bt237 => ((laws_markInt64S.f kj20 t211 bt237.1).bind fun bt239 => (if bt239.1 < 0 then (laws_FnExactTurnsNeeded.j1 kj20 l1 l2 t197 t200 t214 true l0_0 l0_1) else ((laws_eqInt64S.f kj20 t214 t197).bind fun t241 => (if t241 = true then (laws_FnExactTurnsNeeded.j1 kj20 l1 l2 t197 t200 t214 (t217 != t200) l0_0 l0_1) else (laws_FnExactTurnsNeeded.j1 kj20 l1 l2 t197 t200 t214 true l0_0 l0_1))))))) = some r := by rw [if_pos rfl] at H; exact H
                    clear H
                    have H := H1
                    clear H1
                    replace H := Option.bind_eq_some_iff.mp H
                    obtain ⟨⟨t234, t235, t236⟩, A630, H⟩ := H
                    replace H : ((laws_markInt64S.f kj20 t208 t234).bind fun bt237 => ((laws_markInt64S.f kj20 t211 bt237.1).bind fun bt239 => (if bt239.1 < 0 then (laws_FnExactTurnsNeeded.j1 kj20 l1 l2 t197 t200 t214 true l0_0 l0_1) else ((laws_eqInt64S.f kj20 t214 t197).bind fun t241 => (if t241 = true then (laws_FnExactTurnsNeeded.j1 kj20 l1 l2 t197 t200 t214 (t217 != t200) l0_0 l0_1) else (laws_FnExactTurnsNeeded.j1 kj20 l1 l2 t197 t200 t214 true l0_0 l0_1)))))) = some r := H
                    have A63 := Aside0.mk A630
                    clear A630
                    replace H := Option.bind_eq_some_iff.mp H
                    obtain ⟨⟨t237, t238⟩, A640, H⟩ := H
                    replace H : ((laws_markInt64S.f kj20 t211 t237).bind fun bt239 => (if bt239.1 < 0 then (laws_FnExactTurnsNeeded.j1 kj20 l1 l2 t197 t200 t214 true l0_0 l0_1) else ((laws_eqInt64S.f kj20 t214 t197).bind fun t241 => (if t241 = true then (laws_FnExactTurnsNeeded.j1 kj20 l1 l2 t197 t200 t214 (t217 != t200) l0_0 l0_1) else (laws_FnExactTurnsNeeded.j1 kj20 l1 l2 t197 t200 t214 true l0_0 l0_1))))) = some r := H
                    have A64 := Aside0.mk A640
                    clear A640
                    replace H := Option.bind_eq_some_iff.mp H
                    obtain ⟨⟨t239, t240⟩, A650, H⟩ := H
                    replace H : (if t239 < 0 then (laws_FnExactTurnsNeeded.j1 kj20 l1 l2 t197 t200 t214 true l0_0 l0_1) else ((laws_eqInt64S.f kj20 t214 t197).bind fun t241 => (if t241 = true then (laws_FnExactTurnsNeeded.j1 kj20 l1 l2 t197 t200 t214 (t217 != t200) l0_0 l0_1) else (laws_FnExactTurnsNeeded.j1 kj20 l1 l2 t197 t200 t214 true l0_0 l0_1)))) = some r := H
                    have A65 := Aside0.mk A650
                    clear A650
                    have HC66 := Aside0.mk H
                    clear H
                    try go_wp2
                    have n0_ := Aside0.mk (Kd.R_drew HO_8.out)
                    have n1_ := Aside0.mk (Kd.R_drew HO_11.out)
                    have n2_ := Aside0.mk (Kd.R_drew HO_12.out)
                    have n3_ := Aside0.mk (Kd.R_drew HO_13.out)
                    have n4_ := Aside0.mk (Kd.R_drew HO_208000.out)
                    have n5_ := Aside0.mk (Kd.S_drew HO_208001.out)
                    have n6_ := Aside0.mk (blk_drew BK183.out)
                    have n7_ := Aside0.mk (blk_drew BK207.out)
                    have n8_ := Aside0.mk (below_drew1 HB.out)
                    clear HO_8
                    clear HO_11
                    clear HO_12
                    clear HO_13
                    clear HO_208000
                    clear HO_208001
                    clear BK183
                    clear BK207
                    clear HB
                    have HO_8 := n0_
                    have HO_11 := n1_
                    have HO_12 := n2_
                    have HO_13 := n3_
                    have HO_208000 := n4_
                    have HO_208001 := n5_
                    have BK183 := n6_
                    have BK207 := n7_
                    have HB := n8_
                    clear n0_ n1_ n2_ n3_ n4_ n5_ n6_ n7_ n8_
                    refine start_ (n := 5) (S := fun w' => w'.cell? ⟨gb207, 0, none⟩ = some (.slice Ao37 t201.length co37) ∧ w'.cell? ⟨gb207, 1, none⟩ = some (.slice Ao40 t204.length co40) ∧ w'.cell? ⟨gb183, 0, none⟩ = some (.slice A0_0 l0_0.length c0_0) ∧ w'.cell? ⟨gb183, 1, none⟩ = some (.slice A0_1 l0_1.length c0_1)) (ds := []) #[false, false, false, false, false] (by kernel_rfl) rfl rfl ⟨(blk_cell BK207.out 0).trans rfl, (blk_cell BK207.out 1).trans rfl, (blk_cell BK183.out 0).trans rfl, (blk_cell BK183.out 1).trans rfl⟩ (fun hHeld => ?_)
                    generalize wc.drew = w67 at HO_8 HO_11 HO_12 HO_13 HO_208000 HO_208001 BK183 BK207 HB hHeld ⊢
                    refine take_ (i := 0) (N := some 63) (v := ?_) (a' := ?_) #[true, false, false, false, false] rfl rfl (by kernel_rfl) (fun _ _ _ h => h) (Or.inl ⟨by rfl, ?_⟩) hHeld ?_ ?_
                    rotate_left
                    · rintro w' ⟨s0, s1, s2, s3⟩
                      go_simp
                      with_reducible rfl
                    rotate_left
                    · simp only [Act.put, List.setIfInBounds_toArray, List.set_cons_zero, List.set_cons_succ, i64_w, i32_w]
                      rfl
                    refine take_ (i := 1) (N := some 64) (v := ?_) (a' := ?_) #[true, true, false, false, false] rfl rfl (by kernel_rfl) (fun _ _ _ h => h) (Or.inl ⟨by rfl, ?_⟩) hHeld ?_ ?_
                    rotate_left
                    · rintro w' ⟨s0, s1, s2, s3⟩
                      go_simp
                      with_reducible rfl
                    rotate_left
                    · simp only [Act.put, List.setIfInBounds_toArray, List.set_cons_zero, List.set_cons_succ, i64_w, i32_w]
                      rfl
                    refine one_ (i := 2) (N := some 65) #[true, true, true, false, false] rfl rfl (by kernel_rfl) (by decide) (fun K hK => ?_)
                    refine goes_ Try.func26 (by kernel_rfl) rfl #[.agg #[.slice A0_0 l0_0.length c0_0, .slice A0_1 l0_1.length c0_1]] (by rfl) rfl rfl (by (try simp only [List.map_toArray, List.map_cons, List.map_nil]); first | done | rfl | (simp only [List.length_drop, List.length_take]; rfl)) ?_
                    with_reducible refine (laws_toTuning.calls kj20 _ _ l0_0 _ _ l0_1 t219 t222 _ ?side1 ?side2 ?side3 ?side4 A54.out).mono ?_
                    (case side1 => repeat (first | exact (Kd.C_below HR0_0.out HB.out) | (with_reducible refine Kd.C_alloc ?_ _) | (with_reducible refine Kd.C_drewN ?_ _) | (with_reducible refine Kd.C_drew ?_)))
                    (case side2 => exact HC0_0.out)
                    (case side3 => repeat (first | exact (Kd.C_below HR0_1.out HB.out) | (with_reducible refine Kd.C_alloc ?_ _) | (with_reducible refine Kd.C_drewN ?_ _) | (with_reducible refine Kd.C_drew ?_)))
                    (case side4 => exact HC0_1.out)
                    rintro e w68 ⟨v220, v223, rfl, ho0, ho1, hb⟩
                    refine ⟨_, rfl, ?_⟩
                    have n0_ := Aside0.mk (Kd.R_elder' (by (with_reducible repeat (first | apply Kd.R_alloc | apply Kd.R_drewN | apply Kd.R_drew)); exact HO_8.out) (Kd.R_base ho0) hb)
                    have n1_ := Aside0.mk (Kd.R_elder' (by (with_reducible repeat (first | apply Kd.R_alloc | apply Kd.R_drewN | apply Kd.R_drew)); exact HO_11.out) (Kd.R_base ho0) hb)
                    have n2_ := Aside0.mk (Kd.R_elder' (by (with_reducible repeat (first | apply Kd.R_alloc | apply Kd.R_drewN | apply Kd.R_drew)); exact HO_12.out) (Kd.R_base ho0) hb)
                    have n3_ := Aside0.mk (Kd.R_elder' (by (with_reducible repeat (first | apply Kd.R_alloc | apply Kd.R_drewN | apply Kd.R_drew)); exact HO_13.out) (Kd.R_base ho0) hb)
                    have n4_ := Aside0.mk (Kd.R_elder' (by (with_reducible repeat (first | apply Kd.R_alloc | apply Kd.R_drewN | apply Kd.R_drew)); exact HO_208000.out) (Kd.R_base ho0) hb)
                    have n5_ := Aside0.mk (Kd.S_mono (Kd.S_told (Kd.S_told (Kd.S_old (by (with_reducible repeat (first | apply Kd.S_alloc | apply Kd.S_drewN | apply Kd.S_drew)); exact HO_208001.out) hb) (Kd.R_base ho0)) (Kd.S_base ho1)) (fun _ h_ => h_.1))
                    have n6_ := Aside0.mk (Kd.R_lower (Kd.R_new' (Kd.R_new' (Kd.R_new' (Kd.R_new' (Kd.R_new' ho0 (Kd.R_lt (by (with_reducible repeat (first | apply Kd.R_alloc | apply Kd.R_drewN | apply Kd.R_drew)); exact HO_8.out))) (Kd.R_lt (by (with_reducible repeat (first | apply Kd.R_alloc | apply Kd.R_drewN | apply Kd.R_drew)); exact HO_11.out))) (Kd.R_lt (by (with_reducible repeat (first | apply Kd.R_alloc | apply Kd.R_drewN | apply Kd.R_drew)); exact HO_12.out))) (Kd.R_lt (by (with_reducible repeat (first | apply Kd.R_alloc | apply Kd.R_drewN | apply Kd.R_drew)); exact HO_13.out))) (Kd.R_lt (by (with_reducible repeat (first | apply Kd.R_alloc | apply Kd.R_drewN | apply Kd.R_drew)); exact HO_208000.out))) (below_size (by repeat (first | (with_reducible first | exact HB.out | apply below_alloc | apply pw_below_drewN | apply below_drew1 | refine below_set ?_ GE183.out | refine below_set ?_ GE207.out) | exact HB.out))))
                    have n7_ := Aside0.mk (Kd.S_lower (Kd.S_new' (Kd.S_new' (Kd.S_new' (Kd.S_new' (Kd.S_new' (Kd.S_new' ho1 (Kd.R_lt (by (with_reducible repeat (first | apply Kd.R_alloc | apply Kd.R_drewN | apply Kd.R_drew)); exact HO_8.out))) (Kd.R_lt (by (with_reducible repeat (first | apply Kd.R_alloc | apply Kd.R_drewN | apply Kd.R_drew)); exact HO_11.out))) (Kd.R_lt (by (with_reducible repeat (first | apply Kd.R_alloc | apply Kd.R_drewN | apply Kd.R_drew)); exact HO_12.out))) (Kd.R_lt (by (with_reducible repeat (first | apply Kd.R_alloc | apply Kd.R_drewN | apply Kd.R_drew)); exact HO_13.out))) (Kd.R_lt (by (with_reducible repeat (first | apply Kd.R_alloc | apply Kd.R_drewN | apply Kd.R_drew)); exact HO_208000.out))) (Kd.S_lt (by (with_reducible repeat (first | apply Kd.S_alloc | apply Kd.S_drewN | apply Kd.S_drew)); exact HO_208001.out))) (below_size (by repeat (first | (with_reducible first | exact HB.out | apply below_alloc | apply pw_below_drewN | apply below_drew1 | refine below_set ?_ GE183.out | refine below_set ?_ GE207.out) | exact HB.out))))
                    have n8_ := Aside0.mk (blk_below (g := gb183) (o := .cells #[.slice A0_0 l0_0.length c0_0, .slice A0_1 l0_1.length c0_1] 38 (0, 0)) (by (with_reducible repeat (first | refine blk_drewN ?_ _ | refine blk_drew ?_ | refine blk_alloc ?_ _)); exact BK183.out) hb)
                    have n9_ := Aside0.mk (blk_below (g := gb207) (o := .cells #[.slice Ao37 t201.length co37, .slice Ao40 t204.length co40] 27 (0, 0)) (by (with_reducible repeat (first | refine blk_drewN ?_ _ | refine blk_drew ?_ | refine blk_alloc ?_ _)); exact BK207.out) hb)
                    have n10_ := Aside0.mk (below_step (by repeat (first | (with_reducible first | exact HB.out | apply below_alloc | apply pw_below_drewN | apply below_drew1 | refine below_set ?_ GE183.out | refine below_set ?_ GE207.out) | exact HB.out)) hb)
                    clear HO_8
                    clear HO_11
                    clear HO_12
                    clear HO_13
                    clear HO_208000
                    clear HO_208001
                    clear BK183
                    clear BK207
                    clear HB
                    have HO_8 := n0_
                    have HO_11 := n1_
                    have HO_12 := n2_
                    have HO_13 := n3_
                    have HO_208000 := n4_
                    have HO_208001 := n5_
                    have HO221 := n6_
                    have HO224 := n7_
                    have BK183 := n8_
                    have BK207 := n9_
                    have HB := n10_
                    clear n0_ n1_ n2_ n3_ n4_ n5_ n6_ n7_ n8_ n9_ n10_
                    (try clear hb)
                    (try clear hb2)
                    (try clear hk)
                    (try clear hi)
                    (try clear ho0)
                    (try clear ho1)
                    obtain ⟨Ao69, co69, eo69⟩ := Kd.R_slice HO221.out
                    (first | subst eo69 | (injection eo69 with f1_ f2_ f3_; have f4_ := f1_.symm; have f5_ := f3_.symm; clear f1_ f2_ f3_; subst f4_; subst f5_))
                    obtain ⟨Ao70, co70, eo70⟩ := Kd.S_slice HO224.out
                    (first | subst eo70 | (injection eo70 with f1_ f2_ f3_; have f4_ := f1_.symm; have f5_ := f3_.symm; clear f1_ f2_ f3_; subst f4_; subst f5_))
                    refine hK.out _ _ ⟨(blk_cell BK207.out 0).trans rfl, (blk_cell BK207.out 1).trans rfl, (blk_cell BK183.out 0).trans rfl, (blk_cell BK183.out 1).trans rfl⟩ (fun hHeld => ?_)
                    clear hK K
                    refine norm_ (a' := ?_) ?_ ?_
                    rotate_left
                    · show Act.put _ (some 65) _ = _
                      simp only [Act.put, List.setIfInBounds_toArray, List.set_cons_zero, List.set_cons_succ, i64_w, i32_w]
                      rfl
                    refine one_ (i := 3) (N := some 66) #[true, true, true, true, false] rfl rfl (by kernel_rfl) (by decide) (fun K hK => ?_)
                    refine goes_ Try.func28 (by kernel_rfl) rfl #[.agg #[.slice Ao37 t201.length co37, .slice Ao40 t204.length co40], .agg #[.slice Ao69 t219.length co69, .slice Ao70 t222.length co70]] (by rfl) rfl rfl (by (try simp only [List.map_toArray, List.map_cons, List.map_nil]); first | done | rfl | (simp only [List.length_drop, List.length_take]; rfl)) ?_
                    with_reducible refine (laws_eqTuning.calls kj20 _ _ t201 _ _ t204 _ _ t219 _ _ t222 true _ ?side1 ?side2 ?side3 ?side4 ?side5 ?side6 ?side7 ?side8 A55.out).mono ?_
                    (case side1 => repeat (first | exact (Kd.R_reads' HO_208000.out).2.2 | (with_reducible refine Kd.C_alloc ?_ _) | (with_reducible refine Kd.C_drewN ?_ _) | (with_reducible refine Kd.C_drew ?_)))
                    (case side2 => exact (Kd.R_reads' HO_208000.out).2.1)
                    (case side3 => repeat (first | exact (Kd.S_reads' HO_208001.out).2.2 | (with_reducible refine Kd.C_alloc ?_ _) | (with_reducible refine Kd.C_drewN ?_ _) | (with_reducible refine Kd.C_drew ?_)))
                    (case side4 => exact (Kd.S_reads' HO_208001.out).2.1)
                    (case side5 => repeat (first | exact (Kd.R_reads' HO221.out).2.2 | (with_reducible refine Kd.C_alloc ?_ _) | (with_reducible refine Kd.C_drewN ?_ _) | (with_reducible refine Kd.C_drew ?_)))
                    (case side6 => exact (Kd.R_reads' HO221.out).2.1)
                    (case side7 => repeat (first | exact (Kd.S_reads' HO224.out).2.2 | (with_reducible refine Kd.C_alloc ?_ _) | (with_reducible refine Kd.C_drewN ?_ _) | (with_reducible refine Kd.C_drew ?_)))
                    (case side8 => exact (Kd.S_reads' HO224.out).2.1)
                    rintro e w71 ⟨rfl, hb⟩
                    refine ⟨_, rfl, ?_⟩
                    have n0_ := Aside0.mk (Kd.R_below (by (with_reducible repeat (first | apply Kd.R_alloc | apply Kd.R_drewN | apply Kd.R_drew)); exact HO_8.out) hb)
                    have n1_ := Aside0.mk (Kd.R_below (by (with_reducible repeat (first | apply Kd.R_alloc | apply Kd.R_drewN | apply Kd.R_drew)); exact HO_11.out) hb)
                    have n2_ := Aside0.mk (Kd.R_below (by (with_reducible repeat (first | apply Kd.R_alloc | apply Kd.R_drewN | apply Kd.R_drew)); exact HO_12.out) hb)
                    have n3_ := Aside0.mk (Kd.R_below (by (with_reducible repeat (first | apply Kd.R_alloc | apply Kd.R_drewN | apply Kd.R_drew)); exact HO_13.out) hb)
                    have n4_ := Aside0.mk (Kd.R_below (by (with_reducible repeat (first | apply Kd.R_alloc | apply Kd.R_drewN | apply Kd.R_drew)); exact HO_208000.out) hb)
                    have n5_ := Aside0.mk (Kd.S_below (by (with_reducible repeat (first | apply Kd.S_alloc | apply Kd.S_drewN | apply Kd.S_drew)); exact HO_208001.out) hb)
                    have n6_ := Aside0.mk (Kd.R_below (by (with_reducible repeat (first | apply Kd.R_alloc | apply Kd.R_drewN | apply Kd.R_drew)); exact HO221.out) hb)
                    have n7_ := Aside0.mk (Kd.S_below (by (with_reducible repeat (first | apply Kd.S_alloc | apply Kd.S_drewN | apply Kd.S_drew)); exact HO224.out) hb)
                    have n8_ := Aside0.mk (blk_below (g := gb183) (o := .cells #[.slice A0_0 l0_0.length c0_0, .slice A0_1 l0_1.length c0_1] 38 (0, 0)) (by (with_reducible repeat (first | refine blk_drewN ?_ _ | refine blk_drew ?_ | refine blk_alloc ?_ _)); exact BK183.out) hb)
                    have n9_ := Aside0.mk (blk_below (g := gb207) (o := .cells #[.slice Ao37 t201.length co37, .slice Ao40 t204.length co40] 27 (0, 0)) (by (with_reducible repeat (first | refine blk_drewN ?_ _ | refine blk_drew ?_ | refine blk_alloc ?_ _)); exact BK207.out) hb)
                    have n10_ := Aside0.mk (below_step (by repeat (first | (with_reducible first | exact HB.out | apply below_alloc | apply pw_below_drewN | apply below_drew1 | refine below_set ?_ GE183.out | refine below_set ?_ GE207.out) | exact HB.out)) hb)
                    clear HO_8
                    clear HO_11
                    clear HO_12
                    clear HO_13
                    clear HO_208000
                    clear HO_208001
                    clear HO221
                    clear HO224
                    clear BK183
                    clear BK207
                    clear HB
                    have HO_8 := n0_
                    have HO_11 := n1_
                    have HO_12 := n2_
                    have HO_13 := n3_
                    have HO_208000 := n4_
                    have HO_208001 := n5_
                    have HO221 := n6_
                    have HO224 := n7_
                    have BK183 := n8_
                    have BK207 := n9_
                    have HB := n10_
                    clear n0_ n1_ n2_ n3_ n4_ n5_ n6_ n7_ n8_ n9_ n10_
                    (try clear hb)
                    (try clear hb2)
                    (try clear hk)
                    (try clear hi)
                    refine hK.out _ _ ⟨(blk_cell BK207.out 0).trans rfl, (blk_cell BK207.out 1).trans rfl, (blk_cell BK183.out 0).trans rfl, (blk_cell BK183.out 1).trans rfl⟩ (fun hHeld => ?_)
                    clear hK K
                    refine norm_ (a' := ?_) ?_ ?_
                    rotate_left
                    · show Act.put _ (some 66) _ = _
                      simp only [Act.put, List.setIfInBounds_toArray, List.set_cons_zero, List.set_cons_succ, i64_w, i32_w]
                      rfl
                    refine pure_ (i := 4) (N := some 67) (v := ?_) (a' := ?_) #[true, true, true, true, true] rfl rfl (by kernel_rfl) (fun _ _ _ h => h) (Or.inl ⟨by rfl, ?_⟩) ?_ ?_
                    rotate_left
                    · intro w'
                      go_simp
                      with_reducible rfl
                    rotate_left
                    · simp only [Act.put, List.setIfInBounds_toArray, List.set_cons_zero, List.set_cons_succ, i64_w, i32_w]
                      rfl
                    refine done_ (by kernel_rfl) ?_
                    go_upto_region 26 with (first | ((with_reducible refine gate_callee (f := 32) rfl ?_); refine goesL_ (some 70) rfl rfl Try.func32 (by kernel_rfl) rfl #[.slice A1 l1.length c1] rfl (by (try simp only [List.map_toArray, List.map_cons, List.map_nil]); first | done | rfl | (simp only [List.length_drop, List.length_take]; rfl)) ?_; (with_reducible refine (laws_toInt64S.calls kj20 _ _ l1 t226 _ ?side1 ?side2 A57.out).mono ?_); (case side1 => repeat (first | exact (Kd.C_below HR1.out HB.out) | (with_reducible refine Kd.C_alloc ?_ _) | (with_reducible refine Kd.C_drewN ?_ _) | (with_reducible refine Kd.C_drew ?_))); (case side2 => exact HC1.out); rintro e w72 ⟨v227, rfl, ho0, hb⟩; refine ⟨_, rfl, ?_⟩; have n0_ := Aside0.mk (Kd.R_elder' (by (with_reducible repeat (first | apply Kd.R_alloc | apply Kd.R_drewN | apply Kd.R_drew)); exact HO_8.out) (Kd.R_base ho0) hb); have n1_ := Aside0.mk (Kd.R_elder' (by (with_reducible repeat (first | apply Kd.R_alloc | apply Kd.R_drewN | apply Kd.R_drew)); exact HO_11.out) (Kd.R_base ho0) hb); have n2_ := Aside0.mk (Kd.R_elder' (by (with_reducible repeat (first | apply Kd.R_alloc | apply Kd.R_drewN | apply Kd.R_drew)); exact HO_12.out) (Kd.R_base ho0) hb); have n3_ := Aside0.mk (Kd.R_elder' (by (with_reducible repeat (first | apply Kd.R_alloc | apply Kd.R_drewN | apply Kd.R_drew)); exact HO_13.out) (Kd.R_base ho0) hb); have n4_ := Aside0.mk (Kd.R_elder' (by (with_reducible repeat (first | apply Kd.R_alloc | apply Kd.R_drewN | apply Kd.R_drew)); exact HO_208000.out) (Kd.R_base ho0) hb); have n5_ := Aside0.mk (Kd.S_elder' (by (with_reducible repeat (first | apply Kd.S_alloc | apply Kd.S_drewN | apply Kd.S_drew)); exact HO_208001.out) (Kd.R_base ho0) hb); have n6_ := Aside0.mk (Kd.R_elder' (by (with_reducible repeat (first | apply Kd.R_alloc | apply Kd.R_drewN | apply Kd.R_drew)); exact HO221.out) (Kd.R_base ho0) hb); have n7_ := Aside0.mk (Kd.S_elder' (by (with_reducible repeat (first | apply Kd.S_alloc | apply Kd.S_drewN | apply Kd.S_drew)); exact HO224.out) (Kd.R_base ho0) hb); have n8_ := Aside0.mk (Kd.R_lower (Kd.R_new' (Kd.R_new' (Kd.R_new' (Kd.R_new' (Kd.R_new' (Kd.R_new' ho0 (Kd.R_lt (by (with_reducible repeat (first | apply Kd.R_alloc | apply Kd.R_drewN | apply Kd.R_drew)); exact HO_8.out))) (Kd.R_lt (by (with_reducible repeat (first | apply Kd.R_alloc | apply Kd.R_drewN | apply Kd.R_drew)); exact HO_11.out))) (Kd.R_lt (by (with_reducible repeat (first | apply Kd.R_alloc | apply Kd.R_drewN | apply Kd.R_drew)); exact HO_12.out))) (Kd.R_lt (by (with_reducible repeat (first | apply Kd.R_alloc | apply Kd.R_drewN | apply Kd.R_drew)); exact HO_13.out))) (Kd.R_lt (by (with_reducible repeat (first | apply Kd.R_alloc | apply Kd.R_drewN | apply Kd.R_drew)); exact HO_208000.out))) (Kd.R_lt (by (with_reducible repeat (first | apply Kd.R_alloc | apply Kd.R_drewN | apply Kd.R_drew)); exact HO221.out))) (below_size (by repeat (first | (with_reducible first | exact HB.out | apply below_alloc | apply pw_below_drewN | apply below_drew1 | refine below_set ?_ GE183.out | refine below_set ?_ GE207.out) | exact HB.out)))); have n9_ := Aside0.mk (blk_below (g := gb183) (o := .cells #[.slice A0_0 l0_0.length c0_0, .slice A0_1 l0_1.length c0_1] 38 (0, 0)) (by (with_reducible repeat (first | refine blk_drewN ?_ _ | refine blk_drew ?_ | refine blk_alloc ?_ _)); exact BK183.out) hb); have n10_ := Aside0.mk (blk_below (g := gb207) (o := .cells #[.slice Ao37 t201.length co37, .slice Ao40 t204.length co40] 27 (0, 0)) (by (with_reducible repeat (first | refine blk_drewN ?_ _ | refine blk_drew ?_ | refine blk_alloc ?_ _)); exact BK207.out) hb); have n11_ := Aside0.mk (below_step (by repeat (first | (with_reducible first | exact HB.out | apply below_alloc | apply pw_below_drewN | apply below_drew1 | refine below_set ?_ GE183.out | refine below_set ?_ GE207.out) | exact HB.out)) hb); clear HO_8; clear HO_11; clear HO_12; clear HO_13; clear HO_208000; clear HO_208001; clear HO221; clear HO224; clear BK183; clear BK207; clear HB; have HO_8 := n0_; have HO_11 := n1_; have HO_12 := n2_; have HO_13 := n3_; have HO_208000 := n4_; have HO_208001 := n5_; have HO221 := n6_; have HO224 := n7_; have HO228 := n8_; have BK183 := n9_; have BK207 := n10_; have HB := n11_; clear n0_ n1_ n2_ n3_ n4_ n5_ n6_ n7_ n8_ n9_ n10_ n11_; (try clear hb); (try clear hb2); (try clear hk); (try clear hi); (try clear ho0); obtain ⟨Ao73, co73, eo73⟩ := Kd.R_slice HO228.out; subst eo73) | ((with_reducible refine gate_callee (f := 33) rfl ?_); refine goesL_ (some 71) rfl rfl Try.func33 (by kernel_rfl) rfl #[.slice Ao44 t208.length co44, .slice Ao73 t226.length co73] rfl (by (try simp only [List.map_toArray, List.map_cons, List.map_nil]); first | done | rfl | (simp only [List.length_drop, List.length_take]; rfl)) ?_; (with_reducible refine (laws_eqInt64S.calls kj20 _ _ t208 _ _ t226 true _ ?side1 ?side2 ?side3 ?side4 A58.out).mono ?_); (case side1 => repeat (first | exact (Kd.R_reads' HO_11.out).2.2 | (with_reducible refine Kd.C_alloc ?_ _) | (with_reducible refine Kd.C_drewN ?_ _) | (with_reducible refine Kd.C_drew ?_))); (case side2 => exact (Kd.R_reads' HO_11.out).2.1); (case side3 => repeat (first | exact (Kd.R_reads' HO228.out).2.2 | (with_reducible refine Kd.C_alloc ?_ _) | (with_reducible refine Kd.C_drewN ?_ _) | (with_reducible refine Kd.C_drew ?_))); (case side4 => exact (Kd.R_reads' HO228.out).2.1); rintro e w' ⟨rfl, ⟨nd, rfl⟩⟩; refine ⟨_, rfl, ?_⟩) | ((with_reducible refine gate_callee (f := 32) rfl ?_); refine goesL_ (some 75) rfl rfl Try.func32 (by kernel_rfl) rfl #[.slice A2 l2.length c2] rfl (by (try simp only [List.map_toArray, List.map_cons, List.map_nil]); first | done | rfl | (simp only [List.length_drop, List.length_take]; rfl)) ?_; (with_reducible refine (laws_toInt64S.calls kj20 _ _ l2 t230 _ ?side1 ?side2 A60.out).mono ?_); (case side1 => repeat (first | exact (Kd.C_below HR2.out (by repeat (first | (with_reducible first | exact HB.out | apply below_alloc | apply pw_below_drewN | apply below_drew1 | refine below_set ?_ GE183.out | refine below_set ?_ GE207.out) | exact HB.out))) | (with_reducible refine Kd.C_alloc ?_ _) | (with_reducible refine Kd.C_drewN ?_ _) | (with_reducible refine Kd.C_drew ?_))); (case side2 => exact HC2.out); rintro e w74 ⟨v231, rfl, ho0, hb⟩; refine ⟨_, rfl, ?_⟩; have n0_ := Aside0.mk (Kd.R_elder' (by (with_reducible repeat (first | apply Kd.R_alloc | apply Kd.R_drewN | apply Kd.R_drew)); exact HO_8.out) (Kd.R_base ho0) hb); have n1_ := Aside0.mk (Kd.R_elder' (by (with_reducible repeat (first | apply Kd.R_alloc | apply Kd.R_drewN | apply Kd.R_drew)); exact HO_11.out) (Kd.R_base ho0) hb); have n2_ := Aside0.mk (Kd.R_elder' (by (with_reducible repeat (first | apply Kd.R_alloc | apply Kd.R_drewN | apply Kd.R_drew)); exact HO_12.out) (Kd.R_base ho0) hb); have n3_ := Aside0.mk (Kd.R_elder' (by (with_reducible repeat (first | apply Kd.R_alloc | apply Kd.R_drewN | apply Kd.R_drew)); exact HO_13.out) (Kd.R_base ho0) hb); have n4_ := Aside0.mk (Kd.R_elder' (by (with_reducible repeat (first | apply Kd.R_alloc | apply Kd.R_drewN | apply Kd.R_drew)); exact HO_208000.out) (Kd.R_base ho0) hb); have n5_ := Aside0.mk (Kd.S_elder' (by (with_reducible repeat (first | apply Kd.S_alloc | apply Kd.S_drewN | apply Kd.S_drew)); exact HO_208001.out) (Kd.R_base ho0) hb); have n6_ := Aside0.mk (Kd.R_elder' (by (with_reducible repeat (first | apply Kd.R_alloc | apply Kd.R_drewN | apply Kd.R_drew)); exact HO221.out) (Kd.R_base ho0) hb); have n7_ := Aside0.mk (Kd.S_elder' (by (with_reducible repeat (first | apply Kd.S_alloc | apply Kd.S_drewN | apply Kd.S_drew)); exact HO224.out) (Kd.R_base ho0) hb); have n8_ := Aside0.mk (Kd.R_elder' (by (with_reducible repeat (first | apply Kd.R_alloc | apply Kd.R_drewN | apply Kd.R_drew)); exact HO228.out) (Kd.R_base ho0) hb); have n9_ := Aside0.mk (Kd.R_lower (Kd.R_new' (Kd.R_new' (Kd.R_new' (Kd.R_new' (Kd.R_new' (Kd.R_new' (Kd.R_new' ho0 (Kd.R_lt (by (with_reducible repeat (first | apply Kd.R_alloc | apply Kd.R_drewN | apply Kd.R_drew)); exact HO_8.out))) (Kd.R_lt (by (with_reducible repeat (first | apply Kd.R_alloc | apply Kd.R_drewN | apply Kd.R_drew)); exact HO_11.out))) (Kd.R_lt (by (with_reducible repeat (first | apply Kd.R_alloc | apply Kd.R_drewN | apply Kd.R_drew)); exact HO_12.out))) (Kd.R_lt (by (with_reducible repeat (first | apply Kd.R_alloc | apply Kd.R_drewN | apply Kd.R_drew)); exact HO_13.out))) (Kd.R_lt (by (with_reducible repeat (first | apply Kd.R_alloc | apply Kd.R_drewN | apply Kd.R_drew)); exact HO_208000.out))) (Kd.R_lt (by (with_reducible repeat (first | apply Kd.R_alloc | apply Kd.R_drewN | apply Kd.R_drew)); exact HO221.out))) (Kd.R_lt (by (with_reducible repeat (first | apply Kd.R_alloc | apply Kd.R_drewN | apply Kd.R_drew)); exact HO228.out))) (below_size (by repeat (first | (with_reducible first | exact HB.out | apply below_alloc | apply pw_below_drewN | apply below_drew1 | refine below_set ?_ GE183.out | refine below_set ?_ GE207.out) | exact HB.out)))); have n10_ := Aside0.mk (blk_below (g := gb183) (o := .cells #[.slice A0_0 l0_0.length c0_0, .slice A0_1 l0_1.length c0_1] 38 (0, 0)) (by (with_reducible repeat (first | refine blk_drewN ?_ _ | refine blk_drew ?_ | refine blk_alloc ?_ _)); exact BK183.out) hb); have n11_ := Aside0.mk (blk_below (g := gb207) (o := .cells #[.slice Ao37 t201.length co37, .slice Ao40 t204.length co40] 27 (0, 0)) (by (with_reducible repeat (first | refine blk_drewN ?_ _ | refine blk_drew ?_ | refine blk_alloc ?_ _)); exact BK207.out) hb); have n12_ := Aside0.mk (below_step (by repeat (first | (with_reducible first | exact HB.out | apply below_alloc | apply pw_below_drewN | apply below_drew1 | refine below_set ?_ GE183.out | refine below_set ?_ GE207.out) | exact HB.out)) hb); clear HO_8; clear HO_11; clear HO_12; clear HO_13; clear HO_208000; clear HO_208001; clear HO221; clear HO224; clear HO228; clear BK183; clear BK207; clear HB; have HO_8 := n0_; have HO_11 := n1_; have HO_12 := n2_; have HO_13 := n3_; have HO_208000 := n4_; have HO_208001 := n5_; have HO221 := n6_; have HO224 := n7_; have HO228 := n8_; have HO232 := n9_; have BK183 := n10_; have BK207 := n11_; have HB := n12_; clear n0_ n1_ n2_ n3_ n4_ n5_ n6_ n7_ n8_ n9_ n10_ n11_ n12_; (try clear hb); (try clear hb2); (try clear hk); (try clear hi); (try clear ho0); obtain ⟨Ao75, co75, eo75⟩ := Kd.R_slice HO232.out; subst eo75) | ((with_reducible refine gate_callee (f := 33) rfl ?_); refine goesL_ (some 76) rfl rfl Try.func33 (by kernel_rfl) rfl #[.slice Ao45 t211.length co45, .slice Ao75 t230.length co75] rfl (by (try simp only [List.map_toArray, List.map_cons, List.map_nil]); first | done | rfl | (simp only [List.length_drop, List.length_take]; rfl)) ?_; (with_reducible refine (laws_eqInt64S.calls kj20 _ _ t211 _ _ t230 true _ ?side1 ?side2 ?side3 ?side4 A61.out).mono ?_); (case side1 => repeat (first | exact (Kd.R_reads' HO_12.out).2.2 | (with_reducible refine Kd.C_alloc ?_ _) | (with_reducible refine Kd.C_drewN ?_ _) | (with_reducible refine Kd.C_drew ?_))); (case side2 => exact (Kd.R_reads' HO_12.out).2.1); (case side3 => repeat (first | exact (Kd.R_reads' HO232.out).2.2 | (with_reducible refine Kd.C_alloc ?_ _) | (with_reducible refine Kd.C_drewN ?_ _) | (with_reducible refine Kd.C_drew ?_))); (case side4 => exact (Kd.R_reads' HO232.out).2.1); rintro e w' ⟨rfl, ⟨nd, rfl⟩⟩; refine ⟨_, rfl, ?_⟩; have hnb76 := NB207_183.out; have hnc76 := NB183_207.out; have hcz77_0 : w74.cell? ⟨gb207, 0, none⟩ = some (.slice Ao37 t201.length co37) := (blk_cell BK207.out 0).trans rfl; have hcz77_1 : w74.cell? ⟨gb207, 1, none⟩ = some (.slice Ao40 t204.length co40) := (blk_cell BK207.out 1).trans rfl; have hfz77_0 := blk_frozen BK207.out 0; have hfz77_1 := blk_frozen BK207.out 1) | ((with_reducible refine gate_callee (f := 36) rfl ?_); refine goesL_ (some 80) rfl rfl Try.func36 (by kernel_rfl) rfl #[.agg #[.slice Ao37 t201.length co37, .slice Ao40 t204.length co40], .int .i64 1] rfl (by (try simp only [List.map_toArray, List.map_cons, List.map_nil]); first | done | rfl | (simp only [List.length_drop, List.length_take]; rfl)) ?_; (with_reducible refine (laws_markTuning.calls kj20 (fun k_ => some k_ = (.slice Ao37 t201.length co37 : Value).ownBlock) (.slice Ao37 t201.length co37) t201 (fun k_ => (((((((some k_ ≠ (v198 : Value).ownBlock ∧ (some k_ ≠ (.slice Ao44 t208.length co44 : Value).ownBlock ∧ (some k_ ≠ (.slice Ao45 t211.length co45 : Value).ownBlock ∧ (some k_ ≠ (v215 : Value).ownBlock ∧ some k_ ≠ (.slice Ao37 t201.length co37 : Value).ownBlock)))) ∧ some k_ ≠ (.slice Ao69 t219.length co69 : Value).ownBlock) ∧ some k_ ≠ (.slice Ao70 t222.length co70 : Value).ownBlock) ∧ some k_ ≠ (.slice Ao73 t226.length co73 : Value).ownBlock) ∧ some k_ ≠ (.slice Ao75 t230.length co75 : Value).ownBlock) ∧ k_ ≠ gb183) ∧ k_ ≠ gb207) ∧ w.heap.size ≤ k_) (.slice Ao40 t204.length co40) t204 1 t234 t235 t236 w _ ?side1 ?side2 ?side3 ?side4 A63.out).mono ?_); (case side1 => repeat (first | (with_reducible first | exact HB.out | apply below_alloc | apply pw_below_drewN | apply below_drew1 | refine below_set ?_ GE183.out | refine below_set ?_ GE207.out) | exact HB.out)); (case side2 => exact Kd.R_tight rfl HO_208000.out); (case side3 => exact fun k_ e_ h_ => (h_.1.1.1.1.1.1.1.2.2.2.2) e_); (case side4 => exact Kd.S_mono (Kd.S_bound (Kd.S_types (Kd.S_types (HO_208001.out) BK183.out (by decide)) BK207.out (by decide))) (fun k_ hk => ⟨hk.1, hk.2.1⟩)); rintro e w78 ⟨rfl, hy0, hy1, hb, hkp⟩; refine ⟨_, rfl, ?_⟩; have n0_ := Aside0.mk (Kd.R_mono (ok' := fun k_ => some k_ ≠ (.slice Ao44 t208.length co44 : Value).ownBlock ∧ some k_ ≠ (.slice Ao45 t211.length co45 : Value).ownBlock ∧ some k_ ≠ (v215 : Value).ownBlock ∧ some k_ ≠ (.slice Ao37 t201.length co37 : Value).ownBlock ∧ some k_ ≠ (.slice Ao69 t219.length co69 : Value).ownBlock ∧ some k_ ≠ (.slice Ao73 t226.length co73 : Value).ownBlock ∧ some k_ ≠ (.slice Ao75 t230.length co75 : Value).ownBlock) (Kd.R_keptB ((Kd.R_mono (Kd.R_tight2 rfl HO_8.out) (fun k_ hk => (⟨hk.2, fun e_ => (e_.1.1.1.1.1.1.1.1) hk.1⟩ : _ ∧ ¬ ((fun k_ => (((((((some k_ ≠ (v198 : Value).ownBlock ∧ (some k_ ≠ (.slice Ao44 t208.length co44 : Value).ownBlock ∧ (some k_ ≠ (.slice Ao45 t211.length co45 : Value).ownBlock ∧ (some k_ ≠ (v215 : Value).ownBlock ∧ some k_ ≠ (.slice Ao37 t201.length co37 : Value).ownBlock)))) ∧ some k_ ≠ (.slice Ao69 t219.length co69 : Value).ownBlock) ∧ some k_ ≠ (.slice Ao70 t222.length co70 : Value).ownBlock) ∧ some k_ ≠ (.slice Ao73 t226.length co73 : Value).ownBlock) ∧ some k_ ≠ (.slice Ao75 t230.length co75 : Value).ownBlock) ∧ k_ ≠ gb183) ∧ k_ ≠ gb207) ∧ w.heap.size ≤ k_)) k_)))) hkp (fun k_ hk_ hs_ => Or.elim hs_ (fun e_ => (hk_.1.1.1.1.2.2.2) e_) (fun e_ => (hk_.2) e_))) (fun k_ hk_ => ⟨hk_.1.1.1.1.1.1, hk_.1.1.1.1.1.2.1, hk_.1.1.1.1.1.2.2.1, hk_.1.1.1.1.1.2.2.2, hk_.1.1.1.1.2, hk_.1.1.1.2, hk_.1.1.2⟩)); have n1_ := Aside0.mk (Kd.R_mono (ok' := fun k_ => some k_ ≠ (v198 : Value).ownBlock ∧ some k_ ≠ (.slice Ao45 t211.length co45 : Value).ownBlock ∧ some k_ ≠ (v215 : Value).ownBlock ∧ some k_ ≠ (.slice Ao37 t201.length co37 : Value).ownBlock ∧ some k_ ≠ (.slice Ao69 t219.length co69 : Value).ownBlock ∧ some k_ ≠ (.slice Ao73 t226.length co73 : Value).ownBlock ∧ some k_ ≠ (.slice Ao75 t230.length co75 : Value).ownBlock) (Kd.R_keptB ((Kd.R_mono (Kd.R_tight2 rfl HO_11.out) (fun k_ hk => (⟨hk.2, fun e_ => (e_.1.1.1.1.1.1.1.2.1) hk.1⟩ : _ ∧ ¬ ((fun k_ => (((((((some k_ ≠ (v198 : Value).ownBlock ∧ (some k_ ≠ (.slice Ao44 t208.length co44 : Value).ownBlock ∧ (some k_ ≠ (.slice Ao45 t211.length co45 : Value).ownBlock ∧ (some k_ ≠ (v215 : Value).ownBlock ∧ some k_ ≠ (.slice Ao37 t201.length co37 : Value).ownBlock)))) ∧ some k_ ≠ (.slice Ao69 t219.length co69 : Value).ownBlock) ∧ some k_ ≠ (.slice Ao70 t222.length co70 : Value).ownBlock) ∧ some k_ ≠ (.slice Ao73 t226.length co73 : Value).ownBlock) ∧ some k_ ≠ (.slice Ao75 t230.length co75 : Value).ownBlock) ∧ k_ ≠ gb183) ∧ k_ ≠ gb207) ∧ w.heap.size ≤ k_)) k_)))) hkp (fun k_ hk_ hs_ => Or.elim hs_ (fun e_ => (hk_.1.1.1.1.2.2.2) e_) (fun e_ => (hk_.2) e_))) (fun k_ hk_ => ⟨hk_.1.1.1.1.1.1, hk_.1.1.1.1.1.2.1, hk_.1.1.1.1.1.2.2.1, hk_.1.1.1.1.1.2.2.2, hk_.1.1.1.1.2, hk_.1.1.1.2, hk_.1.1.2⟩)); have n2_ := Aside0.mk (Kd.R_mono (ok' := fun k_ => some k_ ≠ (v198 : Value).ownBlock ∧ some k_ ≠ (.slice Ao44 t208.length co44 : Value).ownBlock ∧ some k_ ≠ (v215 : Value).ownBlock ∧ some k_ ≠ (.slice Ao37 t201.length co37 : Value).ownBlock ∧ some k_ ≠ (.slice Ao69 t219.length co69 : Value).ownBlock ∧ some k_ ≠ (.slice Ao73 t226.length co73 : Value).ownBlock ∧ some k_ ≠ (.slice Ao75 t230.length co75 : Value).ownBlock) (Kd.R_keptB ((Kd.R_mono (Kd.R_tight2 rfl HO_12.out) (fun k_ hk => (⟨hk.2, fun e_ => (e_.1.1.1.1.1.1.1.2.2.1) hk.1⟩ : _ ∧ ¬ ((fun k_ => (((((((some k_ ≠ (v198 : Value).ownBlock ∧ (some k_ ≠ (.slice Ao44 t208.length co44 : Value).ownBlock ∧ (some k_ ≠ (.slice Ao45 t211.length co45 : Value).ownBlock ∧ (some k_ ≠ (v215 : Value).ownBlock ∧ some k_ ≠ (.slice Ao37 t201.length co37 : Value).ownBlock)))) ∧ some k_ ≠ (.slice Ao69 t219.length co69 : Value).ownBlock) ∧ some k_ ≠ (.slice Ao70 t222.length co70 : Value).ownBlock) ∧ some k_ ≠ (.slice Ao73 t226.length co73 : Value).ownBlock) ∧ some k_ ≠ (.slice Ao75 t230.length co75 : Value).ownBlock) ∧ k_ ≠ gb183) ∧ k_ ≠ gb207) ∧ w.heap.size ≤ k_)) k_)))) hkp (fun k_ hk_ hs_ => Or.elim hs_ (fun e_ => (hk_.1.1.1.1.2.2.2) e_) (fun e_ => (hk_.2) e_))) (fun k_ hk_ => ⟨hk_.1.1.1.1.1.1, hk_.1.1.1.1.1.2.1, hk_.1.1.1.1.1.2.2.1, hk_.1.1.1.1.1.2.2.2, hk_.1.1.1.1.2, hk_.1.1.1.2, hk_.1.1.2⟩)); have n3_ := Aside0.mk (Kd.R_mono (ok' := fun k_ => some k_ ≠ (v198 : Value).ownBlock ∧ some k_ ≠ (.slice Ao44 t208.length co44 : Value).ownBlock ∧ some k_ ≠ (.slice Ao45 t211.length co45 : Value).ownBlock ∧ some k_ ≠ (.slice Ao37 t201.length co37 : Value).ownBlock ∧ some k_ ≠ (.slice Ao69 t219.length co69 : Value).ownBlock ∧ some k_ ≠ (.slice Ao73 t226.length co73 : Value).ownBlock ∧ some k_ ≠ (.slice Ao75 t230.length co75 : Value).ownBlock) (Kd.R_keptB ((Kd.R_mono (Kd.R_tight2 rfl HO_13.out) (fun k_ hk => (⟨hk.2, fun e_ => (e_.1.1.1.1.1.1.1.2.2.2.1) hk.1⟩ : _ ∧ ¬ ((fun k_ => (((((((some k_ ≠ (v198 : Value).ownBlock ∧ (some k_ ≠ (.slice Ao44 t208.length co44 : Value).ownBlock ∧ (some k_ ≠ (.slice Ao45 t211.length co45 : Value).ownBlock ∧ (some k_ ≠ (v215 : Value).ownBlock ∧ some k_ ≠ (.slice Ao37 t201.length co37 : Value).ownBlock)))) ∧ some k_ ≠ (.slice Ao69 t219.length co69 : Value).ownBlock) ∧ some k_ ≠ (.slice Ao70 t222.length co70 : Value).ownBlock) ∧ some k_ ≠ (.slice Ao73 t226.length co73 : Value).ownBlock) ∧ some k_ ≠ (.slice Ao75 t230.length co75 : Value).ownBlock) ∧ k_ ≠ gb183) ∧ k_ ≠ gb207) ∧ w.heap.size ≤ k_)) k_)))) hkp (fun k_ hk_ hs_ => Or.elim hs_ (fun e_ => (hk_.1.1.1.1.2.2.2) e_) (fun e_ => (hk_.2) e_))) (fun k_ hk_ => ⟨hk_.1.1.1.1.1.1, hk_.1.1.1.1.1.2.1, hk_.1.1.1.1.1.2.2.1, hk_.1.1.1.1.1.2.2.2, hk_.1.1.1.1.2, hk_.1.1.1.2, hk_.1.1.2⟩)); have n4_ := Aside0.mk (Kd.R_reok rfl hy0 (fun k_ e_ => HO_208000.out.1 k_ e_)); have n5_ := Aside0.mk (Kd.S_mono (ok' := (fun k_ => some k_ ≠ (v198 : Value).ownBlock ∧ some k_ ≠ (.slice Ao44 t208.length co44 : Value).ownBlock ∧ some k_ ≠ (.slice Ao45 t211.length co45 : Value).ownBlock ∧ some k_ ≠ (v215 : Value).ownBlock ∧ some k_ ≠ (.slice Ao37 t201.length co37 : Value).ownBlock ∧ some k_ ≠ (.slice Ao69 t219.length co69 : Value).ownBlock ∧ some k_ ≠ (.slice Ao70 t222.length co70 : Value).ownBlock ∧ some k_ ≠ (.slice Ao73 t226.length co73 : Value).ownBlock ∧ some k_ ≠ (.slice Ao75 t230.length co75 : Value).ownBlock)) hy1 (fun k_ hk_ => ⟨hk_.1.1.1.1.1.1.1.1, ⟨hk_.1.1.1.1.1.1.1.2.1, ⟨hk_.1.1.1.1.1.1.1.2.2.1, ⟨hk_.1.1.1.1.1.1.1.2.2.2.1, ⟨hk_.1.1.1.1.1.1.1.2.2.2.2, ⟨hk_.1.1.1.1.1.1.2, ⟨hk_.1.1.1.1.1.2, ⟨hk_.1.1.1.1.2, hk_.1.1.1.2⟩⟩⟩⟩⟩⟩⟩⟩)); have n6_ := Aside0.mk (blk_kept (g := gb183) (o := .cells #[.slice A0_0 l0_0.length c0_0, .slice A0_1 l0_1.length c0_1] 38 (0, 0)) (by (with_reducible repeat (first | refine blk_drewN ?_ _ | refine blk_drew ?_ | refine blk_alloc ?_ _)); exact BK183.out) hkp (fun hs_ => Or.elim hs_ (fun e_ => (fun e_ => (Kd.R_ne HO_208000.out BK183.out (by decide)) e_) e_) (fun e_ => (fun (e_ : (fun k_ => (((((((some k_ ≠ (v198 : Value).ownBlock ∧ (some k_ ≠ (.slice Ao44 t208.length co44 : Value).ownBlock ∧ (some k_ ≠ (.slice Ao45 t211.length co45 : Value).ownBlock ∧ (some k_ ≠ (v215 : Value).ownBlock ∧ some k_ ≠ (.slice Ao37 t201.length co37 : Value).ownBlock)))) ∧ some k_ ≠ (.slice Ao69 t219.length co69 : Value).ownBlock) ∧ some k_ ≠ (.slice Ao70 t222.length co70 : Value).ownBlock) ∧ some k_ ≠ (.slice Ao73 t226.length co73 : Value).ownBlock) ∧ some k_ ≠ (.slice Ao75 t230.length co75 : Value).ownBlock) ∧ k_ ≠ gb183) ∧ k_ ≠ gb207) ∧ w.heap.size ≤ k_) gb183) => (e_.1.1.2) rfl) e_))); have n7_ := Aside0.mk (blk_kept (g := gb207) (o := .cells #[.slice Ao37 t201.length co37, .slice Ao40 t204.length co40] 27 (0, 0)) (by (with_reducible repeat (first | refine blk_drewN ?_ _ | refine blk_drew ?_ | refine blk_alloc ?_ _)); exact BK207.out) hkp (fun hs_ => Or.elim hs_ (fun e_ => (fun e_ => (Kd.R_ne HO_208000.out BK207.out (by decide)) e_) e_) (fun e_ => (fun (e_ : (fun k_ => (((((((some k_ ≠ (v198 : Value).ownBlock ∧ (some k_ ≠ (.slice Ao44 t208.length co44 : Value).ownBlock ∧ (some k_ ≠ (.slice Ao45 t211.length co45 : Value).ownBlock ∧ (some k_ ≠ (v215 : Value).ownBlock ∧ some k_ ≠ (.slice Ao37 t201.length co37 : Value).ownBlock)))) ∧ some k_ ≠ (.slice Ao69 t219.length co69 : Value).ownBlock) ∧ some k_ ≠ (.slice Ao70 t222.length co70 : Value).ownBlock) ∧ some k_ ≠ (.slice Ao73 t226.length co73 : Value).ownBlock) ∧ some k_ ≠ (.slice Ao75 t230.length co75 : Value).ownBlock) ∧ k_ ≠ gb183) ∧ k_ ≠ gb207) ∧ w.heap.size ≤ k_) gb207) => (e_.1.2) rfl) e_))); have n8_ := Aside0.mk (Kd.R_mono (ok' := fun k_ => some k_ ≠ (v198 : Value).ownBlock ∧ some k_ ≠ (.slice Ao44 t208.length co44 : Value).ownBlock ∧ some k_ ≠ (.slice Ao45 t211.length co45 : Value).ownBlock ∧ some k_ ≠ (v215 : Value).ownBlock ∧ some k_ ≠ (.slice Ao37 t201.length co37 : Value).ownBlock ∧ some k_ ≠ (.slice Ao73 t226.length co73 : Value).ownBlock ∧ some k_ ≠ (.slice Ao75 t230.length co75 : Value).ownBlock) (Kd.R_keptB ((Kd.R_mono (Kd.R_tight2 rfl HO221.out) (fun k_ hk => (⟨hk.2, fun e_ => (e_.1.1.1.1.1.1.2) hk.1⟩ : _ ∧ ¬ ((fun k_ => (((((((some k_ ≠ (v198 : Value).ownBlock ∧ (some k_ ≠ (.slice Ao44 t208.length co44 : Value).ownBlock ∧ (some k_ ≠ (.slice Ao45 t211.length co45 : Value).ownBlock ∧ (some k_ ≠ (v215 : Value).ownBlock ∧ some k_ ≠ (.slice Ao37 t201.length co37 : Value).ownBlock)))) ∧ some k_ ≠ (.slice Ao69 t219.length co69 : Value).ownBlock) ∧ some k_ ≠ (.slice Ao70 t222.length co70 : Value).ownBlock) ∧ some k_ ≠ (.slice Ao73 t226.length co73 : Value).ownBlock) ∧ some k_ ≠ (.slice Ao75 t230.length co75 : Value).ownBlock) ∧ k_ ≠ gb183) ∧ k_ ≠ gb207) ∧ w.heap.size ≤ k_)) k_)))) hkp (fun k_ hk_ hs_ => Or.elim hs_ (fun e_ => (hk_.1.1.1.2) e_) (fun e_ => (hk_.2) e_))) (fun k_ hk_ => ⟨hk_.1.1.1.1.1.1.1.1.2, hk_.1.1.1.1.1.1.1.2, hk_.1.1.1.1.1.1.2, hk_.1.1.1.1.1.2, hk_.1.1.1.1.2, hk_.1.1.1.2, hk_.1.1.2⟩)); have n9_ := Aside0.mk (Kd.R_mono (ok' := fun k_ => some k_ ≠ (v198 : Value).ownBlock ∧ some k_ ≠ (.slice Ao44 t208.length co44 : Value).ownBlock ∧ some k_ ≠ (.slice Ao45 t211.length co45 : Value).ownBlock ∧ some k_ ≠ (v215 : Value).ownBlock ∧ some k_ ≠ (.slice Ao37 t201.length co37 : Value).ownBlock ∧ some k_ ≠ (.slice Ao69 t219.length co69 : Value).ownBlock ∧ some k_ ≠ (.slice Ao75 t230.length co75 : Value).ownBlock) (Kd.R_keptB ((Kd.R_mono (Kd.R_tight2 rfl HO228.out) (fun k_ hk => (⟨hk.2, fun e_ => (e_.1.1.1.1.2) hk.1⟩ : _ ∧ ¬ ((fun k_ => (((((((some k_ ≠ (v198 : Value).ownBlock ∧ (some k_ ≠ (.slice Ao44 t208.length co44 : Value).ownBlock ∧ (some k_ ≠ (.slice Ao45 t211.length co45 : Value).ownBlock ∧ (some k_ ≠ (v215 : Value).ownBlock ∧ some k_ ≠ (.slice Ao37 t201.length co37 : Value).ownBlock)))) ∧ some k_ ≠ (.slice Ao69 t219.length co69 : Value).ownBlock) ∧ some k_ ≠ (.slice Ao70 t222.length co70 : Value).ownBlock) ∧ some k_ ≠ (.slice Ao73 t226.length co73 : Value).ownBlock) ∧ some k_ ≠ (.slice Ao75 t230.length co75 : Value).ownBlock) ∧ k_ ≠ gb183) ∧ k_ ≠ gb207) ∧ w.heap.size ≤ k_)) k_)))) hkp (fun k_ hk_ hs_ => Or.elim hs_ (fun e_ => (hk_.1.1.1.2) e_) (fun e_ => (hk_.2) e_))) (fun k_ hk_ => ⟨hk_.1.1.1.1.1.1.1.1.2, hk_.1.1.1.1.1.1.1.2, hk_.1.1.1.1.1.1.2, hk_.1.1.1.1.1.2, hk_.1.1.1.1.2, hk_.1.1.1.2, hk_.1.1.2⟩)); have n10_ := Aside0.mk (Kd.R_mono (ok' := fun k_ => some k_ ≠ (v198 : Value).ownBlock ∧ some k_ ≠ (.slice Ao44 t208.length co44 : Value).ownBlock ∧ some k_ ≠ (.slice Ao45 t211.length co45 : Value).ownBlock ∧ some k_ ≠ (v215 : Value).ownBlock ∧ some k_ ≠ (.slice Ao37 t201.length co37 : Value).ownBlock ∧ some k_ ≠ (.slice Ao69 t219.length co69 : Value).ownBlock ∧ some k_ ≠ (.slice Ao73 t226.length co73 : Value).ownBlock) (Kd.R_keptB ((Kd.R_mono (Kd.R_tight2 rfl HO232.out) (fun k_ hk => (⟨hk.2, fun e_ => (e_.1.1.1.2) hk.1⟩ : _ ∧ ¬ ((fun k_ => (((((((some k_ ≠ (v198 : Value).ownBlock ∧ (some k_ ≠ (.slice Ao44 t208.length co44 : Value).ownBlock ∧ (some k_ ≠ (.slice Ao45 t211.length co45 : Value).ownBlock ∧ (some k_ ≠ (v215 : Value).ownBlock ∧ some k_ ≠ (.slice Ao37 t201.length co37 : Value).ownBlock)))) ∧ some k_ ≠ (.slice Ao69 t219.length co69 : Value).ownBlock) ∧ some k_ ≠ (.slice Ao70 t222.length co70 : Value).ownBlock) ∧ some k_ ≠ (.slice Ao73 t226.length co73 : Value).ownBlock) ∧ some k_ ≠ (.slice Ao75 t230.length co75 : Value).ownBlock) ∧ k_ ≠ gb183) ∧ k_ ≠ gb207) ∧ w.heap.size ≤ k_)) k_)))) hkp (fun k_ hk_ hs_ => Or.elim hs_ (fun e_ => (hk_.1.1.1.2) e_) (fun e_ => (hk_.2) e_))) (fun k_ hk_ => ⟨hk_.1.1.1.1.1.1.1.1.2, hk_.1.1.1.1.1.1.1.2, hk_.1.1.1.1.1.1.2, hk_.1.1.1.1.1.2, hk_.1.1.1.1.2, hk_.1.1.1.2, hk_.1.1.2⟩)); have n11_ := Aside0.mk (hb); clear HO_8; clear HO_11; clear HO_12; clear HO_13; clear HO_208000; clear HO_208001; clear BK183; clear BK207; clear HO221; clear HO228; clear HO232; clear HB; clear HO224; have HO_8 := n0_; have HO_11 := n1_; have HO_12 := n2_; have HO_13 := n3_; have HO_208000 := n4_; have HO_208001 := n5_; have BK183 := n6_; have BK207 := n7_; have HO221 := n8_; have HO228 := n9_; have HO232 := n10_; have HB := n11_; clear n0_ n1_ n2_ n3_ n4_ n5_ n6_ n7_ n8_ n9_ n10_ n11_; (try clear hb); (try clear hkp); (try clear hy0); (try clear hy1)) | ((with_reducible refine gate_callee (f := 37) rfl ?_); refine goesL_ (some 83) rfl rfl Try.func37 (by kernel_rfl) rfl #[.slice Ao44 t208.length co44, .int .i64 t234] rfl (by (try simp only [List.map_toArray, List.map_cons, List.map_nil]); first | done | rfl | (simp only [List.length_drop, List.length_take]; rfl)) ?_; (with_reducible refine (laws_markInt64S.calls kj20 (fun k_ => some k_ = (.slice Ao44 t208.length co44 : Value).ownBlock) (.slice Ao44 t208.length co44) t208 t234 t237 t238 w _ ?side1 ?side2 A64.out).mono ?_); (case side1 => repeat (first | (with_reducible first | exact HB.out | apply below_alloc | apply pw_below_drewN | apply below_drew1 | refine below_set ?_ GE183.out | refine below_set ?_ GE207.out) | exact HB.out)); (case side2 => exact Kd.R_tight rfl HO_11.out); rintro e w79 ⟨rfl, hy0, hb, hkp⟩; refine ⟨_, rfl, ?_⟩; have n0_ := Aside0.mk (Kd.R_mono (ok' := fun k_ => some k_ ≠ (.slice Ao44 t208.length co44 : Value).ownBlock ∧ some k_ ≠ (.slice Ao45 t211.length co45 : Value).ownBlock ∧ some k_ ≠ (v215 : Value).ownBlock ∧ some k_ ≠ (.slice Ao37 t201.length co37 : Value).ownBlock ∧ some k_ ≠ (.slice Ao69 t219.length co69 : Value).ownBlock ∧ some k_ ≠ (.slice Ao73 t226.length co73 : Value).ownBlock ∧ some k_ ≠ (.slice Ao75 t230.length co75 : Value).ownBlock) (Kd.R_keptB (HO_8.out) hkp (fun k_ hk_ hs_ => (hk_.1) hs_)) (fun k_ hk_ => ⟨hk_.1.1, hk_.1.2.1, hk_.1.2.2.1, hk_.1.2.2.2.1, hk_.1.2.2.2.2.1, hk_.1.2.2.2.2.2.1, hk_.1.2.2.2.2.2.2⟩)); have n1_ := Aside0.mk (Kd.R_reok rfl hy0 (fun k_ e_ => HO_11.out.1 k_ e_)); have n2_ := Aside0.mk (Kd.R_mono (ok' := fun k_ => some k_ ≠ (v198 : Value).ownBlock ∧ some k_ ≠ (.slice Ao44 t208.length co44 : Value).ownBlock ∧ some k_ ≠ (v215 : Value).ownBlock ∧ some k_ ≠ (.slice Ao37 t201.length co37 : Value).ownBlock ∧ some k_ ≠ (.slice Ao69 t219.length co69 : Value).ownBlock ∧ some k_ ≠ (.slice Ao73 t226.length co73 : Value).ownBlock ∧ some k_ ≠ (.slice Ao75 t230.length co75 : Value).ownBlock) (Kd.R_keptB (HO_12.out) hkp (fun k_ hk_ hs_ => (hk_.2.1) hs_)) (fun k_ hk_ => ⟨hk_.1.1, hk_.1.2.1, hk_.1.2.2.1, hk_.1.2.2.2.1, hk_.1.2.2.2.2.1, hk_.1.2.2.2.2.2.1, hk_.1.2.2.2.2.2.2⟩)); have n3_ := Aside0.mk (Kd.R_mono (ok' := fun k_ => some k_ ≠ (v198 : Value).ownBlock ∧ some k_ ≠ (.slice Ao44 t208.length co44 : Value).ownBlock ∧ some k_ ≠ (.slice Ao45 t211.length co45 : Value).ownBlock ∧ some k_ ≠ (.slice Ao37 t201.length co37 : Value).ownBlock ∧ some k_ ≠ (.slice Ao69 t219.length co69 : Value).ownBlock ∧ some k_ ≠ (.slice Ao73 t226.length co73 : Value).ownBlock ∧ some k_ ≠ (.slice Ao75 t230.length co75 : Value).ownBlock) (Kd.R_keptB (HO_13.out) hkp (fun k_ hk_ hs_ => (hk_.2.1) hs_)) (fun k_ hk_ => ⟨hk_.1.1, hk_.1.2.1, hk_.1.2.2.1, hk_.1.2.2.2.1, hk_.1.2.2.2.2.1, hk_.1.2.2.2.2.2.1, hk_.1.2.2.2.2.2.2⟩)); have n4_ := Aside0.mk (Kd.R_mono (ok' := fun k_ => some k_ ≠ (v198 : Value).ownBlock ∧ some k_ ≠ (.slice Ao44 t208.length co44 : Value).ownBlock ∧ some k_ ≠ (.slice Ao45 t211.length co45 : Value).ownBlock ∧ some k_ ≠ (v215 : Value).ownBlock ∧ some k_ ≠ (.slice Ao69 t219.length co69 : Value).ownBlock ∧ some k_ ≠ (.slice Ao73 t226.length co73 : Value).ownBlock ∧ some k_ ≠ (.slice Ao75 t230.length co75 : Value).ownBlock) (Kd.R_keptB (HO_208000.out) hkp (fun k_ hk_ hs_ => (hk_.1.1.1.2.1) hs_)) (fun k_ hk_ => ⟨hk_.1.1.1.1.1, hk_.1.1.1.1.2.1, hk_.1.1.1.1.2.2.1, hk_.1.1.1.1.2.2.2, hk_.1.1.1.2, hk_.1.1.2, hk_.1.2⟩)); have n5_ := Aside0.mk (Kd.S_mono (ok' := fun k_ => some k_ ≠ (v198 : Value).ownBlock ∧ some k_ ≠ (.slice Ao44 t208.length co44 : Value).ownBlock ∧ some k_ ≠ (.slice Ao45 t211.length co45 : Value).ownBlock ∧ some k_ ≠ (v215 : Value).ownBlock ∧ some k_ ≠ (.slice Ao37 t201.length co37 : Value).ownBlock ∧ some k_ ≠ (.slice Ao69 t219.length co69 : Value).ownBlock ∧ some k_ ≠ (.slice Ao73 t226.length co73 : Value).ownBlock ∧ some k_ ≠ (.slice Ao75 t230.length co75 : Value).ownBlock) (Kd.S_keptB (HO_208001.out) hkp (fun k_ hk_ hs_ => (hk_.2.1) hs_)) (fun k_ hk_ => ⟨hk_.1.1, hk_.1.2.1, hk_.1.2.2.1, hk_.1.2.2.2.1, hk_.1.2.2.2.2.1, hk_.1.2.2.2.2.2.1, hk_.1.2.2.2.2.2.2.2.1, hk_.1.2.2.2.2.2.2.2.2⟩)); have n6_ := Aside0.mk (blk_kept (by (with_reducible repeat (first | refine blk_drewN ?_ _ | refine blk_drew ?_ | refine blk_alloc ?_ _)); exact BK183.out) hkp (fun hs_ => (fun e_ => (Kd.R_ne HO_11.out BK183.out (by decide)) e_) hs_)); have n7_ := Aside0.mk (blk_kept (by (with_reducible repeat (first | refine blk_drewN ?_ _ | refine blk_drew ?_ | refine blk_alloc ?_ _)); exact BK207.out) hkp (fun hs_ => (fun e_ => (Kd.R_ne HO_11.out BK207.out (by decide)) e_) hs_)); have n8_ := Aside0.mk (Kd.R_mono (ok' := fun k_ => some k_ ≠ (v198 : Value).ownBlock ∧ some k_ ≠ (.slice Ao44 t208.length co44 : Value).ownBlock ∧ some k_ ≠ (.slice Ao45 t211.length co45 : Value).ownBlock ∧ some k_ ≠ (v215 : Value).ownBlock ∧ some k_ ≠ (.slice Ao37 t201.length co37 : Value).ownBlock ∧ some k_ ≠ (.slice Ao73 t226.length co73 : Value).ownBlock ∧ some k_ ≠ (.slice Ao75 t230.length co75 : Value).ownBlock) (Kd.R_keptB (HO221.out) hkp (fun k_ hk_ hs_ => (hk_.2.1) hs_)) (fun k_ hk_ => ⟨hk_.1.1, hk_.1.2.1, hk_.1.2.2.1, hk_.1.2.2.2.1, hk_.1.2.2.2.2.1, hk_.1.2.2.2.2.2.1, hk_.1.2.2.2.2.2.2⟩)); have n9_ := Aside0.mk (Kd.R_mono (ok' := fun k_ => some k_ ≠ (v198 : Value).ownBlock ∧ some k_ ≠ (.slice Ao44 t208.length co44 : Value).ownBlock ∧ some k_ ≠ (.slice Ao45 t211.length co45 : Value).ownBlock ∧ some k_ ≠ (v215 : Value).ownBlock ∧ some k_ ≠ (.slice Ao37 t201.length co37 : Value).ownBlock ∧ some k_ ≠ (.slice Ao69 t219.length co69 : Value).ownBlock ∧ some k_ ≠ (.slice Ao75 t230.length co75 : Value).ownBlock) (Kd.R_keptB (HO228.out) hkp (fun k_ hk_ hs_ => (hk_.2.1) hs_)) (fun k_ hk_ => ⟨hk_.1.1, hk_.1.2.1, hk_.1.2.2.1, hk_.1.2.2.2.1, hk_.1.2.2.2.2.1, hk_.1.2.2.2.2.2.1, hk_.1.2.2.2.2.2.2⟩)); have n10_ := Aside0.mk (Kd.R_mono (ok' := fun k_ => some k_ ≠ (v198 : Value).ownBlock ∧ some k_ ≠ (.slice Ao44 t208.length co44 : Value).ownBlock ∧ some k_ ≠ (.slice Ao45 t211.length co45 : Value).ownBlock ∧ some k_ ≠ (v215 : Value).ownBlock ∧ some k_ ≠ (.slice Ao37 t201.length co37 : Value).ownBlock ∧ some k_ ≠ (.slice Ao69 t219.length co69 : Value).ownBlock ∧ some k_ ≠ (.slice Ao73 t226.length co73 : Value).ownBlock) (Kd.R_keptB (HO232.out) hkp (fun k_ hk_ hs_ => (hk_.2.1) hs_)) (fun k_ hk_ => ⟨hk_.1.1, hk_.1.2.1, hk_.1.2.2.1, hk_.1.2.2.2.1, hk_.1.2.2.2.2.1, hk_.1.2.2.2.2.2.1, hk_.1.2.2.2.2.2.2⟩)); have n11_ := Aside0.mk (hb); clear HO_8; clear HO_11; clear HO_12; clear HO_13; clear HO_208000; clear HO_208001; clear BK183; clear BK207; clear HO221; clear HO228; clear HO232; clear HB; have HO_8 := n0_; have HO_11 := n1_; have HO_12 := n2_; have HO_13 := n3_; have HO_208000 := n4_; have HO_208001 := n5_; have BK183 := n6_; have BK207 := n7_; have HO221 := n8_; have HO228 := n9_; have HO232 := n10_; have HB := n11_; clear n0_ n1_ n2_ n3_ n4_ n5_ n6_ n7_ n8_ n9_ n10_ n11_; (try clear hb); (try clear hkp); (try clear hy0)) | ((with_reducible refine gate_callee (f := 37) rfl ?_); refine goesL_ (some 86) rfl rfl Try.func37 (by kernel_rfl) rfl #[.slice Ao45 t211.length co45, .int .i64 t237] rfl (by (try simp only [List.map_toArray, List.map_cons, List.map_nil]); first | done | rfl | (simp only [List.length_drop, List.length_take]; rfl)) ?_; (with_reducible refine (laws_markInt64S.calls kj20 (fun k_ => some k_ = (.slice Ao45 t211.length co45 : Value).ownBlock) (.slice Ao45 t211.length co45) t211 t237 t239 t240 w _ ?side1 ?side2 A65.out).mono ?_); (case side1 => repeat (first | (with_reducible first | exact HB.out | apply below_alloc | apply pw_below_drewN | apply below_drew1 | refine below_set ?_ GE183.out | refine below_set ?_ GE207.out) | exact HB.out)); (case side2 => exact Kd.R_tight rfl HO_12.out); rintro e w80 ⟨rfl, hy0, hb, hkp⟩; refine ⟨_, rfl, ?_⟩; have n0_ := Aside0.mk (Kd.R_mono (ok' := fun k_ => some k_ ≠ (.slice Ao44 t208.length co44 : Value).ownBlock ∧ some k_ ≠ (.slice Ao45 t211.length co45 : Value).ownBlock ∧ some k_ ≠ (v215 : Value).ownBlock ∧ some k_ ≠ (.slice Ao37 t201.length co37 : Value).ownBlock ∧ some k_ ≠ (.slice Ao69 t219.length co69 : Value).ownBlock ∧ some k_ ≠ (.slice Ao73 t226.length co73 : Value).ownBlock ∧ some k_ ≠ (.slice Ao75 t230.length co75 : Value).ownBlock) (Kd.R_keptB (HO_8.out) hkp (fun k_ hk_ hs_ => (hk_.2.1) hs_)) (fun k_ hk_ => ⟨hk_.1.1, hk_.1.2.1, hk_.1.2.2.1, hk_.1.2.2.2.1, hk_.1.2.2.2.2.1, hk_.1.2.2.2.2.2.1, hk_.1.2.2.2.2.2.2⟩)); have n1_ := Aside0.mk (Kd.R_mono (ok' := fun k_ => some k_ ≠ (v198 : Value).ownBlock ∧ some k_ ≠ (.slice Ao45 t211.length co45 : Value).ownBlock ∧ some k_ ≠ (v215 : Value).ownBlock ∧ some k_ ≠ (.slice Ao37 t201.length co37 : Value).ownBlock ∧ some k_ ≠ (.slice Ao69 t219.length co69 : Value).ownBlock ∧ some k_ ≠ (.slice Ao73 t226.length co73 : Value).ownBlock ∧ some k_ ≠ (.slice Ao75 t230.length co75 : Value).ownBlock) (Kd.R_keptB (HO_11.out) hkp (fun k_ hk_ hs_ => (hk_.2.1) hs_)) (fun k_ hk_ => ⟨hk_.1.1, hk_.1.2.1, hk_.1.2.2.1, hk_.1.2.2.2.1, hk_.1.2.2.2.2.1, hk_.1.2.2.2.2.2.1, hk_.1.2.2.2.2.2.2⟩)); have n2_ := Aside0.mk (Kd.R_reok rfl hy0 (fun k_ e_ => HO_12.out.1 k_ e_)); have n3_ := Aside0.mk (Kd.R_mono (ok' := fun k_ => some k_ ≠ (v198 : Value).ownBlock ∧ some k_ ≠ (.slice Ao44 t208.length co44 : Value).ownBlock ∧ some k_ ≠ (.slice Ao45 t211.length co45 : Value).ownBlock ∧ some k_ ≠ (.slice Ao37 t201.length co37 : Value).ownBlock ∧ some k_ ≠ (.slice Ao69 t219.length co69 : Value).ownBlock ∧ some k_ ≠ (.slice Ao73 t226.length co73 : Value).ownBlock ∧ some k_ ≠ (.slice Ao75 t230.length co75 : Value).ownBlock) (Kd.R_keptB (HO_13.out) hkp (fun k_ hk_ hs_ => (hk_.2.2.1) hs_)) (fun k_ hk_ => ⟨hk_.1.1, hk_.1.2.1, hk_.1.2.2.1, hk_.1.2.2.2.1, hk_.1.2.2.2.2.1, hk_.1.2.2.2.2.2.1, hk_.1.2.2.2.2.2.2⟩)); have n4_ := Aside0.mk (Kd.R_mono (ok' := fun k_ => some k_ ≠ (v198 : Value).ownBlock ∧ some k_ ≠ (.slice Ao44 t208.length co44 : Value).ownBlock ∧ some k_ ≠ (.slice Ao45 t211.length co45 : Value).ownBlock ∧ some k_ ≠ (v215 : Value).ownBlock ∧ some k_ ≠ (.slice Ao69 t219.length co69 : Value).ownBlock ∧ some k_ ≠ (.slice Ao73 t226.length co73 : Value).ownBlock ∧ some k_ ≠ (.slice Ao75 t230.length co75 : Value).ownBlock) (Kd.R_keptB (HO_208000.out) hkp (fun k_ hk_ hs_ => (hk_.2.2.1) hs_)) (fun k_ hk_ => ⟨hk_.1.1, hk_.1.2.1, hk_.1.2.2.1, hk_.1.2.2.2.1, hk_.1.2.2.2.2.1, hk_.1.2.2.2.2.2.1, hk_.1.2.2.2.2.2.2⟩)); have n5_ := Aside0.mk (Kd.S_mono (ok' := fun k_ => some k_ ≠ (v198 : Value).ownBlock ∧ some k_ ≠ (.slice Ao44 t208.length co44 : Value).ownBlock ∧ some k_ ≠ (.slice Ao45 t211.length co45 : Value).ownBlock ∧ some k_ ≠ (v215 : Value).ownBlock ∧ some k_ ≠ (.slice Ao37 t201.length co37 : Value).ownBlock ∧ some k_ ≠ (.slice Ao69 t219.length co69 : Value).ownBlock ∧ some k_ ≠ (.slice Ao73 t226.length co73 : Value).ownBlock ∧ some k_ ≠ (.slice Ao75 t230.length co75 : Value).ownBlock) (Kd.S_keptB (HO_208001.out) hkp (fun k_ hk_ hs_ => (hk_.2.2.1) hs_)) (fun k_ hk_ => ⟨hk_.1.1, hk_.1.2.1, hk_.1.2.2.1, hk_.1.2.2.2.1, hk_.1.2.2.2.2.1, hk_.1.2.2.2.2.2.1, hk_.1.2.2.2.2.2.2.1, hk_.1.2.2.2.2.2.2.2⟩)); have n6_ := Aside0.mk (blk_kept (by (with_reducible repeat (first | refine blk_drewN ?_ _ | refine blk_drew ?_ | refine blk_alloc ?_ _)); exact BK183.out) hkp (fun hs_ => (fun e_ => (Kd.R_ne HO_12.out BK183.out (by decide)) e_) hs_)); have n7_ := Aside0.mk (blk_kept (by (with_reducible repeat (first | refine blk_drewN ?_ _ | refine blk_drew ?_ | refine blk_alloc ?_ _)); exact BK207.out) hkp (fun hs_ => (fun e_ => (Kd.R_ne HO_12.out BK207.out (by decide)) e_) hs_)); have n8_ := Aside0.mk (Kd.R_mono (ok' := fun k_ => some k_ ≠ (v198 : Value).ownBlock ∧ some k_ ≠ (.slice Ao44 t208.length co44 : Value).ownBlock ∧ some k_ ≠ (.slice Ao45 t211.length co45 : Value).ownBlock ∧ some k_ ≠ (v215 : Value).ownBlock ∧ some k_ ≠ (.slice Ao37 t201.length co37 : Value).ownBlock ∧ some k_ ≠ (.slice Ao73 t226.length co73 : Value).ownBlock ∧ some k_ ≠ (.slice Ao75 t230.length co75 : Value).ownBlock) (Kd.R_keptB (HO221.out) hkp (fun k_ hk_ hs_ => (hk_.2.2.1) hs_)) (fun k_ hk_ => ⟨hk_.1.1, hk_.1.2.1, hk_.1.2.2.1, hk_.1.2.2.2.1, hk_.1.2.2.2.2.1, hk_.1.2.2.2.2.2.1, hk_.1.2.2.2.2.2.2⟩)); have n9_ := Aside0.mk (Kd.R_mono (ok' := fun k_ => some k_ ≠ (v198 : Value).ownBlock ∧ some k_ ≠ (.slice Ao44 t208.length co44 : Value).ownBlock ∧ some k_ ≠ (.slice Ao45 t211.length co45 : Value).ownBlock ∧ some k_ ≠ (v215 : Value).ownBlock ∧ some k_ ≠ (.slice Ao37 t201.length co37 : Value).ownBlock ∧ some k_ ≠ (.slice Ao69 t219.length co69 : Value).ownBlock ∧ some k_ ≠ (.slice Ao75 t230.length co75 : Value).ownBlock) (Kd.R_keptB (HO228.out) hkp (fun k_ hk_ hs_ => (hk_.2.2.1) hs_)) (fun k_ hk_ => ⟨hk_.1.1, hk_.1.2.1, hk_.1.2.2.1, hk_.1.2.2.2.1, hk_.1.2.2.2.2.1, hk_.1.2.2.2.2.2.1, hk_.1.2.2.2.2.2.2⟩)); have n10_ := Aside0.mk (Kd.R_mono (ok' := fun k_ => some k_ ≠ (v198 : Value).ownBlock ∧ some k_ ≠ (.slice Ao44 t208.length co44 : Value).ownBlock ∧ some k_ ≠ (.slice Ao45 t211.length co45 : Value).ownBlock ∧ some k_ ≠ (v215 : Value).ownBlock ∧ some k_ ≠ (.slice Ao37 t201.length co37 : Value).ownBlock ∧ some k_ ≠ (.slice Ao69 t219.length co69 : Value).ownBlock ∧ some k_ ≠ (.slice Ao73 t226.length co73 : Value).ownBlock) (Kd.R_keptB (HO232.out) hkp (fun k_ hk_ hs_ => (hk_.2.2.1) hs_)) (fun k_ hk_ => ⟨hk_.1.1, hk_.1.2.1, hk_.1.2.2.1, hk_.1.2.2.2.1, hk_.1.2.2.2.2.1, hk_.1.2.2.2.2.2.1, hk_.1.2.2.2.2.2.2⟩)); have n11_ := Aside0.mk (hb); clear HO_8; clear HO_11; clear HO_12; clear HO_13; clear HO_208000; clear HO_208001; clear BK183; clear BK207; clear HO221; clear HO228; clear HO232; clear HB; have HO_8 := n0_; have HO_11 := n1_; have HO_12 := n2_; have HO_13 := n3_; have HO_208000 := n4_; have HO_208001 := n5_; have BK183 := n6_; have BK207 := n7_; have HO221 := n8_; have HO228 := n9_; have HO232 := n10_; have HB := n11_; clear n0_ n1_ n2_ n3_ n4_ n5_ n6_ n7_ n8_ n9_ n10_ n11_; (try clear hb); (try clear hkp); (try clear hy0)))
                    (try simp only [Act.put, List.setIfInBounds_toArray, List.set_cons_zero, List.set_cons_succ])
                    go_cut [99] (fun v99 wc => ∃ (kq : Nat) (x99_65 : Bool), v99 = .bool x99_65 ∧ Aside0 (laws_FnExactTurnsNeeded.j1 kq l1 l2 t197 t200 t214 x99_65 l0_0 l0_1 = some r) ∧ Aside0 (kq ≤ kj20) ∧ Aside0 (Kd.R (Kd.int .i64) 2 wc w.heap.size (fun k_ => some k_ ≠ (v215 : Value).ownBlock ∧ some k_ ≠ ((.slice Ao37 t201.length co37) : Value).ownBlock) v198 t197) ∧ Aside0 (Kd.R (Kd.int .i64) 2 wc w.heap.size (fun k_ => some k_ ≠ (v198 : Value).ownBlock ∧ some k_ ≠ ((.slice Ao37 t201.length co37) : Value).ownBlock) v215 t214) ∧ Aside0 (Kd.R (Kd.int .i64) 2 wc w.heap.size (fun k_ => some k_ ≠ (v198 : Value).ownBlock ∧ some k_ ≠ (v215 : Value).ownBlock) (.slice Ao37 t201.length co37) t235) ∧ Aside0 (Kd.S (Kd.slice 2 (Kd.int .i64)) 24 wc w.heap.size (fun k_ => some k_ ≠ (v198 : Value).ownBlock ∧ some k_ ≠ (v215 : Value).ownBlock ∧ some k_ ≠ ((.slice Ao37 t201.length co37) : Value).ownBlock) (.slice Ao40 t204.length co40) t236) ∧ Aside0 (wc.heap[gb183]? = some (.cells #[(.slice A0_0 l0_0.length c0_0), (.slice A0_1 l0_1.length c0_1)] 38 (0, 0))) ∧ Aside0 (wc.heap[gb207]? = some (.cells #[(.slice Ao37 t201.length co37), (.slice Ao40 t204.length co40)] 27 (0, 0))) ∧ Aside0 (Below w.heap.size w wc))
                    case first =>
                      have H := HC66.out
                      clear HC66
                      by_cases c81 : t239 < 0
                      · rw [if_pos c81] at H
                        have c81b0 : decide (t239 < 0) = true := decide_eq_true c81
                        clear c81
                        (first | rw [c81b0] | (simp only [i64_w, i32_w]; rw [c81b0]) | skip)
                        exact (laws_FnExactTurnsNeeded.j1_cut _ _ _ _ _ _ _ _ _ H HRT.out).elim
                      · rw [if_neg c81] at H
                        have c81b0 : decide (t239 < 0) = false := decide_eq_false c81
                        clear c81
                        (first | rw [c81b0] | (simp only [i64_w, i32_w]; rw [c81b0]) | skip)
                        replace H := Option.bind_eq_some_iff.mp H
                        obtain ⟨t241, A820, H⟩ := H
                        replace H : (if t241 = true then (laws_FnExactTurnsNeeded.j1 kj20 l1 l2 t197 t200 t214 (t217 != t200) l0_0 l0_1) else (laws_FnExactTurnsNeeded.j1 kj20 l1 l2 t197 t200 t214 true l0_0 l0_1)) = some r := H
                        have A82 := Aside0.mk A820
                        clear A820
                        by_cases c83 : t241 = true
                        · subst c83
                          have H1 : (laws_FnExactTurnsNeeded.j1 kj20 l1 l2 t197 t200 t214 (t217 != t200) l0_0 l0_1) = some r := by rw [if_pos rfl] at H; exact H
                          clear H
                          have H := H1
                          clear H1
                          have H' := Aside0.mk H
                          clear H
                          obtain ⟨Ao84, co84, eo84⟩ := Kd.R_slice HO_13.out
                          subst eo84
                          obtain ⟨Ao85, co85, eo85⟩ := Kd.R_slice HO_8.out
                          subst eo85
                          go_wp2_with (first | (go_at_call 33; (with_reducible refine (laws_eqInt64S.calls kj20 _ _ t214 _ _ t197 true _ ?side1 ?side2 ?side3 ?side4 A82.out).mono ?_); (case side1 => repeat (first | exact (Kd.R_reads' HO_13.out).2.2 | (with_reducible refine Kd.C_alloc ?_ _) | (with_reducible refine Kd.C_drewN ?_ _) | (with_reducible refine Kd.C_drew ?_))); (case side2 => exact (Kd.R_reads' HO_13.out).2.1); (case side3 => repeat (first | exact (Kd.R_reads' HO_8.out).2.2 | (with_reducible refine Kd.C_alloc ?_ _) | (with_reducible refine Kd.C_drewN ?_ _) | (with_reducible refine Kd.C_drew ?_))); (case side4 => exact (Kd.R_reads' HO_8.out).2.1); rintro e w' ⟨rfl, ⟨nd, rfl⟩⟩))
                          go_meet
                          case rel => exact ⟨_, ((t217 != t200)), (by first | rfl | (simp; done) | (simp [*]; done)), H', ⟨by have := HJ20.out; first | omega | exact Nat.le_refl _⟩, ⟨by (with_reducible repeat (first | apply Kd.R_alloc | apply Kd.R_drewN | apply Kd.R_drew)); exact Kd.R_mono HO_8.out (fun _ hk => ⟨hk.2.2.1, hk.2.2.2.1⟩)⟩, ⟨by (with_reducible repeat (first | apply Kd.R_alloc | apply Kd.R_drewN | apply Kd.R_drew)); exact Kd.R_mono HO_13.out (fun _ hk => ⟨hk.1, hk.2.2.2.1⟩)⟩, ⟨by (with_reducible repeat (first | apply Kd.R_alloc | apply Kd.R_drewN | apply Kd.R_drew)); exact Kd.R_mono HO_208000.out (fun _ hk => ⟨hk.1, hk.2.2.2.1⟩)⟩, ⟨by (with_reducible repeat (first | apply Kd.S_alloc | apply Kd.S_drewN | apply Kd.S_drew)); exact Kd.S_mono HO_208001.out (fun _ hk => ⟨hk.1, ⟨hk.2.2.2.1, hk.2.2.2.2.1⟩⟩)⟩, ⟨by (with_reducible repeat (first | refine blk_drewN ?_ _ | refine blk_drew ?_ | refine blk_alloc ?_ _)); exact BK183.out⟩, ⟨by (with_reducible repeat (first | refine blk_drewN ?_ _ | refine blk_drew ?_ | refine blk_alloc ?_ _)); exact BK207.out⟩, ⟨by repeat (first | (with_reducible first | exact HB.out | apply below_alloc | apply pw_below_drewN | apply below_drew1 | refine below_set ?_ GE183.out | refine below_set ?_ GE207.out) | exact HB.out)⟩⟩
                        · replace c83 := Bool.eq_false_iff.mpr c83
                          subst c83
                          have H1 : (laws_FnExactTurnsNeeded.j1 kj20 l1 l2 t197 t200 t214 true l0_0 l0_1) = some r := by rw [if_neg (show ¬ (false = true) by decide)] at H; exact H
                          clear H
                          have H := H1
                          clear H1
                          exact (laws_FnExactTurnsNeeded.j1_cut _ _ _ _ _ _ _ _ _ H HRT.out).elim
                    case rest =>
                      clear HC66
                      try clear c1
                      try clear c2
                      try clear p2
                      try clear c3
                      try clear c4
                      try clear c4b0
                      try clear c4b1
                      try clear c5
                      try clear c6
                      try clear c6b0
                      try clear c6b1
                      try clear c7
                      try clear c8
                      try clear c9
                      try clear c9b0
                      try clear c13
                      try clear c23
                      try clear c24
                      try clear c26
                      try clear c28
                      try clear c32
                      try clear c33
                      try clear c36
                      try clear c37
                      try clear c38
                      try clear c45
                      try clear c48
                      try clear c53
                      try clear c56
                      try clear c59
                      try clear c62
                      try clear c76
                      try clear c81
                      try clear c81b0
                      try clear c83
                      try clear hcz11_0
                      try clear hcz11_1
                      try clear hcz23_0
                      try clear hcz23_1
                      try clear hcz25_0
                      try clear hcz25_1
                      try clear hcz34_0
                      try clear hcz34_1
                      try clear hcz39_0
                      try clear hcz39_1
                      try clear hcz43_0
                      try clear hcz43_1
                      try clear hcz77_0
                      try clear hcz77_1
                      try clear hfz11_0
                      try clear hfz11_1
                      try clear hfz23_0
                      try clear hfz23_1
                      try clear hfz25_0
                      try clear hfz25_1
                      try clear hfz34_0
                      try clear hfz34_1
                      try clear hfz39_0
                      try clear hfz39_1
                      try clear hfz43_0
                      try clear hfz43_1
                      try clear hfz77_0
                      try clear hfz77_1
                      try clear p2
                      obtain ⟨kq, x99_65, rfl, HA, HJ65, HO_8, HO_13, HO_208000, HO_208001, BK183, BK207, HB⟩ := hcut
                      have hl208000_65 := (Kd.R_reads' HO_208000.out).1
                      rw [hl208000_65] at HO_208000
                      (try simp only [hl208000_65])
                      (try simp only [hl208000_65] at BK183)
                      (try simp only [hl208000_65] at BK207)
                      (try simp only [hl208000_65] at HO_8)
                      (try simp only [hl208000_65] at HO_13)
                      (try simp only [hl208000_65] at HO_208001)
                      have hl208001_65 := (Kd.S_reads' HO_208001.out).1
                      rw [hl208001_65] at HO_208001
                      (try simp only [hl208001_65])
                      (try simp only [hl208001_65] at BK183)
                      (try simp only [hl208001_65] at BK207)
                      (try simp only [hl208001_65] at HO_8)
                      (try simp only [hl208001_65] at HO_13)
                      (try simp only [hl208001_65] at HO_208000)
                      cases kq with
                      | zero => exact absurd HA.out (by simp [laws_FnExactTurnsNeeded.j1])
                      | succ kj65 =>
                        have H := HA.out
                        clear HA
                        simp only [laws_FnExactTurnsNeeded.j1] at H
                        by_cases c88 : x99_65 = true
                        · subst c88
                          have H1 : (some false) = some r := by rw [if_pos rfl] at H; exact H
                          clear H
                          have H := H1
                          clear H1
                          obtain rfl := Option.some.inj H
                          exact absurd HRT.out (by decide)
                        · replace c88 := Bool.eq_false_iff.mpr c88
                          subst c88
                          have H1 : ((laws_markInt64S.f kj65 t214 1).bind fun bt242 => ((laws_heldInt64S.f kj65 bt242.2 1).bind fun t244 => (if t244 < 0 then (some false) else (if t244 = bt242.1 then ((laws_toTuning.f kj65 l0_0 l0_1).bind fun bt245 => ((laws_toInt64S.f kj65 l1).bind fun t251 => ((laws_toInt64S.f kj65 l2).bind fun t254 => ((impl_TurnsNeeded.f kj65 bt245.1 bt245.2 t251 t254).bind fun bt257 => ((laws_eqInt64S.f kj65 bt257.1 t197).bind fun t261 => (if t261 = true then (laws_FnExactTurnsNeeded.j2 kj65 bt242.2 bt242.1 (bt257.2 != t200)) else (laws_FnExactTurnsNeeded.j2 kj65 bt242.2 bt242.1 true))))))) else (some false))))) = some r := by rw [if_neg (show ¬ (false = true) by decide)] at H; exact H
                          clear H
                          have H := H1
                          clear H1
                          replace H := Option.bind_eq_some_iff.mp H
                          obtain ⟨⟨t242, t243⟩, A890, H⟩ := H
                          replace H : ((laws_heldInt64S.f kj65 t243 1).bind fun t244 => (if t244 < 0 then (some false) else (if t244 = t242 then ((laws_toTuning.f kj65 l0_0 l0_1).bind fun bt245 => ((laws_toInt64S.f kj65 l1).bind fun t251 => ((laws_toInt64S.f kj65 l2).bind fun t254 => ((impl_TurnsNeeded.f kj65 bt245.1 bt245.2 t251 t254).bind fun bt257 => ((laws_eqInt64S.f kj65 bt257.1 t197).bind fun t261 => (if t261 = true then (laws_FnExactTurnsNeeded.j2 kj65 t243 t242 (bt257.2 != t200)) else (laws_FnExactTurnsNeeded.j2 kj65 t243 t242 true))))))) else (some false)))) = some r := H
                          have A89 := Aside0.mk A890
                          clear A890
                          replace H := Option.bind_eq_some_iff.mp H
                          obtain ⟨t244, A900, H⟩ := H
                          replace H : (if t244 < 0 then (some false) else (if t244 = t242 then ((laws_toTuning.f kj65 l0_0 l0_1).bind fun bt245 => ((laws_toInt64S.f kj65 l1).bind fun t251 => ((laws_toInt64S.f kj65 l2).bind fun t254 => ((impl_TurnsNeeded.f kj65 bt245.1 bt245.2 t251 t254).bind fun bt257 => ((laws_eqInt64S.f kj65 bt257.1 t197).bind fun t261 => (if t261 = true then (laws_FnExactTurnsNeeded.j2 kj65 t243 t242 (bt257.2 != t200)) else (laws_FnExactTurnsNeeded.j2 kj65 t243 t242 true))))))) else (some false))) = some r := H
                          have A90 := Aside0.mk A900
                          clear A900
                          by_cases c91 : t244 < 0
                          · rw [if_pos c91] at H
                            have c91b0 : decide (t244 < 0) = true := decide_eq_true c91
                            clear c91
                            obtain rfl := Option.some.inj H
                            exact absurd HRT.out (by decide)
                          · rw [if_neg c91] at H
                            have c91b0 : decide (t244 < 0) = false := decide_eq_false c91
                            clear c91
                            by_cases c94 : t244 = t242
                            · rw [if_pos c94] at H
                              have c94b0 : (t244 == t242) = true := beq_iff_eq.mpr c94
                              have c94b1 : (t244 != t242) = false := bne_eq_false_iff_eq.mpr c94
                              clear c94
                              replace H := Option.bind_eq_some_iff.mp H
                              obtain ⟨⟨t245, t248⟩, A950, H⟩ := H
                              replace H : ((laws_toInt64S.f kj65 l1).bind fun t251 => ((laws_toInt64S.f kj65 l2).bind fun t254 => ((impl_TurnsNeeded.f kj65 t245 t248 t251 t254).bind fun bt257 => ((laws_eqInt64S.f kj65 bt257.1 t197).bind fun t261 => (if t261 = true then (laws_FnExactTurnsNeeded.j2 kj65 t243 t242 (bt257.2 != t200)) else (laws_FnExactTurnsNeeded.j2 kj65 t243 t242 true)))))) = some r := H
                              have A95 := Aside0.mk A950
                              clear A950
                              replace H := Option.bind_eq_some_iff.mp H
                              obtain ⟨t251, A960, H⟩ := H
                              replace H : ((laws_toInt64S.f kj65 l2).bind fun t254 => ((impl_TurnsNeeded.f kj65 t245 t248 t251 t254).bind fun bt257 => ((laws_eqInt64S.f kj65 bt257.1 t197).bind fun t261 => (if t261 = true then (laws_FnExactTurnsNeeded.j2 kj65 t243 t242 (bt257.2 != t200)) else (laws_FnExactTurnsNeeded.j2 kj65 t243 t242 true))))) = some r := H
                              have A96 := Aside0.mk A960
                              clear A960
                              replace H := Option.bind_eq_some_iff.mp H
                              obtain ⟨t254, A970, H⟩ := H
                              replace H : ((impl_TurnsNeeded.f kj65 t245 t248 t251 t254).bind fun bt257 => ((laws_eqInt64S.f kj65 bt257.1 t197).bind fun t261 => (if t261 = true then (laws_FnExactTurnsNeeded.j2 kj65 t243 t242 (bt257.2 != t200)) else (laws_FnExactTurnsNeeded.j2 kj65 t243 t242 true)))) = some r := H
                              have A97 := Aside0.mk A970
                              clear A970
                              replace H := Option.bind_eq_some_iff.mp H
                              obtain ⟨⟨t257, t260⟩, A980, H⟩ := H
                              replace H : ((laws_eqInt64S.f kj65 t257 t197).bind fun t261 => (if t261 = true then (laws_FnExactTurnsNeeded.j2 kj65 t243 t242 (t260 != t200)) else (laws_FnExactTurnsNeeded.j2 kj65 t243 t242 true))) = some r := H
                              have A98 := Aside0.mk A980
                              clear A980
                              have HC99 := Aside0.mk H
                              clear H
                              obtain ⟨Ao100, co100, eo100⟩ := Kd.R_slice HO_13.out
                              subst eo100
                              go_upto_region 37 with (first | ((with_reducible refine gate_callee (f := 37) rfl ?_); refine goesL_ (some 102) rfl rfl Try.func37 (by kernel_rfl) rfl #[.slice Ao100 t214.length co100, .int .i64 1] rfl (by (try simp only [List.map_toArray, List.map_cons, List.map_nil]); first | done | rfl | (simp only [List.length_drop, List.length_take]; rfl)) ?_; (with_reducible refine (laws_markInt64S.calls kj65 (fun k_ => some k_ = (.slice Ao100 t214.length co100 : Value).ownBlock) (.slice Ao100 t214.length co100) t214 1 t242 t243 w _ ?side1 ?side2 A89.out).mono ?_); (case side1 => repeat (first | (with_reducible first | exact HB.out | apply below_alloc | apply pw_below_drewN | apply below_drew1 | refine below_set ?_ GE183.out | refine below_set ?_ GE207.out) | exact HB.out)); (case side2 => exact Kd.R_tight rfl HO_13.out); rintro e w101 ⟨rfl, hy0, hb, hkp⟩; refine ⟨_, rfl, ?_⟩; have n0_ := Aside0.mk (Kd.R_mono (ok' := fun k_ => some k_ ≠ (.slice Ao100 t214.length co100 : Value).ownBlock ∧ some k_ ≠ (.slice Ao37 t235.length co37 : Value).ownBlock) (Kd.R_keptB (HO_8.out) hkp (fun k_ hk_ hs_ => (hk_.1) hs_)) (fun k_ hk_ => ⟨hk_.1.1, hk_.1.2⟩)); have n1_ := Aside0.mk (Kd.R_reok rfl hy0 (fun k_ e_ => HO_13.out.1 k_ e_)); have n2_ := Aside0.mk (Kd.R_mono (ok' := fun k_ => some k_ ≠ (v198 : Value).ownBlock ∧ some k_ ≠ (.slice Ao100 t214.length co100 : Value).ownBlock) (Kd.R_keptB (HO_208000.out) hkp (fun k_ hk_ hs_ => (hk_.2) hs_)) (fun k_ hk_ => ⟨hk_.1.1, hk_.1.2⟩)); have n3_ := Aside0.mk (Kd.S_mono (ok' := fun k_ => some k_ ≠ (v198 : Value).ownBlock ∧ some k_ ≠ (.slice Ao100 t214.length co100 : Value).ownBlock ∧ some k_ ≠ (.slice Ao37 t235.length co37 : Value).ownBlock) (Kd.S_keptB (HO_208001.out) hkp (fun k_ hk_ hs_ => (hk_.2.1) hs_)) (fun k_ hk_ => ⟨hk_.1.1, hk_.1.2.1, hk_.1.2.2⟩)); have n4_ := Aside0.mk (blk_kept (by (with_reducible repeat (first | refine blk_drewN ?_ _ | refine blk_drew ?_ | refine blk_alloc ?_ _)); exact BK183.out) hkp (fun hs_ => (fun e_ => (Kd.R_ne HO_13.out BK183.out (by decide)) e_) hs_)); have n5_ := Aside0.mk (blk_kept (by (with_reducible repeat (first | refine blk_drewN ?_ _ | refine blk_drew ?_ | refine blk_alloc ?_ _)); exact BK207.out) hkp (fun hs_ => (fun e_ => (Kd.R_ne HO_13.out BK207.out (by decide)) e_) hs_)); have n6_ := Aside0.mk (hb); clear HO_8; clear HO_13; clear HO_208000; clear HO_208001; clear BK183; clear BK207; clear HB; have HO_8 := n0_; have HO_13 := n1_; have HO_208000 := n2_; have HO_208001 := n3_; have BK183 := n4_; have BK207 := n5_; have HB := n6_; clear n0_ n1_ n2_ n3_ n4_ n5_ n6_; (try clear hb); (try clear hkp); (try clear hy0)) | ((with_reducible refine gate_callee (f := 38) rfl ?_); refine goesL_ (some 105) rfl rfl Try.func38 (by kernel_rfl) rfl #[.slice Ao100 t243.length co100, .int .i64 1] rfl (by (try simp only [List.map_toArray, List.map_cons, List.map_nil]); first | done | (rw [show t243.length = t214.length from (Kd.R_reads' HO_13.out).1.symm] <;> rfl) | rfl | (simp only [List.length_drop, List.length_take]; rfl)) ?_; (with_reducible refine (laws_heldInt64S.calls kj65 _ _ t243 1 t244 _ ?side1 ?side2 A90.out).mono ?_); (case side1 => repeat (first | exact (Kd.R_reads' HO_13.out).2.2 | (with_reducible refine Kd.C_alloc ?_ _) | (with_reducible refine Kd.C_drewN ?_ _) | (with_reducible refine Kd.C_drew ?_))); (case side2 => rw [show t243.length = t214.length from (Kd.R_reads' HO_13.out).1.symm]; exact (Kd.R_reads' HO_13.out).2.1); rintro e w' ⟨rfl, ⟨nd, rfl⟩⟩; refine ⟨_, rfl, ?_⟩; have hnb102 := NB183_207.out; have hnc102 := NB207_183.out; have hcz103_0 : w101.cell? ⟨gb183, 0, none⟩ = some (.slice A0_0 l0_0.length c0_0) := (blk_cell BK183.out 0).trans rfl; have hcz103_1 : w101.cell? ⟨gb183, 1, none⟩ = some (.slice A0_1 l0_1.length c0_1) := (blk_cell BK183.out 1).trans rfl; have hfz103_0 := blk_frozen BK183.out 0; have hfz103_1 := blk_frozen BK183.out 1) | ((with_reducible refine gate_callee (f := 26) rfl ?_); refine goesL_ (some 113) rfl rfl Try.func26 (by kernel_rfl) rfl #[.agg #[.slice A0_0 l0_0.length c0_0, .slice A0_1 l0_1.length c0_1]] rfl (by (try simp only [List.map_toArray, List.map_cons, List.map_nil]); first | done | rfl | (simp only [List.length_drop, List.length_take]; rfl)) ?_; (with_reducible refine (laws_toTuning.calls kj65 _ _ l0_0 _ _ l0_1 t245 t248 _ ?side1 ?side2 ?side3 ?side4 A95.out).mono ?_); (case side1 => repeat (first | exact (Kd.C_below HR0_0.out (by repeat (first | (with_reducible first | exact HB.out | apply below_alloc | apply pw_below_drewN | apply below_drew1 | refine below_set ?_ GE183.out | refine below_set ?_ GE207.out) | exact HB.out))) | (with_reducible refine Kd.C_alloc ?_ _) | (with_reducible refine Kd.C_drewN ?_ _) | (with_reducible refine Kd.C_drew ?_))); (case side2 => exact HC0_0.out); (case side3 => repeat (first | exact (Kd.C_below HR0_1.out (by repeat (first | (with_reducible first | exact HB.out | apply below_alloc | apply pw_below_drewN | apply below_drew1 | refine below_set ?_ GE183.out | refine below_set ?_ GE207.out) | exact HB.out))) | (with_reducible refine Kd.C_alloc ?_ _) | (with_reducible refine Kd.C_drewN ?_ _) | (with_reducible refine Kd.C_drew ?_))); (case side4 => exact HC0_1.out); rintro e w104 ⟨v246, v249, rfl, ho0, ho1, hb⟩; refine ⟨_, rfl, ?_⟩; have n0_ := Aside0.mk (Kd.R_elder' (by (with_reducible repeat (first | apply Kd.R_alloc | apply Kd.R_drewN | apply Kd.R_drew)); exact HO_8.out) (Kd.R_base ho0) hb); have n1_ := Aside0.mk (Kd.R_elder' (by (with_reducible repeat (first | apply Kd.R_alloc | apply Kd.R_drewN | apply Kd.R_drew)); exact HO_13.out) (Kd.R_base ho0) hb); have n2_ := Aside0.mk (Kd.R_elder' (by (with_reducible repeat (first | apply Kd.R_alloc | apply Kd.R_drewN | apply Kd.R_drew)); exact HO_208000.out) (Kd.R_base ho0) hb); have n3_ := Aside0.mk (Kd.S_mono (Kd.S_told (Kd.S_told (Kd.S_old (by (with_reducible repeat (first | apply Kd.S_alloc | apply Kd.S_drewN | apply Kd.S_drew)); exact HO_208001.out) hb) (Kd.R_base ho0)) (Kd.S_base ho1)) (fun _ h_ => h_.1)); have n4_ := Aside0.mk (Kd.R_lower (Kd.R_new' (Kd.R_new' (Kd.R_new' ho0 (Kd.R_lt (by (with_reducible repeat (first | apply Kd.R_alloc | apply Kd.R_drewN | apply Kd.R_drew)); exact HO_8.out))) (Kd.R_lt (by (with_reducible repeat (first | apply Kd.R_alloc | apply Kd.R_drewN | apply Kd.R_drew)); exact HO_13.out))) (Kd.R_lt (by (with_reducible repeat (first | apply Kd.R_alloc | apply Kd.R_drewN | apply Kd.R_drew)); exact HO_208000.out))) (below_size (by repeat (first | (with_reducible first | exact HB.out | apply below_alloc | apply pw_below_drewN | apply below_drew1 | refine below_set ?_ GE183.out | refine below_set ?_ GE207.out) | exact HB.out)))); have n5_ := Aside0.mk (Kd.S_lower (Kd.S_new' (Kd.S_new' (Kd.S_new' (Kd.S_new' ho1 (Kd.R_lt (by (with_reducible repeat (first | apply Kd.R_alloc | apply Kd.R_drewN | apply Kd.R_drew)); exact HO_8.out))) (Kd.R_lt (by (with_reducible repeat (first | apply Kd.R_alloc | apply Kd.R_drewN | apply Kd.R_drew)); exact HO_13.out))) (Kd.R_lt (by (with_reducible repeat (first | apply Kd.R_alloc | apply Kd.R_drewN | apply Kd.R_drew)); exact HO_208000.out))) (Kd.S_lt (by (with_reducible repeat (first | apply Kd.S_alloc | apply Kd.S_drewN | apply Kd.S_drew)); exact HO_208001.out))) (below_size (by repeat (first | (with_reducible first | exact HB.out | apply below_alloc | apply pw_below_drewN | apply below_drew1 | refine below_set ?_ GE183.out | refine below_set ?_ GE207.out) | exact HB.out)))); have n6_ := Aside0.mk (blk_below (g := gb183) (o := .cells #[.slice A0_0 l0_0.length c0_0, .slice A0_1 l0_1.length c0_1] 38 (0, 0)) (by (with_reducible repeat (first | refine blk_drewN ?_ _ | refine blk_drew ?_ | refine blk_alloc ?_ _)); exact BK183.out) hb); have n7_ := Aside0.mk (blk_below (g := gb207) (o := .cells #[.slice Ao37 t235.length co37, .slice Ao40 t236.length co40] 27 (0, 0)) (by (with_reducible repeat (first | refine blk_drewN ?_ _ | refine blk_drew ?_ | refine blk_alloc ?_ _)); exact BK207.out) hb); have n8_ := Aside0.mk (below_step (by repeat (first | (with_reducible first | exact HB.out | apply below_alloc | apply pw_below_drewN | apply below_drew1 | refine below_set ?_ GE183.out | refine below_set ?_ GE207.out) | exact HB.out)) hb); clear HO_8; clear HO_13; clear HO_208000; clear HO_208001; clear BK183; clear BK207; clear HB; have HO_8 := n0_; have HO_13 := n1_; have HO_208000 := n2_; have HO_208001 := n3_; have HO247 := n4_; have HO250 := n5_; have BK183 := n6_; have BK207 := n7_; have HB := n8_; clear n0_ n1_ n2_ n3_ n4_ n5_ n6_ n7_ n8_; (try clear hb); (try clear hb2); (try clear hk); (try clear hi); (try clear ho0); (try clear ho1)) | ((with_reducible refine gate_callee (f := 32) rfl ?_); refine goesL_ (some 115) rfl rfl Try.func32 (by kernel_rfl) rfl #[.slice A1 l1.length c1] rfl (by (try simp only [List.map_toArray, List.map_cons, List.map_nil]); first | done | rfl | (simp only [List.length_drop, List.length_take]; rfl)) ?_; (with_reducible refine (laws_toInt64S.calls kj65 _ _ l1 t251 _ ?side1 ?side2 A96.out).mono ?_); (case side1 => repeat (first | exact (Kd.C_below HR1.out HB.out) | (with_reducible refine Kd.C_alloc ?_ _) | (with_reducible refine Kd.C_drewN ?_ _) | (with_reducible refine Kd.C_drew ?_))); (case side2 => exact HC1.out); rintro e w105 ⟨v252, rfl, ho0, hb⟩; refine ⟨_, rfl, ?_⟩; have n0_ := Aside0.mk (Kd.R_elder' (by (with_reducible repeat (first | apply Kd.R_alloc | apply Kd.R_drewN | apply Kd.R_drew)); exact HO_8.out) (Kd.R_base ho0) hb); have n1_ := Aside0.mk (Kd.R_elder' (by (with_reducible repeat (first | apply Kd.R_alloc | apply Kd.R_drewN | apply Kd.R_drew)); exact HO_13.out) (Kd.R_base ho0) hb); have n2_ := Aside0.mk (Kd.R_elder' (by (with_reducible repeat (first | apply Kd.R_alloc | apply Kd.R_drewN | apply Kd.R_drew)); exact HO_208000.out) (Kd.R_base ho0) hb); have n3_ := Aside0.mk (Kd.S_elder' (by (with_reducible repeat (first | apply Kd.S_alloc | apply Kd.S_drewN | apply Kd.S_drew)); exact HO_208001.out) (Kd.R_base ho0) hb); have n4_ := Aside0.mk (Kd.R_elder' (by (with_reducible repeat (first | apply Kd.R_alloc | apply Kd.R_drewN | apply Kd.R_drew)); exact HO247.out) (Kd.R_base ho0) hb); have n5_ := Aside0.mk (Kd.S_elder' (by (with_reducible repeat (first | apply Kd.S_alloc | apply Kd.S_drewN | apply Kd.S_drew)); exact HO250.out) (Kd.R_base ho0) hb); have n6_ := Aside0.mk (Kd.R_lower (Kd.R_new' (Kd.R_new' (Kd.R_new' (Kd.R_new' ho0 (Kd.R_lt (by (with_reducible repeat (first | apply Kd.R_alloc | apply Kd.R_drewN | apply Kd.R_drew)); exact HO_8.out))) (Kd.R_lt (by (with_reducible repeat (first | apply Kd.R_alloc | apply Kd.R_drewN | apply Kd.R_drew)); exact HO_13.out))) (Kd.R_lt (by (with_reducible repeat (first | apply Kd.R_alloc | apply Kd.R_drewN | apply Kd.R_drew)); exact HO_208000.out))) (Kd.R_lt (by (with_reducible repeat (first | apply Kd.R_alloc | apply Kd.R_drewN | apply Kd.R_drew)); exact HO247.out))) (below_size (by repeat (first | (with_reducible first | exact HB.out | apply below_alloc | apply pw_below_drewN | apply below_drew1 | refine below_set ?_ GE183.out | refine below_set ?_ GE207.out) | exact HB.out)))); have n7_ := Aside0.mk (blk_below (g := gb183) (o := .cells #[.slice A0_0 l0_0.length c0_0, .slice A0_1 l0_1.length c0_1] 38 (0, 0)) (by (with_reducible repeat (first | refine blk_drewN ?_ _ | refine blk_drew ?_ | refine blk_alloc ?_ _)); exact BK183.out) hb); have n8_ := Aside0.mk (blk_below (g := gb207) (o := .cells #[.slice Ao37 t235.length co37, .slice Ao40 t236.length co40] 27 (0, 0)) (by (with_reducible repeat (first | refine blk_drewN ?_ _ | refine blk_drew ?_ | refine blk_alloc ?_ _)); exact BK207.out) hb); have n9_ := Aside0.mk (below_step (by repeat (first | (with_reducible first | exact HB.out | apply below_alloc | apply pw_below_drewN | apply below_drew1 | refine below_set ?_ GE183.out | refine below_set ?_ GE207.out) | exact HB.out)) hb); clear HO_8; clear HO_13; clear HO_208000; clear HO_208001; clear HO247; clear HO250; clear BK183; clear BK207; clear HB; have HO_8 := n0_; have HO_13 := n1_; have HO_208000 := n2_; have HO_208001 := n3_; have HO247 := n4_; have HO250 := n5_; have HO253 := n6_; have BK183 := n7_; have BK207 := n8_; have HB := n9_; clear n0_ n1_ n2_ n3_ n4_ n5_ n6_ n7_ n8_ n9_; (try clear hb); (try clear hb2); (try clear hk); (try clear hi); (try clear ho0)) | ((with_reducible refine gate_callee (f := 32) rfl ?_); refine goesL_ (some 117) rfl rfl Try.func32 (by kernel_rfl) rfl #[.slice A2 l2.length c2] rfl (by (try simp only [List.map_toArray, List.map_cons, List.map_nil]); first | done | rfl | (simp only [List.length_drop, List.length_take]; rfl)) ?_; (with_reducible refine (laws_toInt64S.calls kj65 _ _ l2 t254 _ ?side1 ?side2 A97.out).mono ?_); (case side1 => repeat (first | exact (Kd.C_below HR2.out HB.out) | (with_reducible refine Kd.C_alloc ?_ _) | (with_reducible refine Kd.C_drewN ?_ _) | (with_reducible refine Kd.C_drew ?_))); (case side2 => exact HC2.out); rintro e w106 ⟨v255, rfl, ho0, hb⟩; refine ⟨_, rfl, ?_⟩; have n0_ := Aside0.mk (Kd.R_elder' (by (with_reducible repeat (first | apply Kd.R_alloc | apply Kd.R_drewN | apply Kd.R_drew)); exact HO_8.out) (Kd.R_base ho0) hb); have n1_ := Aside0.mk (Kd.R_elder' (by (with_reducible repeat (first | apply Kd.R_alloc | apply Kd.R_drewN | apply Kd.R_drew)); exact HO_13.out) (Kd.R_base ho0) hb); have n2_ := Aside0.mk (Kd.R_elder' (by (with_reducible repeat (first | apply Kd.R_alloc | apply Kd.R_drewN | apply Kd.R_drew)); exact HO_208000.out) (Kd.R_base ho0) hb); have n3_ := Aside0.mk (Kd.S_elder' (by (with_reducible repeat (first | apply Kd.S_alloc | apply Kd.S_drewN | apply Kd.S_drew)); exact HO_208001.out) (Kd.R_base ho0) hb); have n4_ := Aside0.mk (Kd.R_elder' (by (with_reducible repeat (first | apply Kd.R_alloc | apply Kd.R_drewN | apply Kd.R_drew)); exact HO247.out) (Kd.R_base ho0) hb); have n5_ := Aside0.mk (Kd.S_elder' (by (with_reducible repeat (first | apply Kd.S_alloc | apply Kd.S_drewN | apply Kd.S_drew)); exact HO250.out) (Kd.R_base ho0) hb); have n6_ := Aside0.mk (Kd.R_elder' (by (with_reducible repeat (first | apply Kd.R_alloc | apply Kd.R_drewN | apply Kd.R_drew)); exact HO253.out) (Kd.R_base ho0) hb); have n7_ := Aside0.mk (Kd.R_lower (Kd.R_new' (Kd.R_new' (Kd.R_new' (Kd.R_new' (Kd.R_new' ho0 (Kd.R_lt (by (with_reducible repeat (first | apply Kd.R_alloc | apply Kd.R_drewN | apply Kd.R_drew)); exact HO_8.out))) (Kd.R_lt (by (with_reducible repeat (first | apply Kd.R_alloc | apply Kd.R_drewN | apply Kd.R_drew)); exact HO_13.out))) (Kd.R_lt (by (with_reducible repeat (first | apply Kd.R_alloc | apply Kd.R_drewN | apply Kd.R_drew)); exact HO_208000.out))) (Kd.R_lt (by (with_reducible repeat (first | apply Kd.R_alloc | apply Kd.R_drewN | apply Kd.R_drew)); exact HO247.out))) (Kd.R_lt (by (with_reducible repeat (first | apply Kd.R_alloc | apply Kd.R_drewN | apply Kd.R_drew)); exact HO253.out))) (below_size (by repeat (first | (with_reducible first | exact HB.out | apply below_alloc | apply pw_below_drewN | apply below_drew1 | refine below_set ?_ GE183.out | refine below_set ?_ GE207.out) | exact HB.out)))); have n8_ := Aside0.mk (blk_below (g := gb183) (o := .cells #[.slice A0_0 l0_0.length c0_0, .slice A0_1 l0_1.length c0_1] 38 (0, 0)) (by (with_reducible repeat (first | refine blk_drewN ?_ _ | refine blk_drew ?_ | refine blk_alloc ?_ _)); exact BK183.out) hb); have n9_ := Aside0.mk (blk_below (g := gb207) (o := .cells #[.slice Ao37 t235.length co37, .slice Ao40 t236.length co40] 27 (0, 0)) (by (with_reducible repeat (first | refine blk_drewN ?_ _ | refine blk_drew ?_ | refine blk_alloc ?_ _)); exact BK207.out) hb); have n10_ := Aside0.mk (below_step (by repeat (first | (with_reducible first | exact HB.out | apply below_alloc | apply pw_below_drewN | apply below_drew1 | refine below_set ?_ GE183.out | refine below_set ?_ GE207.out) | exact HB.out)) hb); clear HO_8; clear HO_13; clear HO_208000; clear HO_208001; clear HO247; clear HO250; clear HO253; clear BK183; clear BK207; clear HB; have HO_8 := n0_; have HO_13 := n1_; have HO_208000 := n2_; have HO_208001 := n3_; have HO247 := n4_; have HO250 := n5_; have HO253 := n6_; have HO256 := n7_; have BK183 := n8_; have BK207 := n9_; have HB := n10_; clear n0_ n1_ n2_ n3_ n4_ n5_ n6_ n7_ n8_ n9_ n10_; (try clear hb); (try clear hb2); (try clear hk); (try clear hi); (try clear ho0); obtain ⟨Ao107, co107, eo107⟩ := Kd.R_slice HO247.out; subst eo107; obtain ⟨Ao108, co108, eo108⟩ := Kd.S_slice HO250.out; subst eo108; obtain ⟨Ao109, co109, eo109⟩ := Kd.R_slice HO253.out; subst eo109; obtain ⟨Ao110, co110, eo110⟩ := Kd.R_slice HO256.out; subst eo110) | ((with_reducible refine gate_callee (f := 23) rfl ?_); refine goesL_ (some 118) rfl rfl Try.func23 (by kernel_rfl) rfl #[.agg #[.slice Ao107 t245.length co107, .slice Ao108 t248.length co108], .slice Ao109 t251.length co109, .slice Ao110 t254.length co110] rfl (by (try simp only [List.map_toArray, List.map_cons, List.map_nil]); first | done | rfl | (simp only [List.length_drop, List.length_take]; rfl)) ?_; (with_reducible refine (impl_TurnsNeeded.calls kj65 _ _ t245 _ _ t248 _ _ t251 _ _ t254 t257 t260 _ ?side1 ?side2 ?side3 ?side4 ?side5 ?side6 ?side7 ?side8 A98.out).mono ?_); (case side1 => repeat (first | exact (Kd.R_reads' HO247.out).2.2 | (with_reducible refine Kd.C_alloc ?_ _) | (with_reducible refine Kd.C_drewN ?_ _) | (with_reducible refine Kd.C_drew ?_))); (case side2 => exact (Kd.R_reads' HO247.out).2.1); (case side3 => repeat (first | exact (Kd.S_reads' HO250.out).2.2 | (with_reducible refine Kd.C_alloc ?_ _) | (with_reducible refine Kd.C_drewN ?_ _) | (with_reducible refine Kd.C_drew ?_))); (case side4 => exact (Kd.S_reads' HO250.out).2.1); (case side5 => repeat (first | exact (Kd.R_reads' HO253.out).2.2 | (with_reducible refine Kd.C_alloc ?_ _) | (with_reducible refine Kd.C_drewN ?_ _) | (with_reducible refine Kd.C_drew ?_))); (case side6 => exact (Kd.R_reads' HO253.out).2.1); (case side7 => repeat (first | exact (Kd.R_reads' HO256.out).2.2 | (with_reducible refine Kd.C_alloc ?_ _) | (with_reducible refine Kd.C_drewN ?_ _) | (with_reducible refine Kd.C_drew ?_))); (case side8 => exact (Kd.R_reads' HO256.out).2.1); rintro e w111 ⟨v258, rfl, ho0, hb⟩; refine ⟨_, rfl, ?_⟩; have n0_ := Aside0.mk (Kd.R_elder' (by (with_reducible repeat (first | apply Kd.R_alloc | apply Kd.R_drewN | apply Kd.R_drew)); exact HO_8.out) (Kd.R_base ho0) hb); have n1_ := Aside0.mk (Kd.R_elder' (by (with_reducible repeat (first | apply Kd.R_alloc | apply Kd.R_drewN | apply Kd.R_drew)); exact HO_13.out) (Kd.R_base ho0) hb); have n2_ := Aside0.mk (Kd.R_elder' (by (with_reducible repeat (first | apply Kd.R_alloc | apply Kd.R_drewN | apply Kd.R_drew)); exact HO_208000.out) (Kd.R_base ho0) hb); have n3_ := Aside0.mk (Kd.S_elder' (by (with_reducible repeat (first | apply Kd.S_alloc | apply Kd.S_drewN | apply Kd.S_drew)); exact HO_208001.out) (Kd.R_base ho0) hb); have n4_ := Aside0.mk (Kd.R_elder' (by (with_reducible repeat (first | apply Kd.R_alloc | apply Kd.R_drewN | apply Kd.R_drew)); exact HO247.out) (Kd.R_base ho0) hb); have n5_ := Aside0.mk (Kd.S_elder' (by (with_reducible repeat (first | apply Kd.S_alloc | apply Kd.S_drewN | apply Kd.S_drew)); exact HO250.out) (Kd.R_base ho0) hb); have n6_ := Aside0.mk (Kd.R_elder' (by (with_reducible repeat (first | apply Kd.R_alloc | apply Kd.R_drewN | apply Kd.R_drew)); exact HO253.out) (Kd.R_base ho0) hb); have n7_ := Aside0.mk (Kd.R_elder' (by (with_reducible repeat (first | apply Kd.R_alloc | apply Kd.R_drewN | apply Kd.R_drew)); exact HO256.out) (Kd.R_base ho0) hb); have n8_ := Aside0.mk (Kd.R_lower (Kd.R_new' (Kd.R_new' (Kd.R_new' (Kd.R_new' (Kd.R_new' (Kd.R_new' ho0 (Kd.R_lt (by (with_reducible repeat (first | apply Kd.R_alloc | apply Kd.R_drewN | apply Kd.R_drew)); exact HO_8.out))) (Kd.R_lt (by (with_reducible repeat (first | apply Kd.R_alloc | apply Kd.R_drewN | apply Kd.R_drew)); exact HO_13.out))) (Kd.R_lt (by (with_reducible repeat (first | apply Kd.R_alloc | apply Kd.R_drewN | apply Kd.R_drew)); exact HO_208000.out))) (Kd.R_lt (by (with_reducible repeat (first | apply Kd.R_alloc | apply Kd.R_drewN | apply Kd.R_drew)); exact HO247.out))) (Kd.R_lt (by (with_reducible repeat (first | apply Kd.R_alloc | apply Kd.R_drewN | apply Kd.R_drew)); exact HO253.out))) (Kd.R_lt (by (with_reducible repeat (first | apply Kd.R_alloc | apply Kd.R_drewN | apply Kd.R_drew)); exact HO256.out))) (below_size (by repeat (first | (with_reducible first | exact HB.out | apply below_alloc | apply pw_below_drewN | apply below_drew1 | refine below_set ?_ GE183.out | refine below_set ?_ GE207.out) | exact HB.out)))); have n9_ := Aside0.mk (blk_below (g := gb183) (o := .cells #[.slice A0_0 l0_0.length c0_0, .slice A0_1 l0_1.length c0_1] 38 (0, 0)) (by (with_reducible repeat (first | refine blk_drewN ?_ _ | refine blk_drew ?_ | refine blk_alloc ?_ _)); exact BK183.out) hb); have n10_ := Aside0.mk (blk_below (g := gb207) (o := .cells #[.slice Ao37 t235.length co37, .slice Ao40 t236.length co40] 27 (0, 0)) (by (with_reducible repeat (first | refine blk_drewN ?_ _ | refine blk_drew ?_ | refine blk_alloc ?_ _)); exact BK207.out) hb); have n11_ := Aside0.mk (below_step (by repeat (first | (with_reducible first | exact HB.out | apply below_alloc | apply pw_below_drewN | apply below_drew1 | refine below_set ?_ GE183.out | refine below_set ?_ GE207.out) | exact HB.out)) hb); clear HO_8; clear HO_13; clear HO_208000; clear HO_208001; clear HO247; clear HO250; clear HO253; clear HO256; clear BK183; clear BK207; clear HB; have HO_8 := n0_; have HO_13 := n1_; have HO_208000 := n2_; have HO_208001 := n3_; have HO247 := n4_; have HO250 := n5_; have HO253 := n6_; have HO256 := n7_; have HO259 := n8_; have BK183 := n9_; have BK207 := n10_; have HB := n11_; clear n0_ n1_ n2_ n3_ n4_ n5_ n6_ n7_ n8_ n9_ n10_ n11_; (try clear hb); (try clear hb2); (try clear hk); (try clear hi); (try clear ho0)))
                              (try simp only [Act.put, List.setIfInBounds_toArray, List.set_cons_zero, List.set_cons_succ])
                              go_cut [129] (fun v129 wc => ∃ (kq : Nat) (x129_98 : Bool), v129 = .bool x129_98 ∧ Aside0 (laws_FnExactTurnsNeeded.j2 kq t243 t242 x129_98 = some r) ∧ Aside0 (kq ≤ kj65) ∧ Aside0 (Kd.R (Kd.int .i64) 2 wc w.heap.size (fun k_ => some k_ ≠ ((.slice Ao37 t235.length co37) : Value).ownBlock) (.slice Ao100 t214.length co100) t243) ∧ Aside0 (Kd.R (Kd.int .i64) 2 wc w.heap.size (fun k_ => some k_ ≠ ((.slice Ao100 t214.length co100) : Value).ownBlock) (.slice Ao37 t235.length co37) t235) ∧ Aside0 (Kd.S (Kd.slice 2 (Kd.int .i64)) 24 wc w.heap.size (fun k_ => some k_ ≠ ((.slice Ao100 t214.length co100) : Value).ownBlock ∧ some k_ ≠ ((.slice Ao37 t235.length co37) : Value).ownBlock) (.slice Ao40 t236.length co40) t236) ∧ Aside0 (wc.heap[gb183]? = some (.cells #[(.slice A0_0 l0_0.length c0_0), (.slice A0_1 l0_1.length c0_1)] 38 (0, 0))) ∧ Aside0 (wc.heap[gb207]? = some (.cells #[(.slice Ao37 t235.length co37), (.slice Ao40 t236.length co40)] 27 (0, 0))) ∧ Aside0 (Below w.heap.size w wc))
                              case first =>
                                have H := HC99.out
                                clear HC99
                                replace H := Option.bind_eq_some_iff.mp H
                                obtain ⟨t261, A1120, H⟩ := H
                                replace H : (if t261 = true then (laws_FnExactTurnsNeeded.j2 kj65 t243 t242 (t260 != t200)) else (laws_FnExactTurnsNeeded.j2 kj65 t243 t242 true)) = some r := H
                                have A112 := Aside0.mk A1120
                                clear A1120
                                by_cases c113 : t261 = true
                                · subst c113
                                  have H1 : (laws_FnExactTurnsNeeded.j2 kj65 t243 t242 (t260 != t200)) = some r := by rw [if_pos rfl] at H; exact H
                                  clear H
                                  have H := H1
                                  clear H1
                                  have H' := Aside0.mk H
                                  clear H
                                  obtain ⟨Ao114, co114, eo114⟩ := Kd.R_slice HO259.out
                                  subst eo114
                                  obtain ⟨Ao115, co115, eo115⟩ := Kd.R_slice HO_8.out
                                  subst eo115
                                  go_wp2_with (first | ((with_reducible refine gate_callee (f := 33) rfl ?_); refine goesL_ (some 123) rfl rfl Try.func33 (by kernel_rfl) rfl #[.slice Ao114 t257.length co114, .slice Ao115 t197.length co115] rfl (by (try simp only [List.map_toArray, List.map_cons, List.map_nil]); first | done | rfl | (simp only [List.length_drop, List.length_take]; rfl)) ?_; (with_reducible refine (laws_eqInt64S.calls kj65 _ _ t257 _ _ t197 true _ ?side1 ?side2 ?side3 ?side4 A112.out).mono ?_); (case side1 => repeat (first | exact (Kd.R_reads' HO259.out).2.2 | (with_reducible refine Kd.C_alloc ?_ _) | (with_reducible refine Kd.C_drewN ?_ _) | (with_reducible refine Kd.C_drew ?_))); (case side2 => exact (Kd.R_reads' HO259.out).2.1); (case side3 => repeat (first | exact (Kd.R_reads' HO_8.out).2.2 | (with_reducible refine Kd.C_alloc ?_ _) | (with_reducible refine Kd.C_drewN ?_ _) | (with_reducible refine Kd.C_drew ?_))); (case side4 => exact (Kd.R_reads' HO_8.out).2.1); rintro e w' ⟨rfl, ⟨nd, rfl⟩⟩; refine ⟨_, rfl, ?_⟩))
                                  go_meet
                                  case rel => exact ⟨_, ((t260 != t200)), (by first | rfl | (simp; done) | (simp [*]; done)), H', ⟨by have := HJ20.out; have := HJ65.out; first | omega | exact Nat.le_refl _⟩, ⟨by (try simp only [hl208000_65]); (try simp only [hl208001_65]); (with_reducible repeat (first | apply Kd.R_alloc | apply Kd.R_drewN | apply Kd.R_drew)); exact Kd.R_mono HO_13.out (fun _ hk => hk.1.1.1.1.2)⟩, ⟨by (try simp only [hl208000_65]); (try simp only [hl208001_65]); (with_reducible repeat (first | apply Kd.R_alloc | apply Kd.R_drewN | apply Kd.R_drew)); exact Kd.R_mono HO_208000.out (fun _ hk => hk.1.1.1.1.2)⟩, ⟨by (try simp only [hl208000_65]); (try simp only [hl208001_65]); (with_reducible repeat (first | apply Kd.S_alloc | apply Kd.S_drewN | apply Kd.S_drew)); exact Kd.S_mono HO_208001.out (fun _ hk => ⟨hk.1.1.1.1.1.2.1, hk.1.1.1.1.1.2.2⟩)⟩, ⟨by (try simp only [hl208000_65]); (try simp only [hl208001_65]); (with_reducible repeat (first | refine blk_drewN ?_ _ | refine blk_drew ?_ | refine blk_alloc ?_ _)); exact BK183.out⟩, ⟨by (try simp only [hl208000_65]); (try simp only [hl208001_65]); (with_reducible repeat (first | refine blk_drewN ?_ _ | refine blk_drew ?_ | refine blk_alloc ?_ _)); exact BK207.out⟩, ⟨by repeat (first | (with_reducible first | exact HB.out | apply below_alloc | apply pw_below_drewN | apply below_drew1 | refine below_set ?_ GE183.out | refine below_set ?_ GE207.out) | exact HB.out)⟩⟩
                                · replace c113 := Bool.eq_false_iff.mpr c113
                                  subst c113
                                  have H1 : (laws_FnExactTurnsNeeded.j2 kj65 t243 t242 true) = some r := by rw [if_neg (show ¬ (false = true) by decide)] at H; exact H
                                  clear H
                                  have H := H1
                                  clear H1
                                  exact (laws_FnExactTurnsNeeded.j2_cut _ _ _ _ H HRT.out).elim
                              case rest =>
                                clear HC99
                                try clear c1
                                try clear c2
                                try clear p2
                                try clear c3
                                try clear c4
                                try clear c4b0
                                try clear c4b1
                                try clear c5
                                try clear c6
                                try clear c6b0
                                try clear c6b1
                                try clear c7
                                try clear c8
                                try clear c9
                                try clear c9b0
                                try clear c10
                                try clear c11
                                try clear c13
                                try clear c23
                                try clear c24
                                try clear c26
                                try clear c28
                                try clear c32
                                try clear c33
                                try clear c36
                                try clear c37
                                try clear c38
                                try clear c45
                                try clear c48
                                try clear c53
                                try clear c56
                                try clear c59
                                try clear c62
                                try clear c76
                                try clear c81
                                try clear c81b0
                                try clear c83
                                try clear c88
                                try clear c91
                                try clear c91b0
                                try clear c94
                                try clear c94b0
                                try clear c94b1
                                try clear c102
                                try clear c113
                                try clear hcz103_0
                                try clear hcz103_1
                                try clear hcz11_0
                                try clear hcz11_1
                                try clear hcz23_0
                                try clear hcz23_1
                                try clear hcz25_0
                                try clear hcz25_1
                                try clear hcz34_0
                                try clear hcz34_1
                                try clear hcz39_0
                                try clear hcz39_1
                                try clear hcz43_0
                                try clear hcz43_1
                                try clear hcz77_0
                                try clear hcz77_1
                                try clear hfz103_0
                                try clear hfz103_1
                                try clear hfz11_0
                                try clear hfz11_1
                                try clear hfz23_0
                                try clear hfz23_1
                                try clear hfz25_0
                                try clear hfz25_1
                                try clear hfz34_0
                                try clear hfz34_1
                                try clear hfz39_0
                                try clear hfz39_1
                                try clear hfz43_0
                                try clear hfz43_1
                                try clear hfz77_0
                                try clear hfz77_1
                                try clear p2
                                obtain ⟨kq, x129_98, rfl, HA, HJ98, HO_13, HO_208000, HO_208001, BK183, BK207, HB⟩ := hcut
                                have hl13_98 := (Kd.R_reads' HO_13.out).1
                                rw [hl13_98] at HO_13
                                (try simp only [hl13_98])
                                (try simp only [hl13_98] at BK183)
                                (try simp only [hl13_98] at BK207)
                                (try simp only [hl13_98] at HO_208000)
                                (try simp only [hl13_98] at HO_208001)
                                cases kq with
                                | zero => exact absurd HA.out (by simp [laws_FnExactTurnsNeeded.j2])
                                | succ kj98 =>
                                  have H := HA.out
                                  clear HA
                                  simp only [laws_FnExactTurnsNeeded.j2] at H
                                  by_cases c118 : x129_98 = true
                                  · subst c118
                                    have H1 : (some false) = some r := by rw [if_pos rfl] at H; exact H
                                    clear H
                                    have H := H1
                                    clear H1
                                    obtain rfl := Option.some.inj H
                                    exact absurd HRT.out (by decide)
                                  · replace c118 := Bool.eq_false_iff.mpr c118
                                    subst c118
                                    have H1 : ((laws_heldInt64S.f kj98 t243 1).bind fun t262 => (if t262 < 0 then (some false) else (if t262 = t242 then (some true) else (some false)))) = some r := by rw [if_neg (show ¬ (false = true) by decide)] at H; exact H
                                    clear H
                                    have H := H1
                                    clear H1
                                    replace H := Option.bind_eq_some_iff.mp H
                                    obtain ⟨t262, A1190, H⟩ := H
                                    replace H : (if t262 < 0 then (some false) else (if t262 = t242 then (some true) else (some false))) = some r := H
                                    have A119 := Aside0.mk A1190
                                    clear A1190
                                    by_cases c120 : t262 < 0
                                    · rw [if_pos c120] at H
                                      have c120b0 : decide (t262 < 0) = true := decide_eq_true c120
                                      clear c120
                                      obtain rfl := Option.some.inj H
                                      exact absurd HRT.out (by decide)
                                    · rw [if_neg c120] at H
                                      have c120b0 : decide (t262 < 0) = false := decide_eq_false c120
                                      clear c120
                                      by_cases c121 : t262 = t242
                                      · rw [if_pos c121] at H
                                        have c121b0 : (t262 == t242) = true := beq_iff_eq.mpr c121
                                        have c121b1 : (t262 != t242) = false := bne_eq_false_iff_eq.mpr c121
                                        clear c121
                                        obtain rfl := Option.some.inj H
                                        go_wp2_with (first | ((with_reducible refine gate_callee (f := 38) rfl ?_); refine goesL_ (some 132) rfl rfl Try.func38 (by kernel_rfl) rfl #[.slice Ao100 t243.length co100, .int .i64 1] rfl (by (try simp only [List.map_toArray, List.map_cons, List.map_nil]); first | done | rfl | (simp only [List.length_drop, List.length_take]; rfl)) ?_; (with_reducible refine (laws_heldInt64S.calls kj98 _ _ t243 1 t262 _ ?side1 ?side2 A119.out).mono ?_); (case side1 => repeat (first | exact (Kd.R_reads' HO_13.out).2.2 | (with_reducible refine Kd.C_alloc ?_ _) | (with_reducible refine Kd.C_drewN ?_ _) | (with_reducible refine Kd.C_drew ?_))); (case side2 => exact (Kd.R_reads' HO_13.out).2.1); rintro e w' ⟨rfl, ⟨nd, rfl⟩⟩; refine ⟨_, rfl, ?_⟩))
                                        go_ret
                                        exact ⟨by first | rfl | (simp [errW_none, errW_some] <;> rfl) | (simp [*, errW_none, errW_some] <;> rfl), by repeat (first | (with_reducible first | exact HB.out | apply below_alloc | apply pw_below_drewN | apply below_drew1 | refine below_set ?_ GE183.out | refine below_set ?_ GE207.out) | exact HB.out)⟩
                                      · rw [if_neg c121] at H
                                        have c121b0 : (t262 == t242) = false := beq_eq_false_iff_ne.mpr c121
                                        have c121b1 : (t262 != t242) = true := bne_iff_ne.mpr c121
                                        obtain rfl := Option.some.inj H
                                        exact absurd HRT.out (by decide)
                            · rw [if_neg c94] at H
                              have c94b0 : (t244 == t242) = false := beq_eq_false_iff_ne.mpr c94
                              have c94b1 : (t244 != t242) = true := bne_iff_ne.mpr c94
                              obtain rfl := Option.some.inj H
                              exact absurd HRT.out (by decide)
                  · replace c62 := Bool.eq_false_iff.mpr c62
                    subst c62
                    have H1 : (some false) = some r := by rw [if_neg (show ¬ (false = true) by decide)] at H; exact H
                    clear H
                    have H := H1
                    clear H1
                    obtain rfl := Option.some.inj H
                    exact absurd HRT.out (by decide)
                · replace c59 := Bool.eq_false_iff.mpr c59
                  subst c59
                  have H1 : (some false) = some r := by rw [if_neg (show ¬ (false = true) by decide)] at H; exact H
                  clear H
                  have H := H1
                  clear H1
                  obtain rfl := Option.some.inj H
                  exact absurd HRT.out (by decide)
              · replace c56 := Bool.eq_false_iff.mpr c56
                subst c56
                have H1 : (some false) = some r := by rw [if_neg (show ¬ (false = true) by decide)] at H; exact H
                clear H
                have H := H1
                clear H1
                obtain rfl := Option.some.inj H
                exact absurd HRT.out (by decide)
end
end Go.Proofs.Ythfpaldhdohnkaa.PFnExactTurnsNeeded
