/- The walks of the functions that the law reaches: each computes what its Lean function says. No condition beyond each contract's own. -/
import Derived.Test.YthfpaldhdohnkaaHFnExactEvenTurnsx0
import Derived.Test.YthfpaldhdohnkaaHFnExactEvenTurnsx1
import Derived.Test.YthfpaldhdohnkaaHFnExactEvenTurnsx2
import Derived.Test.YthfpaldhdohnkaaHFnExactEvenTurnsx4
import Derived.Test.YthfpaldhdohnkaaHFnExactEvenTurnsx6
namespace Go.Proofs.Ythfpaldhdohnkaa.PFnExactEvenTurns
noncomputable section
open Go.RowKit Go.Proofs.YthfpaldhdohnkaaW.PrintWords Go.Proofs.YthfpaldhdohnkaaW.PrintLast Go.Proofs.YthfpaldhdohnkaaW.PrintMore
attribute [local go_sem] max2_int min2_int max_two min_two max_three min_three max_four min_four   -- for this text's walks alone
set_option linter.unusedVariables false
set_option linter.unusedSimpArgs false

/-! ### laws_FnExactEvenTurns: function 12 -/
mutual
def laws_FnExactEvenTurns.j0 : Nat → List Int → Int → Int → List Int → Int → Int → Bool → List Int → List (List Int) → List Int → List (List Int) → Option (Bool)
  | 0, _, _, _, _, _, _, _, _, _, _, _ => none
  | k + 1, x4, x5, x6, x8, x9, x10, x50, x185000, x185001, x204000, x204001 => if x50 = true then (some false) else ((laws_toTuning.f k x185000 x185001).bind fun bt210 => ((laws_eqTuning.f k x204000 x204001 bt210.1 bt210.2).bind fun t216 => (if t216 = true then ((laws_markTuning.f k x204000 x204001 1).bind fun bt217 => (if bt217.1 < 0 then (laws_FnExactEvenTurns.j1 k x4 x5 x6 x8 true x185000 x185001) else ((laws_eqInt64S.f k x8 x4).bind fun t220 => (if t220 = true then (if x9 = x5 then (laws_FnExactEvenTurns.j1 k x4 x5 x6 x8 (x10 != x6) x185000 x185001) else (laws_FnExactEvenTurns.j1 k x4 x5 x6 x8 true x185000 x185001)) else (laws_FnExactEvenTurns.j1 k x4 x5 x6 x8 true x185000 x185001))))) else (some false))))
def laws_FnExactEvenTurns.j1 : Nat → List Int → Int → Int → List Int → Bool → List Int → List (List Int) → Option (Bool)
  | 0, _, _, _, _, _, _, _ => none
  | k + 1, x4, x5, x6, x8, x76, x185000, x185001 => if x76 = true then (some false) else ((laws_markInt64S.f k x8 1).bind fun bt221 => ((laws_heldInt64S.f k bt221.2 1).bind fun t223 => (if t223 < 0 then (some false) else (if t223 = bt221.1 then ((laws_toTuning.f k x185000 x185001).bind fun bt224 => ((impl_EvenTurns.f k bt224.1 bt224.2).bind fun bt230 => ((laws_eqInt64S.f k bt230.1 x4).bind fun t235 => (if t235 = true then (if bt230.2.1 = x5 then (laws_FnExactEvenTurns.j2 k bt221.2 bt221.1 (bt230.2.2 != x6)) else (laws_FnExactEvenTurns.j2 k bt221.2 bt221.1 true)) else (laws_FnExactEvenTurns.j2 k bt221.2 bt221.1 true))))) else (some false)))))
def laws_FnExactEvenTurns.j2 : Nat → List Int → Int → Bool → Option (Bool)
  | 0, _, _, _ => none
  | k + 1, x8, x12, x108 => if x108 = true then (some false) else ((laws_heldInt64S.f k x8 1).bind fun t236 => (if t236 < 0 then (some false) else (if t236 = x12 then (some true) else (some false))))
end
def laws_FnExactEvenTurns.f (k : Nat) (l0_0 : List Int) (l0_1 : List (List Int)) : Option (Bool) := (laws_szTuning.f k l0_0 l0_1 1048576).bind fun t185 => (if t185 < 0 then (some true) else ((laws_toTuning.f k l0_0 l0_1).bind fun bt186 => ((spec_EvenTurns.f k bt186.1 bt186.2).bind fun bt192 => ((laws_toTuning.f k l0_0 l0_1).bind fun bt197 => ((impl_EvenTurns.f k bt197.1 bt197.2).bind fun bt204 => ((laws_eqInt64S.f k bt204.1 bt192.1).bind fun t209 => (if t209 = true then (if bt204.2.1 = bt192.2.1 then (laws_FnExactEvenTurns.j0 k bt192.1 bt192.2.1 bt192.2.2 bt204.1 bt204.2.1 bt204.2.2 (bt204.2.2 != bt192.2.2) l0_0 l0_1 bt197.1 bt197.2) else (laws_FnExactEvenTurns.j0 k bt192.1 bt192.2.1 bt192.2.2 bt204.1 bt204.2.1 bt204.2.2 true l0_0 l0_1 bt197.1 bt197.2)) else (laws_FnExactEvenTurns.j0 k bt192.1 bt192.2.1 bt192.2.2 bt204.1 bt204.2.1 bt204.2.2 true l0_0 l0_1 bt197.1 bt197.2))))))))
theorem laws_FnExactEvenTurns.mono_l : ∀ k, (∀ y0 y1 y2 y3 y4 y5 y6 y7 y8 y9 y10, LeO (laws_FnExactEvenTurns.j0 k y0 y1 y2 y3 y4 y5 y6 y7 y8 y9 y10) (laws_FnExactEvenTurns.j0 (k + 1) y0 y1 y2 y3 y4 y5 y6 y7 y8 y9 y10)) ∧ (∀ y0 y1 y2 y3 y4 y5 y6, LeO (laws_FnExactEvenTurns.j1 k y0 y1 y2 y3 y4 y5 y6) (laws_FnExactEvenTurns.j1 (k + 1) y0 y1 y2 y3 y4 y5 y6)) ∧ (∀ y0 y1 y2, LeO (laws_FnExactEvenTurns.j2 k y0 y1 y2) (laws_FnExactEvenTurns.j2 (k + 1) y0 y1 y2))
  | 0 => ⟨fun _ _ _ _ _ _ _ _ _ _ _ r h => by simp [laws_FnExactEvenTurns.j0] at h, fun _ _ _ _ _ _ _ r h => by simp [laws_FnExactEvenTurns.j1] at h, fun _ _ _ r h => by simp [laws_FnExactEvenTurns.j2] at h⟩
  | k + 1 => by
    obtain ⟨ih0, ih1, ih2⟩ := laws_FnExactEvenTurns.mono_l k
    refine ⟨?_, ?_, ?_⟩
    · intro y0 y1 y2 y3 y4 y5 y6 y7 y8 y9 y10
      unfold laws_FnExactEvenTurns.j0
      repeat' first
      | (with_reducible exact ih0 _ _ _ _ _ _ _ _ _ _ _)
      | (with_reducible exact ih1 _ _ _ _ _ _ _)
      | (with_reducible exact ih2 _ _ _)
      | (with_reducible exact impl_EvenTurns.mono _ _ _)
      | (with_reducible exact laws_eqInt64S.mono _ _ _)
      | (with_reducible exact laws_eqTuning.mono _ _ _ _ _)
      | (with_reducible exact laws_heldInt64S.mono _ _ _)
      | (with_reducible exact laws_markInt64S.mono _ _ _)
      | (with_reducible exact laws_markTuning.mono _ _ _ _)
      | (with_reducible exact laws_szTuning.mono _ _ _ _)
      | (with_reducible exact laws_toTuning.mono _ _ _)
      | (with_reducible exact spec_EvenTurns.mono _ _ _)
      | (with_reducible exact LeO.refl _)
      | (with_reducible exact LeO.none _)
      | (with_reducible refine LeO.ite ?_ ?_)
      | (with_reducible refine LeO.bind ?_ (fun _ => ?_))
      | exact ih0 _ _ _ _ _ _ _ _ _ _ _
      | exact ih1 _ _ _ _ _ _ _
      | exact ih2 _ _ _
      | exact impl_EvenTurns.mono _ _ _
      | exact laws_eqInt64S.mono _ _ _
      | exact laws_eqTuning.mono _ _ _ _ _
      | exact laws_heldInt64S.mono _ _ _
      | exact laws_markInt64S.mono _ _ _
      | exact laws_markTuning.mono _ _ _ _
      | exact laws_szTuning.mono _ _ _ _
      | exact laws_toTuning.mono _ _ _
      | exact spec_EvenTurns.mono _ _ _
      | exact LeO.none _
      | refine LeO.ite ?_ ?_
      | refine LeO.bind ?_ (fun _ => ?_)
    · intro y0 y1 y2 y3 y4 y5 y6
      unfold laws_FnExactEvenTurns.j1
      repeat' first
      | (with_reducible exact ih0 _ _ _ _ _ _ _ _ _ _ _)
      | (with_reducible exact ih1 _ _ _ _ _ _ _)
      | (with_reducible exact ih2 _ _ _)
      | (with_reducible exact impl_EvenTurns.mono _ _ _)
      | (with_reducible exact laws_eqInt64S.mono _ _ _)
      | (with_reducible exact laws_eqTuning.mono _ _ _ _ _)
      | (with_reducible exact laws_heldInt64S.mono _ _ _)
      | (with_reducible exact laws_markInt64S.mono _ _ _)
      | (with_reducible exact laws_markTuning.mono _ _ _ _)
      | (with_reducible exact laws_szTuning.mono _ _ _ _)
      | (with_reducible exact laws_toTuning.mono _ _ _)
      | (with_reducible exact spec_EvenTurns.mono _ _ _)
      | (with_reducible exact LeO.refl _)
      | (with_reducible exact LeO.none _)
      | (with_reducible refine LeO.ite ?_ ?_)
      | (with_reducible refine LeO.bind ?_ (fun _ => ?_))
      | exact ih0 _ _ _ _ _ _ _ _ _ _ _
      | exact ih1 _ _ _ _ _ _ _
      | exact ih2 _ _ _
      | exact impl_EvenTurns.mono _ _ _
      | exact laws_eqInt64S.mono _ _ _
      | exact laws_eqTuning.mono _ _ _ _ _
      | exact laws_heldInt64S.mono _ _ _
      | exact laws_markInt64S.mono _ _ _
      | exact laws_markTuning.mono _ _ _ _
      | exact laws_szTuning.mono _ _ _ _
      | exact laws_toTuning.mono _ _ _
      | exact spec_EvenTurns.mono _ _ _
      | exact LeO.none _
      | refine LeO.ite ?_ ?_
      | refine LeO.bind ?_ (fun _ => ?_)
    · intro y0 y1 y2
      unfold laws_FnExactEvenTurns.j2
      repeat' first
      | (with_reducible exact ih0 _ _ _ _ _ _ _ _ _ _ _)
      | (with_reducible exact ih1 _ _ _ _ _ _ _)
      | (with_reducible exact ih2 _ _ _)
      | (with_reducible exact impl_EvenTurns.mono _ _ _)
      | (with_reducible exact laws_eqInt64S.mono _ _ _)
      | (with_reducible exact laws_eqTuning.mono _ _ _ _ _)
      | (with_reducible exact laws_heldInt64S.mono _ _ _)
      | (with_reducible exact laws_markInt64S.mono _ _ _)
      | (with_reducible exact laws_markTuning.mono _ _ _ _)
      | (with_reducible exact laws_szTuning.mono _ _ _ _)
      | (with_reducible exact laws_toTuning.mono _ _ _)
      | (with_reducible exact spec_EvenTurns.mono _ _ _)
      | (with_reducible exact LeO.refl _)
      | (with_reducible exact LeO.none _)
      | (with_reducible refine LeO.ite ?_ ?_)
      | (with_reducible refine LeO.bind ?_ (fun _ => ?_))
      | exact ih0 _ _ _ _ _ _ _ _ _ _ _
      | exact ih1 _ _ _ _ _ _ _
      | exact ih2 _ _ _
      | exact impl_EvenTurns.mono _ _ _
      | exact laws_eqInt64S.mono _ _ _
      | exact laws_eqTuning.mono _ _ _ _ _
      | exact laws_heldInt64S.mono _ _ _
      | exact laws_markInt64S.mono _ _ _
      | exact laws_markTuning.mono _ _ _ _
      | exact laws_szTuning.mono _ _ _ _
      | exact laws_toTuning.mono _ _ _
      | exact spec_EvenTurns.mono _ _ _
      | exact LeO.none _
      | refine LeO.ite ?_ ?_
      | refine LeO.bind ?_ (fun _ => ?_)
theorem laws_FnExactEvenTurns.mono : ∀ a0 a1 k, LeO (laws_FnExactEvenTurns.f k a0 a1) (laws_FnExactEvenTurns.f (k + 1) a0 a1) := by
  intro a0 a1 k
  obtain ⟨ih0, ih1, ih2⟩ := laws_FnExactEvenTurns.mono_l k
  unfold laws_FnExactEvenTurns.f
  repeat' first
      | (with_reducible exact ih0 _ _ _ _ _ _ _ _ _ _ _)
      | (with_reducible exact ih1 _ _ _ _ _ _ _)
      | (with_reducible exact ih2 _ _ _)
      | (with_reducible exact impl_EvenTurns.mono _ _ _)
      | (with_reducible exact laws_eqInt64S.mono _ _ _)
      | (with_reducible exact laws_eqTuning.mono _ _ _ _ _)
      | (with_reducible exact laws_heldInt64S.mono _ _ _)
      | (with_reducible exact laws_markInt64S.mono _ _ _)
      | (with_reducible exact laws_markTuning.mono _ _ _ _)
      | (with_reducible exact laws_szTuning.mono _ _ _ _)
      | (with_reducible exact laws_toTuning.mono _ _ _)
      | (with_reducible exact spec_EvenTurns.mono _ _ _)
      | (with_reducible exact LeO.refl _)
      | (with_reducible exact LeO.none _)
      | (with_reducible refine LeO.ite ?_ ?_)
      | (with_reducible refine LeO.bind ?_ (fun _ => ?_))
      | exact ih0 _ _ _ _ _ _ _ _ _ _ _
      | exact ih1 _ _ _ _ _ _ _
      | exact ih2 _ _ _
      | exact impl_EvenTurns.mono _ _ _
      | exact laws_eqInt64S.mono _ _ _
      | exact laws_eqTuning.mono _ _ _ _ _
      | exact laws_heldInt64S.mono _ _ _
      | exact laws_markInt64S.mono _ _ _
      | exact laws_markTuning.mono _ _ _ _
      | exact laws_szTuning.mono _ _ _ _
      | exact laws_toTuning.mono _ _ _
      | exact spec_EvenTurns.mono _ _ _
      | exact LeO.none _
      | refine LeO.ite ?_ ?_
      | refine LeO.bind ?_ (fun _ => ?_)
theorem laws_FnExactEvenTurns.j0_cut (k : Nat) (x0_ : List Int) (x1_ : Int) (x2_ : Int) (x3_ : List Int) (x4_ : Int) (x5_ : Int) (x7_ : List Int) (x8_ : List (List Int)) (x9_ : List Int) (x10_ : List (List Int)) (r : Bool) (h : laws_FnExactEvenTurns.j0 k x0_ x1_ x2_ x3_ x4_ x5_ true x7_ x8_ x9_ x10_ = some r) (hr : r = true) : False := by
  cases k with
  | zero => simp only [laws_FnExactEvenTurns.j0] at h; cases h
  | succ k =>
    have h2 : some false = some r := h
    cases h2
    cases hr
theorem laws_FnExactEvenTurns.j1_cut (k : Nat) (x0_ : List Int) (x1_ : Int) (x2_ : Int) (x3_ : List Int) (x5_ : List Int) (x6_ : List (List Int)) (r : Bool) (h : laws_FnExactEvenTurns.j1 k x0_ x1_ x2_ x3_ true x5_ x6_ = some r) (hr : r = true) : False := by
  cases k with
  | zero => simp only [laws_FnExactEvenTurns.j1] at h; cases h
  | succ k =>
    have h2 : some false = some r := h
    cases h2
    cases hr
theorem laws_FnExactEvenTurns.j2_cut (k : Nat) (x0_ : List Int) (x1_ : Int) (r : Bool) (h : laws_FnExactEvenTurns.j2 k x0_ x1_ true = some r) (hr : r = true) : False := by
  cases k with
  | zero => simp only [laws_FnExactEvenTurns.j2] at h; cases h
  | succ k =>
    have h2 : some false = some r := h
    cases h2
    cases hr
set_option maxHeartbeats 8000000 in
set_option maxRecDepth 100000 in
theorem laws_FnExactEvenTurns.calls (k : Nat) (A0_0 : Option Addr) (c0_0 : Nat) (l0_0 : List Int) (A0_1 : Option Addr) (c0_1 : Nat) (l0_1 : List (List Int)) (r : Bool) (w : World) (hr0_0 : Kd.C (Kd.int .i64) w A0_0 l0_0.length l0_0) (hc0_0 : l0_0.length ≤ c0_0) (hr0_1 : Kd.C (Kd.slice 2 (Kd.int .i64)) w A0_1 l0_1.length l0_1) (hc0_1 : l0_1.length ≤ c0_1) (h : laws_FnExactEvenTurns.f k l0_0 l0_1 = some r) (hrt : r = true) :
    Calls Try.prog 12 #[.agg #[.slice A0_0 l0_0.length c0_0, .slice A0_1 l0_1.length c0_1]] w fun e w' => e = .returned (.bool r) ∧ Below w.heap.size w w' := by
  have HRT := Aside0.mk hrt
  clear hrt
  have hu38 := Try.underlying38
  have hu27 := Try.underlying27
  have HR0_0 := Aside0.mk hr0_0
  have HC0_0 := Aside0.mk hc0_0
  clear hr0_0 hc0_0
  have HR0_1 := Aside0.mk hr0_1
  have HC0_1 := Aside0.mk hc0_1
  clear hr0_1 hc0_1
  have HB := Aside0.mk (Below.refl w.heap.size w)
  have H : ((laws_szTuning.f k l0_0 l0_1 1048576).bind fun t185 => (if t185 < 0 then (some true) else ((laws_toTuning.f k l0_0 l0_1).bind fun bt186 => ((spec_EvenTurns.f k bt186.1 bt186.2).bind fun bt192 => ((laws_toTuning.f k l0_0 l0_1).bind fun bt197 => ((impl_EvenTurns.f k bt197.1 bt197.2).bind fun bt204 => ((laws_eqInt64S.f k bt204.1 bt192.1).bind fun t209 => (if t209 = true then (if bt204.2.1 = bt192.2.1 then (laws_FnExactEvenTurns.j0 k bt192.1 bt192.2.1 bt192.2.2 bt204.1 bt204.2.1 bt204.2.2 (bt204.2.2 != bt192.2.2) l0_0 l0_1 bt197.1 bt197.2) else (laws_FnExactEvenTurns.j0 k bt192.1 bt192.2.1 bt192.2.2 bt204.1 bt204.2.1 bt204.2.2 true l0_0 l0_1 bt197.1 bt197.2)) else (laws_FnExactEvenTurns.j0 k bt192.1 bt192.2.1 bt192.2.2 bt204.1 bt204.2.1 bt204.2.2 true l0_0 l0_1 bt197.1 bt197.2))))))))) = some r := h
  clear h
  replace H := Option.bind_eq_some_iff.mp H
  obtain ⟨t185, A20, H⟩ := H
  replace H : (if t185 < 0 then (some true) else ((laws_toTuning.f k l0_0 l0_1).bind fun bt186 => ((spec_EvenTurns.f k bt186.1 bt186.2).bind fun bt192 => ((laws_toTuning.f k l0_0 l0_1).bind fun bt197 => ((impl_EvenTurns.f k bt197.1 bt197.2).bind fun bt204 => ((laws_eqInt64S.f k bt204.1 bt192.1).bind fun t209 => (if t209 = true then (if bt204.2.1 = bt192.2.1 then (laws_FnExactEvenTurns.j0 k bt192.1 bt192.2.1 bt192.2.2 bt204.1 bt204.2.1 bt204.2.2 (bt204.2.2 != bt192.2.2) l0_0 l0_1 bt197.1 bt197.2) else (laws_FnExactEvenTurns.j0 k bt192.1 bt192.2.1 bt192.2.2 bt204.1 bt204.2.1 bt204.2.2 true l0_0 l0_1 bt197.1 bt197.2)) else (laws_FnExactEvenTurns.j0 k bt192.1 bt192.2.1 bt192.2.2 bt204.1 bt204.2.1 bt204.2.2 true l0_0 l0_1 bt197.1 bt197.2)))))))) = some r := H
  have A2 := Aside0.mk A20
  clear A20
  by_cases c3 : t185 < 0
  · rw [if_pos c3] at H
    have c3b0 : decide (t185 < 0) = true := decide_eq_true c3
    clear c3
    obtain rfl := Option.some.inj H
    go_enter Try.func12, Try.ntmps12
    go_wp2_with (first | ((with_reducible refine gate_dst (N := 1) rfl ?_); refine box_event ?hg (N := 1) ?hd (cs := #[.slice A0_0 l0_0.length c0_0, .slice A0_1 l0_1.length c0_1]) (t := 38) ?hr ?_; (case hd => rfl); (case hg => rfl); (case hr => first | (go_simp; done) | (go_simp; rfl)); intro gb184 hg w4 hbox hb; have n0_ := Aside0.mk (below_step (by repeat (first | (with_reducible first | exact HB.out | apply below_alloc | apply pw_below_drewN | apply below_drew1) | exact HB.out)) hb); have n1_ := Aside0.mk (hbox); have n2_ := Aside0.mk ((by rw [hg]; exact (below_size (by repeat (first | (with_reducible first | exact HB.out | apply below_alloc | apply pw_below_drewN | apply below_drew1) | exact HB.out))) : w.heap.size ≤ gb184)); have n3_ := Aside0.mk ((by rw [hg]; exact (below_size (by repeat (first | (with_reducible first | exact HB.out | apply below_alloc | apply pw_below_drewN | apply below_drew1) | exact HB.out))) : w.heap.size ≤ gb184)); clear HB; have HB := n0_; have BK184 := n1_; have GW184 := n2_; have GE184 := n3_; clear n0_ n1_ n2_ n3_; clear hb hbox hg; have hcz5_0 : w4.cell? ⟨gb184, 0, none⟩ = some (.slice A0_0 l0_0.length c0_0) := (blk_cell BK184.out 0).trans rfl; have hcz5_1 : w4.cell? ⟨gb184, 1, none⟩ = some (.slice A0_1 l0_1.length c0_1) := (blk_cell BK184.out 1).trans rfl; have hfz5_0 := blk_frozen BK184.out 0; have hfz5_1 := blk_frozen BK184.out 1) | ((with_reducible refine gate_callee (f := 24) rfl ?_); refine goesL_ (some 19) rfl rfl Try.func24 (by kernel_rfl) rfl #[.agg #[.slice A0_0 l0_0.length c0_0, .slice A0_1 l0_1.length c0_1], .int .i64 1048576] rfl (by (try simp only [List.map_toArray, List.map_cons, List.map_nil]); first | done | rfl | (simp only [List.length_drop, List.length_take]; rfl)) ?_; (with_reducible refine (laws_szTuning.calls k _ _ l0_0 _ _ l0_1 1048576 t185 _ ?side1 ?side2 ?side3 ?side4 A2.out).mono ?_); (case side1 => repeat (first | exact (Kd.C_below HR0_0.out HB.out) | (with_reducible refine Kd.C_alloc ?_ _) | (with_reducible refine Kd.C_drewN ?_ _) | (with_reducible refine Kd.C_drew ?_))); (case side2 => exact HC0_0.out); (case side3 => repeat (first | exact (Kd.C_below HR0_1.out HB.out) | (with_reducible refine Kd.C_alloc ?_ _) | (with_reducible refine Kd.C_drewN ?_ _) | (with_reducible refine Kd.C_drew ?_))); (case side4 => exact HC0_1.out); rintro e w6 ⟨rfl, hb⟩; refine ⟨_, rfl, ?_⟩; have n0_ := Aside0.mk (blk_below (g := gb184) (o := .cells #[.slice A0_0 l0_0.length c0_0, .slice A0_1 l0_1.length c0_1] 38 (0, 0)) (by (with_reducible repeat (first | refine blk_drewN ?_ _ | refine blk_drew ?_ | refine blk_alloc ?_ _)); exact BK184.out) hb); have n1_ := Aside0.mk (below_step (by repeat (first | (with_reducible first | exact HB.out | apply below_alloc | apply pw_below_drewN | apply below_drew1 | refine below_set ?_ GE184.out) | exact HB.out)) hb); clear BK184; clear HB; have BK184 := n0_; have HB := n1_; clear n0_ n1_; (try clear hb); (try clear hb2); (try clear hk); (try clear hi)))
    go_ret
    exact ⟨by first | rfl | (simp [errW_none, errW_some] <;> rfl) | (simp [*, errW_none, errW_some] <;> rfl), by repeat (first | (with_reducible first | exact HB.out | apply below_alloc | apply pw_below_drewN | apply below_drew1 | refine below_set ?_ GE184.out) | exact HB.out)⟩
  · rw [if_neg c3] at H
    have c3b0 : decide (t185 < 0) = false := decide_eq_false c3
    clear c3
    replace H := Option.bind_eq_some_iff.mp H
    obtain ⟨⟨t186, t189⟩, A70, H⟩ := H
    replace H : ((spec_EvenTurns.f k t186 t189).bind fun bt192 => ((laws_toTuning.f k l0_0 l0_1).bind fun bt197 => ((impl_EvenTurns.f k bt197.1 bt197.2).bind fun bt204 => ((laws_eqInt64S.f k bt204.1 bt192.1).bind fun t209 => (if t209 = true then (if bt204.2.1 = bt192.2.1 then (laws_FnExactEvenTurns.j0 k bt192.1 bt192.2.1 bt192.2.2 bt204.1 bt204.2.1 bt204.2.2 (bt204.2.2 != bt192.2.2) l0_0 l0_1 bt197.1 bt197.2) else (laws_FnExactEvenTurns.j0 k bt192.1 bt192.2.1 bt192.2.2 bt204.1 bt204.2.1 bt204.2.2 true l0_0 l0_1 bt197.1 bt197.2)) else (laws_FnExactEvenTurns.j0 k bt192.1 bt192.2.1 bt192.2.2 bt204.1 bt204.2.1 bt204.2.2 true l0_0 l0_1 bt197.1 bt197.2)))))) = some r := H
    have A7 := Aside0.mk A70
    clear A70
    replace H := Option.bind_eq_some_iff.mp H
    obtain ⟨⟨t192, t195, t196⟩, A80, H⟩ := H
    replace H : ((laws_toTuning.f k l0_0 l0_1).bind fun bt197 => ((impl_EvenTurns.f k bt197.1 bt197.2).bind fun bt204 => ((laws_eqInt64S.f k bt204.1 t192).bind fun t209 => (if t209 = true then (if bt204.2.1 = t195 then (laws_FnExactEvenTurns.j0 k t192 t195 t196 bt204.1 bt204.2.1 bt204.2.2 (bt204.2.2 != t196) l0_0 l0_1 bt197.1 bt197.2) else (laws_FnExactEvenTurns.j0 k t192 t195 t196 bt204.1 bt204.2.1 bt204.2.2 true l0_0 l0_1 bt197.1 bt197.2)) else (laws_FnExactEvenTurns.j0 k t192 t195 t196 bt204.1 bt204.2.1 bt204.2.2 true l0_0 l0_1 bt197.1 bt197.2))))) = some r := H
    have A8 := Aside0.mk A80
    clear A80
    replace H := Option.bind_eq_some_iff.mp H
    obtain ⟨⟨t197, t200⟩, A90, H⟩ := H
    replace H : ((impl_EvenTurns.f k t197 t200).bind fun bt204 => ((laws_eqInt64S.f k bt204.1 t192).bind fun t209 => (if t209 = true then (if bt204.2.1 = t195 then (laws_FnExactEvenTurns.j0 k t192 t195 t196 bt204.1 bt204.2.1 bt204.2.2 (bt204.2.2 != t196) l0_0 l0_1 t197 t200) else (laws_FnExactEvenTurns.j0 k t192 t195 t196 bt204.1 bt204.2.1 bt204.2.2 true l0_0 l0_1 t197 t200)) else (laws_FnExactEvenTurns.j0 k t192 t195 t196 bt204.1 bt204.2.1 bt204.2.2 true l0_0 l0_1 t197 t200)))) = some r := H
    have A9 := Aside0.mk A90
    clear A90
    replace H := Option.bind_eq_some_iff.mp H
    obtain ⟨⟨t204, t207, t208⟩, A100, H⟩ := H
    replace H : ((laws_eqInt64S.f k t204 t192).bind fun t209 => (if t209 = true then (if t207 = t195 then (laws_FnExactEvenTurns.j0 k t192 t195 t196 t204 t207 t208 (t208 != t196) l0_0 l0_1 t197 t200) else (laws_FnExactEvenTurns.j0 k t192 t195 t196 t204 t207 t208 true l0_0 l0_1 t197 t200)) else (laws_FnExactEvenTurns.j0 k t192 t195 t196 t204 t207 t208 true l0_0 l0_1 t197 t200))) = some r := H
    have A10 := Aside0.mk A100
    clear A100
    have HC11 := Aside0.mk H
    clear H
    go_enter Try.func12, Try.ntmps12
    go_upto_region 8 with (first | ((with_reducible refine gate_dst (N := 1) rfl ?_); refine box_event ?hg (N := 1) ?hd (cs := #[.slice A0_0 l0_0.length c0_0, .slice A0_1 l0_1.length c0_1]) (t := 38) ?hr ?_; (case hd => rfl); (case hg => rfl); (case hr => first | (go_simp; done) | (go_simp; rfl)); intro gb184 hg w12 hbox hb; have n0_ := Aside0.mk (below_step (by repeat (first | (with_reducible first | exact HB.out | apply below_alloc | apply pw_below_drewN | apply below_drew1) | exact HB.out)) hb); have n1_ := Aside0.mk (hbox); have n2_ := Aside0.mk ((by rw [hg]; exact (below_size (by repeat (first | (with_reducible first | exact HB.out | apply below_alloc | apply pw_below_drewN | apply below_drew1) | exact HB.out))) : w.heap.size ≤ gb184)); have n3_ := Aside0.mk ((by rw [hg]; exact (below_size (by repeat (first | (with_reducible first | exact HB.out | apply below_alloc | apply pw_below_drewN | apply below_drew1) | exact HB.out))) : w.heap.size ≤ gb184)); clear HB; have HB := n0_; have BK184 := n1_; have GW184 := n2_; have GE184 := n3_; clear n0_ n1_ n2_ n3_; clear hb hbox hg; have hcz13_0 : w12.cell? ⟨gb184, 0, none⟩ = some (.slice A0_0 l0_0.length c0_0) := (blk_cell BK184.out 0).trans rfl; have hcz13_1 : w12.cell? ⟨gb184, 1, none⟩ = some (.slice A0_1 l0_1.length c0_1) := (blk_cell BK184.out 1).trans rfl; have hfz13_0 := blk_frozen BK184.out 0; have hfz13_1 := blk_frozen BK184.out 1) | ((with_reducible refine gate_callee (f := 24) rfl ?_); refine goesL_ (some 19) rfl rfl Try.func24 (by kernel_rfl) rfl #[.agg #[.slice A0_0 l0_0.length c0_0, .slice A0_1 l0_1.length c0_1], .int .i64 1048576] rfl (by (try simp only [List.map_toArray, List.map_cons, List.map_nil]); first | done | rfl | (simp only [List.length_drop, List.length_take]; rfl)) ?_; (with_reducible refine (laws_szTuning.calls k _ _ l0_0 _ _ l0_1 1048576 t185 _ ?side1 ?side2 ?side3 ?side4 A2.out).mono ?_); (case side1 => repeat (first | exact (Kd.C_below HR0_0.out HB.out) | (with_reducible refine Kd.C_alloc ?_ _) | (with_reducible refine Kd.C_drewN ?_ _) | (with_reducible refine Kd.C_drew ?_))); (case side2 => exact HC0_0.out); (case side3 => repeat (first | exact (Kd.C_below HR0_1.out HB.out) | (with_reducible refine Kd.C_alloc ?_ _) | (with_reducible refine Kd.C_drewN ?_ _) | (with_reducible refine Kd.C_drew ?_))); (case side4 => exact HC0_1.out); rintro e w14 ⟨rfl, hb⟩; refine ⟨_, rfl, ?_⟩; have n0_ := Aside0.mk (blk_below (g := gb184) (o := .cells #[.slice A0_0 l0_0.length c0_0, .slice A0_1 l0_1.length c0_1] 38 (0, 0)) (by (with_reducible repeat (first | refine blk_drewN ?_ _ | refine blk_drew ?_ | refine blk_alloc ?_ _)); exact BK184.out) hb); have n1_ := Aside0.mk (below_step (by repeat (first | (with_reducible first | exact HB.out | apply below_alloc | apply pw_below_drewN | apply below_drew1 | refine below_set ?_ GE184.out) | exact HB.out)) hb); clear BK184; clear HB; have BK184 := n0_; have HB := n1_; clear n0_ n1_; (try clear hb); (try clear hb2); (try clear hk); (try clear hi); have hcz15_0 : w14.cell? ⟨gb184, 0, none⟩ = some (.slice A0_0 l0_0.length c0_0) := (blk_cell BK184.out 0).trans rfl; have hcz15_1 : w14.cell? ⟨gb184, 1, none⟩ = some (.slice A0_1 l0_1.length c0_1) := (blk_cell BK184.out 1).trans rfl; have hfz15_0 := blk_frozen BK184.out 0; have hfz15_1 := blk_frozen BK184.out 1) | ((with_reducible refine gate_callee (f := 26) rfl ?_); refine goesL_ (some 24) rfl rfl Try.func26 (by kernel_rfl) rfl #[.agg #[.slice A0_0 l0_0.length c0_0, .slice A0_1 l0_1.length c0_1]] rfl (by (try simp only [List.map_toArray, List.map_cons, List.map_nil]); first | done | rfl | (simp only [List.length_drop, List.length_take]; rfl)) ?_; (with_reducible refine (laws_toTuning.calls k _ _ l0_0 _ _ l0_1 t186 t189 _ ?side1 ?side2 ?side3 ?side4 A7.out).mono ?_); (case side1 => repeat (first | exact (Kd.C_below HR0_0.out HB.out) | (with_reducible refine Kd.C_alloc ?_ _) | (with_reducible refine Kd.C_drewN ?_ _) | (with_reducible refine Kd.C_drew ?_))); (case side2 => exact HC0_0.out); (case side3 => repeat (first | exact (Kd.C_below HR0_1.out HB.out) | (with_reducible refine Kd.C_alloc ?_ _) | (with_reducible refine Kd.C_drewN ?_ _) | (with_reducible refine Kd.C_drew ?_))); (case side4 => exact HC0_1.out); rintro e w16 ⟨v187, v190, rfl, ho0, ho1, hb⟩; refine ⟨_, rfl, ?_⟩; have n0_ := Aside0.mk (Kd.R_lower ho0 (below_size (by repeat (first | (with_reducible first | exact HB.out | apply below_alloc | apply pw_below_drewN | apply below_drew1 | refine below_set ?_ GE184.out) | exact HB.out)))); have n1_ := Aside0.mk (Kd.S_lower ho1 (below_size (by repeat (first | (with_reducible first | exact HB.out | apply below_alloc | apply pw_below_drewN | apply below_drew1 | refine below_set ?_ GE184.out) | exact HB.out)))); have n2_ := Aside0.mk (blk_below (g := gb184) (o := .cells #[.slice A0_0 l0_0.length c0_0, .slice A0_1 l0_1.length c0_1] 38 (0, 0)) (by (with_reducible repeat (first | refine blk_drewN ?_ _ | refine blk_drew ?_ | refine blk_alloc ?_ _)); exact BK184.out) hb); have n3_ := Aside0.mk (below_step (by repeat (first | (with_reducible first | exact HB.out | apply below_alloc | apply pw_below_drewN | apply below_drew1 | refine below_set ?_ GE184.out) | exact HB.out)) hb); clear BK184; clear HB; have HO188 := n0_; have HO191 := n1_; have BK184 := n2_; have HB := n3_; clear n0_ n1_ n2_ n3_; (try clear hb); (try clear hb2); (try clear hk); (try clear hi); (try clear ho0); (try clear ho1); obtain ⟨Ao17, co17, eo17⟩ := Kd.R_slice HO188.out; subst eo17; obtain ⟨Ao18, co18, eo18⟩ := Kd.S_slice HO191.out; subst eo18) | ((with_reducible refine gate_callee (f := 44) rfl ?_); refine goesL_ (some 25) rfl rfl Try.func44 (by kernel_rfl) rfl #[.agg #[.slice Ao17 t186.length co17, .slice Ao18 t189.length co18]] rfl (by (try simp only [List.map_toArray, List.map_cons, List.map_nil]); first | done | rfl | (simp only [List.length_drop, List.length_take]; rfl)) ?_; (with_reducible refine (spec_EvenTurns.calls k _ _ t186 _ _ t189 t192 t195 t196 _ ?side1 ?side2 ?side3 ?side4 A8.out).mono ?_); (case side1 => repeat (first | exact (Kd.R_reads' HO188.out).2.2 | (with_reducible refine Kd.C_alloc ?_ _) | (with_reducible refine Kd.C_drewN ?_ _) | (with_reducible refine Kd.C_drew ?_))); (case side2 => exact (Kd.R_reads' HO188.out).2.1); (case side3 => repeat (first | exact (Kd.S_reads' HO191.out).2.2 | (with_reducible refine Kd.C_alloc ?_ _) | (with_reducible refine Kd.C_drewN ?_ _) | (with_reducible refine Kd.C_drew ?_))); (case side4 => exact (Kd.S_reads' HO191.out).2.1); rintro e w19 ⟨v193, rfl, ho0, hb⟩; refine ⟨_, rfl, ?_⟩; have n0_ := Aside0.mk (Kd.R_elder' (by (with_reducible repeat (first | apply Kd.R_alloc | apply Kd.R_drewN | apply Kd.R_drew)); exact HO188.out) (Kd.R_base ho0) hb); have n1_ := Aside0.mk (Kd.S_elder' (by (with_reducible repeat (first | apply Kd.S_alloc | apply Kd.S_drewN | apply Kd.S_drew)); exact HO191.out) (Kd.R_base ho0) hb); have n2_ := Aside0.mk (Kd.R_lower (Kd.R_new' ho0 (Kd.R_lt (by (with_reducible repeat (first | apply Kd.R_alloc | apply Kd.R_drewN | apply Kd.R_drew)); exact HO188.out))) (below_size (by repeat (first | (with_reducible first | exact HB.out | apply below_alloc | apply pw_below_drewN | apply below_drew1 | refine below_set ?_ GE184.out) | exact HB.out)))); have n3_ := Aside0.mk (blk_below (g := gb184) (o := .cells #[.slice A0_0 l0_0.length c0_0, .slice A0_1 l0_1.length c0_1] 38 (0, 0)) (by (with_reducible repeat (first | refine blk_drewN ?_ _ | refine blk_drew ?_ | refine blk_alloc ?_ _)); exact BK184.out) hb); have n4_ := Aside0.mk (below_step (by repeat (first | (with_reducible first | exact HB.out | apply below_alloc | apply pw_below_drewN | apply below_drew1 | refine below_set ?_ GE184.out) | exact HB.out)) hb); clear HO188; clear HO191; clear BK184; clear HB; have HO188 := n0_; have HO191 := n1_; have HO194 := n2_; have BK184 := n3_; have HB := n4_; clear n0_ n1_ n2_ n3_ n4_; (try clear hb); (try clear hb2); (try clear hk); (try clear hi); (try clear ho0); have hcz20_0 : w19.cell? ⟨gb184, 0, none⟩ = some (.slice A0_0 l0_0.length c0_0) := (blk_cell BK184.out 0).trans rfl; have hcz20_1 : w19.cell? ⟨gb184, 1, none⟩ = some (.slice A0_1 l0_1.length c0_1) := (blk_cell BK184.out 1).trans rfl; have hfz20_0 := blk_frozen BK184.out 0; have hfz20_1 := blk_frozen BK184.out 1) | ((with_reducible refine gate_callee (f := 26) rfl ?_); refine goesL_ (some 30) rfl rfl Try.func26 (by kernel_rfl) rfl #[.agg #[.slice A0_0 l0_0.length c0_0, .slice A0_1 l0_1.length c0_1]] rfl (by (try simp only [List.map_toArray, List.map_cons, List.map_nil]); first | done | rfl | (simp only [List.length_drop, List.length_take]; rfl)) ?_; (with_reducible refine (laws_toTuning.calls k _ _ l0_0 _ _ l0_1 t197 t200 _ ?side1 ?side2 ?side3 ?side4 A9.out).mono ?_); (case side1 => repeat (first | exact (Kd.C_below HR0_0.out HB.out) | (with_reducible refine Kd.C_alloc ?_ _) | (with_reducible refine Kd.C_drewN ?_ _) | (with_reducible refine Kd.C_drew ?_))); (case side2 => exact HC0_0.out); (case side3 => repeat (first | exact (Kd.C_below HR0_1.out HB.out) | (with_reducible refine Kd.C_alloc ?_ _) | (with_reducible refine Kd.C_drewN ?_ _) | (with_reducible refine Kd.C_drew ?_))); (case side4 => exact HC0_1.out); rintro e w21 ⟨v198, v201, rfl, ho0, ho1, hb⟩; refine ⟨_, rfl, ?_⟩; have n0_ := Aside0.mk (Kd.R_elder' (by (with_reducible repeat (first | apply Kd.R_alloc | apply Kd.R_drewN | apply Kd.R_drew)); exact HO188.out) (Kd.R_base ho0) hb); have n1_ := Aside0.mk (Kd.S_mono (Kd.S_told (Kd.S_told (Kd.S_old (by (with_reducible repeat (first | apply Kd.S_alloc | apply Kd.S_drewN | apply Kd.S_drew)); exact HO191.out) hb) (Kd.R_base ho0)) (Kd.S_base ho1)) (fun _ h_ => h_.1)); have n2_ := Aside0.mk (Kd.R_elder' (by (with_reducible repeat (first | apply Kd.R_alloc | apply Kd.R_drewN | apply Kd.R_drew)); exact HO194.out) (Kd.R_base ho0) hb); have n3_ := Aside0.mk (Kd.R_lower (Kd.R_new' (Kd.R_new' ho0 (Kd.R_lt (by (with_reducible repeat (first | apply Kd.R_alloc | apply Kd.R_drewN | apply Kd.R_drew)); exact HO188.out))) (Kd.R_lt (by (with_reducible repeat (first | apply Kd.R_alloc | apply Kd.R_drewN | apply Kd.R_drew)); exact HO194.out))) (below_size (by repeat (first | (with_reducible first | exact HB.out | apply below_alloc | apply pw_below_drewN | apply below_drew1 | refine below_set ?_ GE184.out) | exact HB.out)))); have n4_ := Aside0.mk (Kd.S_lower (Kd.S_new' (Kd.S_new' (Kd.S_new' ho1 (Kd.R_lt (by (with_reducible repeat (first | apply Kd.R_alloc | apply Kd.R_drewN | apply Kd.R_drew)); exact HO188.out))) (Kd.S_lt (by (with_reducible repeat (first | apply Kd.S_alloc | apply Kd.S_drewN | apply Kd.S_drew)); exact HO191.out))) (Kd.R_lt (by (with_reducible repeat (first | apply Kd.R_alloc | apply Kd.R_drewN | apply Kd.R_drew)); exact HO194.out))) (below_size (by repeat (first | (with_reducible first | exact HB.out | apply below_alloc | apply pw_below_drewN | apply below_drew1 | refine below_set ?_ GE184.out) | exact HB.out)))); have n5_ := Aside0.mk (blk_below (g := gb184) (o := .cells #[.slice A0_0 l0_0.length c0_0, .slice A0_1 l0_1.length c0_1] 38 (0, 0)) (by (with_reducible repeat (first | refine blk_drewN ?_ _ | refine blk_drew ?_ | refine blk_alloc ?_ _)); exact BK184.out) hb); have n6_ := Aside0.mk (below_step (by repeat (first | (with_reducible first | exact HB.out | apply below_alloc | apply pw_below_drewN | apply below_drew1 | refine below_set ?_ GE184.out) | exact HB.out)) hb); clear HO188; clear HO191; clear HO194; clear BK184; clear HB; have HO188 := n0_; have HO191 := n1_; have HO194 := n2_; have HO199 := n3_; have HO202 := n4_; have BK184 := n5_; have HB := n6_; clear n0_ n1_ n2_ n3_ n4_ n5_ n6_; (try clear hb); (try clear hb2); (try clear hk); (try clear hi); (try clear ho0); (try clear ho1)) | ((with_reducible refine gate_dst (N := 7) rfl ?_); refine box_event ?hg (N := 7) ?hd (cs := #[.slice none 0 0, .slice none 0 0]) (t := 27) ?hr ?_; (case hd => rfl); (case hg => rfl); (case hr => first | (go_simp; done) | (go_simp; rfl)); intro gb203 hg w22 hbox hb; have n0_ := Aside0.mk (Kd.R_below (by (with_reducible repeat (first | apply Kd.R_alloc | apply Kd.R_drewN | apply Kd.R_drew)); exact HO188.out) hb); have n1_ := Aside0.mk (Kd.S_below (by (with_reducible repeat (first | apply Kd.S_alloc | apply Kd.S_drewN | apply Kd.S_drew)); exact HO191.out) hb); have n2_ := Aside0.mk (Kd.R_below (by (with_reducible repeat (first | apply Kd.R_alloc | apply Kd.R_drewN | apply Kd.R_drew)); exact HO194.out) hb); have n3_ := Aside0.mk (Kd.R_below (by (with_reducible repeat (first | apply Kd.R_alloc | apply Kd.R_drewN | apply Kd.R_drew)); exact HO199.out) hb); have n4_ := Aside0.mk (Kd.S_below (by (with_reducible repeat (first | apply Kd.S_alloc | apply Kd.S_drewN | apply Kd.S_drew)); exact HO202.out) hb); have n5_ := Aside0.mk (blk_below (g := gb184) (o := .cells #[.slice A0_0 l0_0.length c0_0, .slice A0_1 l0_1.length c0_1] 38 (0, 0)) (by (with_reducible repeat (first | refine blk_drewN ?_ _ | refine blk_drew ?_ | refine blk_alloc ?_ _)); exact BK184.out) hb); have n6_ := Aside0.mk (below_step (by repeat (first | (with_reducible first | exact HB.out | apply below_alloc | apply pw_below_drewN | apply below_drew1 | refine below_set ?_ GE184.out) | exact HB.out)) hb); have n7_ := Aside0.mk (hbox); have n8_ := Aside0.mk ((by rw [hg]; exact (below_size (by repeat (first | (with_reducible first | exact HB.out | apply below_alloc | apply pw_below_drewN | apply below_drew1 | refine below_set ?_ GE184.out) | exact HB.out))) : w.heap.size ≤ gb203)); have n9_ := Aside0.mk ((by rw [hg]; exact (below_size (by repeat (first | (with_reducible first | exact HB.out | apply below_alloc | apply pw_below_drewN | apply below_drew1 | refine below_set ?_ GE184.out) | exact HB.out))) : w.heap.size ≤ gb203)); have n10_ := Aside0.mk ((by rw [hg]; exact Nat.ne_of_lt (blk_lt (g := gb184) (o := .cells #[.slice A0_0 l0_0.length c0_0, .slice A0_1 l0_1.length c0_1] 38 (0, 0)) (by (with_reducible repeat (first | refine blk_drewN ?_ _ | refine blk_drew ?_ | refine blk_alloc ?_ _)); exact BK184.out)) : gb184 ≠ gb203)); have n11_ := Aside0.mk ((by rw [hg]; exact Nat.ne_of_gt (blk_lt (g := gb184) (o := .cells #[.slice A0_0 l0_0.length c0_0, .slice A0_1 l0_1.length c0_1] 38 (0, 0)) (by (with_reducible repeat (first | refine blk_drewN ?_ _ | refine blk_drew ?_ | refine blk_alloc ?_ _)); exact BK184.out)) : gb203 ≠ gb184)); clear HO188; clear HO191; clear HO194; clear HO199; clear HO202; clear BK184; clear HB; have HO188 := n0_; have HO191 := n1_; have HO194 := n2_; have HO199 := n3_; have HO202 := n4_; have BK184 := n5_; have HB := n6_; have BK203 := n7_; have GW203 := n8_; have GE203 := n9_; have NB184_203 := n10_; have NB203_184 := n11_; clear n0_ n1_ n2_ n3_ n4_ n5_ n6_ n7_ n8_ n9_ n10_ n11_; clear hb hbox hg; obtain ⟨Ao23, co23, eo23⟩ := Kd.R_slice HO199.out; subst eo23; have hnb24 := NB203_184.out; have hnc24 := NB184_203.out; have hcz25_0 : w22.cell? ⟨gb203, 0, none⟩ = some (.slice none 0 0) := (blk_cell BK203.out 0).trans rfl; have hcz25_1 : w22.cell? ⟨gb203, 1, none⟩ = some (.slice none 0 0) := (blk_cell BK203.out 1).trans rfl; have hfz25_0 := blk_frozen BK203.out 0; have hfz25_1 := blk_frozen BK203.out 1; obtain ⟨Ao26, co26, eo26⟩ := Kd.S_slice HO202.out; subst eo26) | ((with_reducible refine gate_callee (f := 40) rfl ?_); refine goesL_ (some 33) rfl rfl Try.func40 (by kernel_rfl) rfl #[.agg #[.slice Ao23 t197.length co23, .slice Ao26 t200.length co26]] rfl (by (try simp only [List.map_toArray, List.map_cons, List.map_nil]); first | done | rfl | (simp only [List.length_drop, List.length_take]; rfl)) ?_; (with_reducible refine (impl_EvenTurns.calls k _ _ t197 _ _ t200 t204 t207 t208 _ ?side1 ?side2 ?side3 ?side4 A10.out).mono ?_); (case side1 => refine (Kd.R_reads' (e := 2) (base := w.heap.size) (ok := fun k_ => ((True ∧ some k_ ≠ (.slice Ao17 t186.length co17 : Value).ownBlock) ∧ some k_ ≠ (v193 : Value).ownBlock)) (n := t197.length) (c := co23) ?_).2.2; exact (by (with_reducible repeat (first | apply Kd.R_alloc | apply Kd.R_drewN | apply Kd.R_drew)); exact (Kd.R_mono (Kd.R_far (p := ⟨gb203, 1, none⟩) (Kd.R_far (p := ⟨gb203, 0, none⟩) (Kd.R_types HO199.out BK203.out (by decide)) (fun _ hk => hk.2) (.slice Ao23 t197.length co23)) (fun _ hk => hk.2) (.slice Ao26 t200.length co26)) (fun _ h_ => h_.1)))); (case side2 => exact (Kd.R_reads' HO199.out).2.1); (case side3 => refine (Kd.S_reads' (e := 24) (base := w.heap.size) (ok := fun k_ => (((some k_ ≠ (.slice Ao23 t197.length co23 : Value).ownBlock ∧ some k_ ≠ (.slice Ao17 t186.length co17 : Value).ownBlock) ∧ some k_ ≠ (.slice Ao18 t189.length co18 : Value).ownBlock) ∧ some k_ ≠ (v193 : Value).ownBlock)) (n := t200.length) (c := co26) ?_).2.2; exact (by (with_reducible repeat (first | apply Kd.S_alloc | apply Kd.S_drewN | apply Kd.S_drew)); exact (Kd.S_mono (Kd.S_far (p := ⟨gb203, 1, none⟩) (Kd.S_far (p := ⟨gb203, 0, none⟩) (Kd.S_types HO202.out BK203.out (by decide)) (fun _ hk => hk.2) (.slice Ao23 t197.length co23)) (fun _ hk => hk.2) (.slice Ao26 t200.length co26)) (fun _ h_ => h_.1)))); (case side4 => exact (Kd.S_reads' HO202.out).2.1); rintro e w27 ⟨v205, rfl, ho0, hb⟩; refine ⟨_, rfl, ?_⟩; have n0_ := Aside0.mk (Kd.R_elder' (by (with_reducible repeat (first | apply Kd.R_alloc | apply Kd.R_drewN | apply Kd.R_drew)); exact (Kd.R_mono (Kd.R_far (p := ⟨gb203, 1, none⟩) (Kd.R_far (p := ⟨gb203, 0, none⟩) (Kd.R_types HO188.out BK203.out (by decide)) (fun _ hk => hk.2) (.slice Ao23 t197.length co23)) (fun _ hk => hk.2) (.slice Ao26 t200.length co26)) (fun _ h_ => h_.1))) (Kd.R_base ho0) hb); have n1_ := Aside0.mk (Kd.S_elder' (by (with_reducible repeat (first | apply Kd.S_alloc | apply Kd.S_drewN | apply Kd.S_drew)); exact (Kd.S_mono (Kd.S_far (p := ⟨gb203, 1, none⟩) (Kd.S_far (p := ⟨gb203, 0, none⟩) (Kd.S_types HO191.out BK203.out (by decide)) (fun _ hk => hk.2) (.slice Ao23 t197.length co23)) (fun _ hk => hk.2) (.slice Ao26 t200.length co26)) (fun _ h_ => h_.1))) (Kd.R_base ho0) hb); have n2_ := Aside0.mk (Kd.R_elder' (by (with_reducible repeat (first | apply Kd.R_alloc | apply Kd.R_drewN | apply Kd.R_drew)); exact (Kd.R_mono (Kd.R_far (p := ⟨gb203, 1, none⟩) (Kd.R_far (p := ⟨gb203, 0, none⟩) (Kd.R_types HO194.out BK203.out (by decide)) (fun _ hk => hk.2) (.slice Ao23 t197.length co23)) (fun _ hk => hk.2) (.slice Ao26 t200.length co26)) (fun _ h_ => h_.1))) (Kd.R_base ho0) hb); have n3_ := Aside0.mk (Kd.R_elder' (by (with_reducible repeat (first | apply Kd.R_alloc | apply Kd.R_drewN | apply Kd.R_drew)); exact (Kd.R_mono (Kd.R_far (p := ⟨gb203, 1, none⟩) (Kd.R_far (p := ⟨gb203, 0, none⟩) (Kd.R_types HO199.out BK203.out (by decide)) (fun _ hk => hk.2) (.slice Ao23 t197.length co23)) (fun _ hk => hk.2) (.slice Ao26 t200.length co26)) (fun _ h_ => h_.1))) (Kd.R_base ho0) hb); have n4_ := Aside0.mk (Kd.S_elder' (by (with_reducible repeat (first | apply Kd.S_alloc | apply Kd.S_drewN | apply Kd.S_drew)); exact (Kd.S_mono (Kd.S_far (p := ⟨gb203, 1, none⟩) (Kd.S_far (p := ⟨gb203, 0, none⟩) (Kd.S_types HO202.out BK203.out (by decide)) (fun _ hk => hk.2) (.slice Ao23 t197.length co23)) (fun _ hk => hk.2) (.slice Ao26 t200.length co26)) (fun _ h_ => h_.1))) (Kd.R_base ho0) hb); have n5_ := Aside0.mk (Kd.R_lower (Kd.R_new' (Kd.R_new' (Kd.R_new' ho0 (Kd.R_lt (by (with_reducible repeat (first | apply Kd.R_alloc | apply Kd.R_drewN | apply Kd.R_drew)); exact (Kd.R_mono (Kd.R_far (p := ⟨gb203, 1, none⟩) (Kd.R_far (p := ⟨gb203, 0, none⟩) (Kd.R_types HO188.out BK203.out (by decide)) (fun _ hk => hk.2) (.slice Ao23 t197.length co23)) (fun _ hk => hk.2) (.slice Ao26 t200.length co26)) (fun _ h_ => h_.1))))) (Kd.R_lt (by (with_reducible repeat (first | apply Kd.R_alloc | apply Kd.R_drewN | apply Kd.R_drew)); exact (Kd.R_mono (Kd.R_far (p := ⟨gb203, 1, none⟩) (Kd.R_far (p := ⟨gb203, 0, none⟩) (Kd.R_types HO194.out BK203.out (by decide)) (fun _ hk => hk.2) (.slice Ao23 t197.length co23)) (fun _ hk => hk.2) (.slice Ao26 t200.length co26)) (fun _ h_ => h_.1))))) (Kd.R_lt (by (with_reducible repeat (first | apply Kd.R_alloc | apply Kd.R_drewN | apply Kd.R_drew)); exact (Kd.R_mono (Kd.R_far (p := ⟨gb203, 1, none⟩) (Kd.R_far (p := ⟨gb203, 0, none⟩) (Kd.R_types HO199.out BK203.out (by decide)) (fun _ hk => hk.2) (.slice Ao23 t197.length co23)) (fun _ hk => hk.2) (.slice Ao26 t200.length co26)) (fun _ h_ => h_.1))))) (below_size (by repeat (first | (with_reducible first | exact HB.out | apply below_alloc | apply pw_below_drewN | apply below_drew1 | refine below_set ?_ GE184.out | refine below_set ?_ GE203.out) | exact HB.out)))); have n6_ := Aside0.mk (blk_below (g := gb184) (o := .cells #[.slice A0_0 l0_0.length c0_0, .slice A0_1 l0_1.length c0_1] 38 (0, 0)) (by (with_reducible repeat (first | refine blk_drewN ?_ _ | refine blk_drew ?_ | refine blk_alloc ?_ _)); refine blk_far ?_ NB184_203.out _; (with_reducible repeat (first | refine blk_drewN ?_ _ | refine blk_drew ?_ | refine blk_alloc ?_ _)); refine blk_far ?_ NB184_203.out _; (with_reducible repeat (first | refine blk_drewN ?_ _ | refine blk_drew ?_ | refine blk_alloc ?_ _)); exact BK184.out) hb); have n7_ := Aside0.mk (blk_below (g := gb203) (o := .cells #[.slice Ao23 t197.length co23, .slice Ao26 t200.length co26] 27 (0, 0)) (by (with_reducible repeat (first | refine blk_drewN ?_ _ | refine blk_drew ?_ | refine blk_alloc ?_ _)); refine blk_put (cs := #[.slice Ao23 t197.length co23, .slice none 0 0]) ?_ 1 _ rfl; (with_reducible repeat (first | refine blk_drewN ?_ _ | refine blk_drew ?_ | refine blk_alloc ?_ _)); refine blk_put (cs := #[.slice none 0 0, .slice none 0 0]) ?_ 0 _ rfl; (with_reducible repeat (first | refine blk_drewN ?_ _ | refine blk_drew ?_ | refine blk_alloc ?_ _)); exact BK203.out) hb); have n8_ := Aside0.mk (below_step (by repeat (first | (with_reducible first | exact HB.out | apply below_alloc | apply pw_below_drewN | apply below_drew1 | refine below_set ?_ GE184.out | refine below_set ?_ GE203.out) | exact HB.out)) hb); clear HO188; clear HO191; clear HO194; clear HO199; clear HO202; clear BK184; clear BK203; clear HB; have HO188 := n0_; have HO191 := n1_; have HO194 := n2_; have HO199 := n3_; have HO202 := n4_; have HO206 := n5_; have BK184 := n6_; have BK203 := n7_; have HB := n8_; clear n0_ n1_ n2_ n3_ n4_ n5_ n6_ n7_ n8_; (try clear hb); (try clear hb2); (try clear hk); (try clear hi); (try clear ho0)))
    (try simp only [Act.put, List.setIfInBounds_toArray, List.set_cons_zero, List.set_cons_succ])
    go_cut [50] (fun v50 wc => ∃ (kq : Nat) (x50_10 : Bool), v50 = .bool x50_10 ∧ Aside0 (laws_FnExactEvenTurns.j0 kq t192 t195 t196 t204 t207 t208 x50_10 l0_0 l0_1 t197 t200 = some r) ∧ Aside0 (kq ≤ k) ∧ Aside0 (Kd.R (Kd.int .i64) 2 wc w.heap.size (fun k_ => some k_ ≠ (v205 : Value).ownBlock ∧ some k_ ≠ ((.slice Ao23 t197.length co23) : Value).ownBlock) v193 t192) ∧ Aside0 (Kd.R (Kd.int .i64) 2 wc w.heap.size (fun k_ => some k_ ≠ (v193 : Value).ownBlock ∧ some k_ ≠ ((.slice Ao23 t197.length co23) : Value).ownBlock) v205 t204) ∧ Aside0 (Kd.R (Kd.int .i64) 2 wc w.heap.size (fun k_ => some k_ ≠ (v193 : Value).ownBlock ∧ some k_ ≠ (v205 : Value).ownBlock) (.slice Ao23 t197.length co23) t197) ∧ Aside0 (Kd.S (Kd.slice 2 (Kd.int .i64)) 24 wc w.heap.size (fun k_ => some k_ ≠ (v193 : Value).ownBlock ∧ some k_ ≠ (v205 : Value).ownBlock ∧ some k_ ≠ ((.slice Ao23 t197.length co23) : Value).ownBlock) (.slice Ao26 t200.length co26) t200) ∧ Aside0 (wc.heap[gb184]? = some (.cells #[(.slice A0_0 l0_0.length c0_0), (.slice A0_1 l0_1.length c0_1)] 38 (0, 0))) ∧ Aside0 (wc.heap[gb203]? = some (.cells #[(.slice Ao23 t197.length co23), (.slice Ao26 t200.length co26)] 27 (0, 0))) ∧ Aside0 (Below w.heap.size w wc))
    case first =>
      have H := HC11.out
      clear HC11
      replace H := Option.bind_eq_some_iff.mp H
      obtain ⟨t209, A280, H⟩ := H
      replace H : (if t209 = true then (if t207 = t195 then (laws_FnExactEvenTurns.j0 k t192 t195 t196 t204 t207 t208 (t208 != t196) l0_0 l0_1 t197 t200) else (laws_FnExactEvenTurns.j0 k t192 t195 t196 t204 t207 t208 true l0_0 l0_1 t197 t200)) else (laws_FnExactEvenTurns.j0 k t192 t195 t196 t204 t207 t208 true l0_0 l0_1 t197 t200)) = some r := H
      have A28 := Aside0.mk A280
      clear A280
      by_cases c29 : t209 = true
      · subst c29
        have H1 : (if t207 = t195 then (laws_FnExactEvenTurns.j0 k t192 t195 t196 t204 t207 t208 (t208 != t196) l0_0 l0_1 t197 t200) else (laws_FnExactEvenTurns.j0 k t192 t195 t196 t204 t207 t208 true l0_0 l0_1 t197 t200)) = some r := by rw [if_pos rfl] at H; exact H
        clear H
        have H := H1
        clear H1
        by_cases c30 : t207 = t195
        · rw [if_pos c30] at H
          have c30b0 : (t207 == t195) = true := beq_iff_eq.mpr c30
          have c30b1 : (t207 != t195) = false := bne_eq_false_iff_eq.mpr c30
          clear c30
          (first | rw [c30b0] | (simp only [i64_w, i32_w]; rw [c30b0]) | skip)
          have H' := Aside0.mk H
          clear H
          obtain ⟨Ao31, co31, eo31⟩ := Kd.R_slice HO206.out
          subst eo31
          obtain ⟨Ao32, co32, eo32⟩ := Kd.R_slice HO194.out
          subst eo32
          go_wp2_with (first | ((with_reducible refine gate_callee (f := 33) rfl ?_); refine goesL_ (some 39) rfl rfl Try.func33 (by kernel_rfl) rfl #[.slice Ao31 t204.length co31, .slice Ao32 t192.length co32] rfl (by (try simp only [List.map_toArray, List.map_cons, List.map_nil]); first | done | rfl | (simp only [List.length_drop, List.length_take]; rfl)) ?_; (with_reducible refine (laws_eqInt64S.calls k _ _ t204 _ _ t192 true _ ?side1 ?side2 ?side3 ?side4 A28.out).mono ?_); (case side1 => repeat (first | exact (Kd.R_reads' HO206.out).2.2 | (with_reducible refine Kd.C_alloc ?_ _) | (with_reducible refine Kd.C_drewN ?_ _) | (with_reducible refine Kd.C_drew ?_))); (case side2 => exact (Kd.R_reads' HO206.out).2.1); (case side3 => repeat (first | exact (Kd.R_reads' HO194.out).2.2 | (with_reducible refine Kd.C_alloc ?_ _) | (with_reducible refine Kd.C_drewN ?_ _) | (with_reducible refine Kd.C_drew ?_))); (case side4 => exact (Kd.R_reads' HO194.out).2.1); rintro e w' ⟨rfl, ⟨nd, rfl⟩⟩; refine ⟨_, rfl, ?_⟩))
          go_meet
          case rel => exact ⟨_, ((t208 != t196)), (by first | rfl | (simp; done) | (simp [*]; done)), H', ⟨by first | omega | exact Nat.le_refl _⟩, ⟨by (with_reducible repeat (first | apply Kd.R_alloc | apply Kd.R_drewN | apply Kd.R_drew)); exact Kd.R_mono HO194.out (fun _ hk => ⟨hk.2, hk.1.2⟩)⟩, ⟨by (with_reducible repeat (first | apply Kd.R_alloc | apply Kd.R_drewN | apply Kd.R_drew)); exact Kd.R_mono HO206.out (fun _ hk => ⟨hk.1.2, hk.2⟩)⟩, ⟨by (with_reducible repeat (first | apply Kd.R_alloc | apply Kd.R_drewN | apply Kd.R_drew)); exact Kd.R_mono HO199.out (fun _ hk => ⟨hk.1.2, hk.2⟩)⟩, ⟨by (with_reducible repeat (first | apply Kd.S_alloc | apply Kd.S_drewN | apply Kd.S_drew)); exact Kd.S_mono HO202.out (fun _ hk => ⟨hk.1.2, ⟨hk.2, hk.1.1.1.1⟩⟩)⟩, ⟨by (with_reducible repeat (first | refine blk_drewN ?_ _ | refine blk_drew ?_ | refine blk_alloc ?_ _)); exact BK184.out⟩, ⟨by (with_reducible repeat (first | refine blk_drewN ?_ _ | refine blk_drew ?_ | refine blk_alloc ?_ _)); exact BK203.out⟩, ⟨by repeat (first | (with_reducible first | exact HB.out | apply below_alloc | apply pw_below_drewN | apply below_drew1 | refine below_set ?_ GE184.out | refine below_set ?_ GE203.out) | exact HB.out)⟩⟩
        · rw [if_neg c30] at H
          have c30b0 : (t207 == t195) = false := beq_eq_false_iff_ne.mpr c30
          have c30b1 : (t207 != t195) = true := bne_iff_ne.mpr c30
          (first | rw [c30b0] | (simp only [i64_w, i32_w]; rw [c30b0]) | skip)
          exact (laws_FnExactEvenTurns.j0_cut _ _ _ _ _ _ _ _ _ _ _ _ H HRT.out).elim
      · replace c29 := Bool.eq_false_iff.mpr c29
        subst c29
        have H1 : (laws_FnExactEvenTurns.j0 k t192 t195 t196 t204 t207 t208 true l0_0 l0_1 t197 t200) = some r := by rw [if_neg (show ¬ (false = true) by decide)] at H; exact H
        clear H
        have H := H1
        clear H1
        exact (laws_FnExactEvenTurns.j0_cut _ _ _ _ _ _ _ _ _ _ _ _ H HRT.out).elim
    case rest =>
      clear HC11
      try clear c1
      try clear c2
      try clear p2
      try clear c3
      try clear c3b0
      try clear c4
      try clear c12
      try clear c24
      try clear c26
      try clear c29
      try clear c30
      try clear c30b0
      try clear c30b1
      try clear c33
      try clear hcz13_0
      try clear hcz13_1
      try clear hcz15_0
      try clear hcz15_1
      try clear hcz20_0
      try clear hcz20_1
      try clear hcz25_0
      try clear hcz25_1
      try clear hcz5_0
      try clear hcz5_1
      try clear hfz13_0
      try clear hfz13_1
      try clear hfz15_0
      try clear hfz15_1
      try clear hfz20_0
      try clear hfz20_1
      try clear hfz25_0
      try clear hfz25_1
      try clear hfz5_0
      try clear hfz5_1
      obtain ⟨kq, x50_10, rfl, HA, HJ10, HO_4, HO_8, HO_204000, HO_204001, BK184, BK203, HB⟩ := hcut
      cases kq with
      | zero => exact absurd HA.out (by simp [laws_FnExactEvenTurns.j0])
      | succ kj10 =>
        have H := HA.out
        clear HA
        simp only [laws_FnExactEvenTurns.j0] at H
        by_cases c37 : x50_10 = true
        · subst c37
          have H1 : (some false) = some r := by rw [if_pos rfl] at H; exact H
          clear H
          have H := H1
          clear H1
          obtain rfl := Option.some.inj H
          exact absurd HRT.out (by decide)
        · replace c37 := Bool.eq_false_iff.mpr c37
          subst c37
          have H1 : ((laws_toTuning.f kj10 l0_0 l0_1).bind fun bt210 => ((laws_eqTuning.f kj10 t197 t200 bt210.1 bt210.2).bind fun t216 => (if t216 = true then ((laws_markTuning.f kj10 t197 t200 1).bind fun bt217 => (if bt217.1 < 0 then (laws_FnExactEvenTurns.j1 kj10 t192 t195 t196 t204 true l0_0 l0_1) else ((laws_eqInt64S.f kj10 t204 t192).bind fun t220 => (if t220 = true then (if t207 = t195 then (laws_FnExactEvenTurns.j1 kj10 t192 t195 t196 t204 (t208 != t196) l0_0 l0_1) else (laws_FnExactEvenTurns.j1 kj10 t192 t195 t196 t204 true l0_0 l0_1)) else (laws_FnExactEvenTurns.j1 kj10 t192 t195 t196 t204 true l0_0 l0_1))))) else (some false)))) = some r := by rw [if_neg (show ¬ (false = true) by decide)] at H; exact H
          clear H
          have H := H1
          clear H1
          replace H := Option.bind_eq_some_iff.mp H
          obtain ⟨⟨t210, t213⟩, A380, H⟩ := H
          replace H : ((laws_eqTuning.f kj10 t197 t200 t210 t213).bind fun t216 => (if t216 = true then ((laws_markTuning.f kj10 t197 t200 1).bind fun bt217 => (if bt217.1 < 0 then (laws_FnExactEvenTurns.j1 kj10 t192 t195 t196 t204 true l0_0 l0_1) else ((laws_eqInt64S.f kj10 t204 t192).bind fun t220 => (if t220 = true then (if t207 = t195 then (laws_FnExactEvenTurns.j1 kj10 t192 t195 t196 t204 (t208 != t196) l0_0 l0_1) else (laws_FnExactEvenTurns.j1 kj10 t192 t195 t196 t204 true l0_0 l0_1)) else (laws_FnExactEvenTurns.j1 kj10 t192 t195 t196 t204 true l0_0 l0_1))))) else (some false))) = some r := H
          have A38 := Aside0.mk A380
          clear A380
          replace H := Option.bind_eq_some_iff.mp H
          obtain ⟨t216, A390, H⟩ := H
          replace H : (if t216 = true then ((laws_markTuning.f kj10 t197 t200 1).bind fun bt217 => (if bt217.1 < 0 then (laws_FnExactEvenTurns.j1 kj10 t192 t195 t196 t204 true l0_0 l0_1) else ((laws_eqInt64S.f kj10 t204 t192).bind fun t220 => (if t220 = true then (if t207 = t195 then (laws_FnExactEvenTurns.j1 kj10 t192 t195 t196 t204 (t208 != t196) l0_0 l0_1) else (laws_FnExactEvenTurns.j1 kj10 t192 t195 t196 t204 true l0_0 l0_1)) else (laws_FnExactEvenTurns.j1 kj10 t192 t195 t196 t204 true l0_0 l0_1))))) else (some false)) = some r := H
          have A39 := Aside0.mk A390
          clear A390
          by_cases c40 : t216 = true
          · subst c40
            have H1 : ((laws_markTuning.f kj10 t197 t200 1).bind fun bt217 => (if bt217.1 < 0 then (laws_FnExactEvenTurns.j1 kj10 t192 t195 t196 t204 true l0_0 l0_1) else ((laws_eqInt64S.f kj10 t204 t192).bind fun t220 => (if t220 = true then (if t207 = t195 then (laws_FnExactEvenTurns.j1 kj10 t192 t195 t196 t204 (t208 != t196) l0_0 l0_1) else (laws_FnExactEvenTurns.j1 kj10 t192 t195 t196 t204 true l0_0 l0_1)) else (laws_FnExactEvenTurns.j1 kj10 t192 t195 t196 t204 true l0_0 l0_1))))) = some r := by rw [if_pos rfl] at H; exact H
            clear H
            have H := H1
            clear H1
            replace H := Option.bind_eq_some_iff.mp H
            obtain ⟨⟨t217, t218, t219⟩, A410, H⟩ := H
            replace H : (if t217 < 0 then (laws_FnExactEvenTurns.j1 kj10 t192 t195 t196 t204 true l0_0 l0_1) else ((laws_eqInt64S.f kj10 t204 t192).bind fun t220 => (if t220 = true then (if t207 = t195 then (laws_FnExactEvenTurns.j1 kj10 t192 t195 t196 t204 (t208 != t196) l0_0 l0_1) else (laws_FnExactEvenTurns.j1 kj10 t192 t195 t196 t204 true l0_0 l0_1)) else (laws_FnExactEvenTurns.j1 kj10 t192 t195 t196 t204 true l0_0 l0_1)))) = some r := H
            have A41 := Aside0.mk A410
            clear A410
            have HC42 := Aside0.mk H
            clear H
            try go_wp2
            have n0_ := Aside0.mk (Kd.R_drew HO_4.out)
            have n1_ := Aside0.mk (Kd.R_drew HO_8.out)
            have n2_ := Aside0.mk (Kd.R_drew HO_204000.out)
            have n3_ := Aside0.mk (Kd.S_drew HO_204001.out)
            have n4_ := Aside0.mk (blk_drew BK184.out)
            have n5_ := Aside0.mk (blk_drew BK203.out)
            have n6_ := Aside0.mk (below_drew1 HB.out)
            clear HO_4
            clear HO_8
            clear HO_204000
            clear HO_204001
            clear BK184
            clear BK203
            clear HB
            have HO_4 := n0_
            have HO_8 := n1_
            have HO_204000 := n2_
            have HO_204001 := n3_
            have BK184 := n4_
            have BK203 := n5_
            have HB := n6_
            clear n0_ n1_ n2_ n3_ n4_ n5_ n6_
            refine start_ (n := 5) (S := fun w' => w'.cell? ⟨gb203, 0, none⟩ = some (.slice Ao23 t197.length co23) ∧ w'.cell? ⟨gb203, 1, none⟩ = some (.slice Ao26 t200.length co26) ∧ w'.cell? ⟨gb184, 0, none⟩ = some (.slice A0_0 l0_0.length c0_0) ∧ w'.cell? ⟨gb184, 1, none⟩ = some (.slice A0_1 l0_1.length c0_1)) (ds := []) #[false, false, false, false, false] (by kernel_rfl) rfl rfl ⟨(blk_cell BK203.out 0).trans rfl, (blk_cell BK203.out 1).trans rfl, (blk_cell BK184.out 0).trans rfl, (blk_cell BK184.out 1).trans rfl⟩ (fun hHeld => ?_)
            generalize wc.drew = w43 at HO_4 HO_8 HO_204000 HO_204001 BK184 BK203 HB hHeld ⊢
            refine take_ (i := 0) (N := some 51) (v := ?_) (a' := ?_) #[true, false, false, false, false] rfl rfl (by kernel_rfl) (fun _ _ _ h => h) (Or.inl ⟨by rfl, ?_⟩) hHeld ?_ ?_
            rotate_left
            · rintro w' ⟨s0, s1, s2, s3⟩
              go_simp
              with_reducible rfl
            rotate_left
            · simp only [Act.put, List.setIfInBounds_toArray, List.set_cons_zero, List.set_cons_succ, i64_w, i32_w]
              rfl
            refine take_ (i := 1) (N := some 52) (v := ?_) (a' := ?_) #[true, true, false, false, false] rfl rfl (by kernel_rfl) (fun _ _ _ h => h) (Or.inl ⟨by rfl, ?_⟩) hHeld ?_ ?_
            rotate_left
            · rintro w' ⟨s0, s1, s2, s3⟩
              go_simp
              with_reducible rfl
            rotate_left
            · simp only [Act.put, List.setIfInBounds_toArray, List.set_cons_zero, List.set_cons_succ, i64_w, i32_w]
              rfl
            refine one_ (i := 2) (N := some 53) #[true, true, true, false, false] rfl rfl (by kernel_rfl) (by decide) (fun K hK => ?_)
            refine goes_ Try.func26 (by kernel_rfl) rfl #[.agg #[.slice A0_0 l0_0.length c0_0, .slice A0_1 l0_1.length c0_1]] (by rfl) rfl rfl (by (try simp only [List.map_toArray, List.map_cons, List.map_nil]); first | done | rfl | (simp only [List.length_drop, List.length_take]; rfl)) ?_
            with_reducible refine (laws_toTuning.calls kj10 _ _ l0_0 _ _ l0_1 t210 t213 _ ?side1 ?side2 ?side3 ?side4 A38.out).mono ?_
            (case side1 => repeat (first | exact (Kd.C_below HR0_0.out HB.out) | (with_reducible refine Kd.C_alloc ?_ _) | (with_reducible refine Kd.C_drewN ?_ _) | (with_reducible refine Kd.C_drew ?_)))
            (case side2 => exact HC0_0.out)
            (case side3 => repeat (first | exact (Kd.C_below HR0_1.out HB.out) | (with_reducible refine Kd.C_alloc ?_ _) | (with_reducible refine Kd.C_drewN ?_ _) | (with_reducible refine Kd.C_drew ?_)))
            (case side4 => exact HC0_1.out)
            rintro e w44 ⟨v211, v214, rfl, ho0, ho1, hb⟩
            refine ⟨_, rfl, ?_⟩
            have n0_ := Aside0.mk (Kd.R_elder' (by (with_reducible repeat (first | apply Kd.R_alloc | apply Kd.R_drewN | apply Kd.R_drew)); exact HO_4.out) (Kd.R_base ho0) hb)
            have n1_ := Aside0.mk (Kd.R_elder' (by (with_reducible repeat (first | apply Kd.R_alloc | apply Kd.R_drewN | apply Kd.R_drew)); exact HO_8.out) (Kd.R_base ho0) hb)
            have n2_ := Aside0.mk (Kd.R_elder' (by (with_reducible repeat (first | apply Kd.R_alloc | apply Kd.R_drewN | apply Kd.R_drew)); exact HO_204000.out) (Kd.R_base ho0) hb)
            have n3_ := Aside0.mk (Kd.S_mono (Kd.S_told (Kd.S_told (Kd.S_old (by (with_reducible repeat (first | apply Kd.S_alloc | apply Kd.S_drewN | apply Kd.S_drew)); exact HO_204001.out) hb) (Kd.R_base ho0)) (Kd.S_base ho1)) (fun _ h_ => h_.1))
            have n4_ := Aside0.mk (Kd.R_lower (Kd.R_new' (Kd.R_new' (Kd.R_new' ho0 (Kd.R_lt (by (with_reducible repeat (first | apply Kd.R_alloc | apply Kd.R_drewN | apply Kd.R_drew)); exact HO_4.out))) (Kd.R_lt (by (with_reducible repeat (first | apply Kd.R_alloc | apply Kd.R_drewN | apply Kd.R_drew)); exact HO_8.out))) (Kd.R_lt (by (with_reducible repeat (first | apply Kd.R_alloc | apply Kd.R_drewN | apply Kd.R_drew)); exact HO_204000.out))) (below_size (by repeat (first | (with_reducible first | exact HB.out | apply below_alloc | apply pw_below_drewN | apply below_drew1 | refine below_set ?_ GE184.out | refine below_set ?_ GE203.out) | exact HB.out))))
            have n5_ := Aside0.mk (Kd.S_lower (Kd.S_new' (Kd.S_new' (Kd.S_new' (Kd.S_new' ho1 (Kd.R_lt (by (with_reducible repeat (first | apply Kd.R_alloc | apply Kd.R_drewN | apply Kd.R_drew)); exact HO_4.out))) (Kd.R_lt (by (with_reducible repeat (first | apply Kd.R_alloc | apply Kd.R_drewN | apply Kd.R_drew)); exact HO_8.out))) (Kd.R_lt (by (with_reducible repeat (first | apply Kd.R_alloc | apply Kd.R_drewN | apply Kd.R_drew)); exact HO_204000.out))) (Kd.S_lt (by (with_reducible repeat (first | apply Kd.S_alloc | apply Kd.S_drewN | apply Kd.S_drew)); exact HO_204001.out))) (below_size (by repeat (first | (with_reducible first | exact HB.out | apply below_alloc | apply pw_below_drewN | apply below_drew1 | refine below_set ?_ GE184.out | refine below_set ?_ GE203.out) | exact HB.out))))
            have n6_ := Aside0.mk (blk_below (g := gb184) (o := .cells #[.slice A0_0 l0_0.length c0_0, .slice A0_1 l0_1.length c0_1] 38 (0, 0)) (by (with_reducible repeat (first | refine blk_drewN ?_ _ | refine blk_drew ?_ | refine blk_alloc ?_ _)); exact BK184.out) hb)
            have n7_ := Aside0.mk (blk_below (g := gb203) (o := .cells #[.slice Ao23 t197.length co23, .slice Ao26 t200.length co26] 27 (0, 0)) (by (with_reducible repeat (first | refine blk_drewN ?_ _ | refine blk_drew ?_ | refine blk_alloc ?_ _)); exact BK203.out) hb)
            have n8_ := Aside0.mk (below_step (by repeat (first | (with_reducible first | exact HB.out | apply below_alloc | apply pw_below_drewN | apply below_drew1 | refine below_set ?_ GE184.out | refine below_set ?_ GE203.out) | exact HB.out)) hb)
            clear HO_4
            clear HO_8
            clear HO_204000
            clear HO_204001
            clear BK184
            clear BK203
            clear HB
            have HO_4 := n0_
            have HO_8 := n1_
            have HO_204000 := n2_
            have HO_204001 := n3_
            have HO212 := n4_
            have HO215 := n5_
            have BK184 := n6_
            have BK203 := n7_
            have HB := n8_
            clear n0_ n1_ n2_ n3_ n4_ n5_ n6_ n7_ n8_
            (try clear hb)
            (try clear hb2)
            (try clear hk)
            (try clear hi)
            (try clear ho0)
            (try clear ho1)
            obtain ⟨Ao45, co45, eo45⟩ := Kd.R_slice HO212.out
            (first | subst eo45 | (injection eo45 with f1_ f2_ f3_; have f4_ := f1_.symm; have f5_ := f3_.symm; clear f1_ f2_ f3_; subst f4_; subst f5_))
            obtain ⟨Ao46, co46, eo46⟩ := Kd.S_slice HO215.out
            (first | subst eo46 | (injection eo46 with f1_ f2_ f3_; have f4_ := f1_.symm; have f5_ := f3_.symm; clear f1_ f2_ f3_; subst f4_; subst f5_))
            refine hK.out _ _ ⟨(blk_cell BK203.out 0).trans rfl, (blk_cell BK203.out 1).trans rfl, (blk_cell BK184.out 0).trans rfl, (blk_cell BK184.out 1).trans rfl⟩ (fun hHeld => ?_)
            clear hK K
            refine norm_ (a' := ?_) ?_ ?_
            rotate_left
            · show Act.put _ (some 53) _ = _
              simp only [Act.put, List.setIfInBounds_toArray, List.set_cons_zero, List.set_cons_succ, i64_w, i32_w]
              rfl
            refine one_ (i := 3) (N := some 54) #[true, true, true, true, false] rfl rfl (by kernel_rfl) (by decide) (fun K hK => ?_)
            refine goes_ Try.func28 (by kernel_rfl) rfl #[.agg #[.slice Ao23 t197.length co23, .slice Ao26 t200.length co26], .agg #[.slice Ao45 t210.length co45, .slice Ao46 t213.length co46]] (by rfl) rfl rfl (by (try simp only [List.map_toArray, List.map_cons, List.map_nil]); first | done | rfl | (simp only [List.length_drop, List.length_take]; rfl)) ?_
            with_reducible refine (laws_eqTuning.calls kj10 _ _ t197 _ _ t200 _ _ t210 _ _ t213 true _ ?side1 ?side2 ?side3 ?side4 ?side5 ?side6 ?side7 ?side8 A39.out).mono ?_
            (case side1 => repeat (first | exact (Kd.R_reads' HO_204000.out).2.2 | (with_reducible refine Kd.C_alloc ?_ _) | (with_reducible refine Kd.C_drewN ?_ _) | (with_reducible refine Kd.C_drew ?_)))
            (case side2 => exact (Kd.R_reads' HO_204000.out).2.1)
            (case side3 => repeat (first | exact (Kd.S_reads' HO_204001.out).2.2 | (with_reducible refine Kd.C_alloc ?_ _) | (with_reducible refine Kd.C_drewN ?_ _) | (with_reducible refine Kd.C_drew ?_)))
            (case side4 => exact (Kd.S_reads' HO_204001.out).2.1)
            (case side5 => repeat (first | exact (Kd.R_reads' HO212.out).2.2 | (with_reducible refine Kd.C_alloc ?_ _) | (with_reducible refine Kd.C_drewN ?_ _) | (with_reducible refine Kd.C_drew ?_)))
            (case side6 => exact (Kd.R_reads' HO212.out).2.1)
            (case side7 => repeat (first | exact (Kd.S_reads' HO215.out).2.2 | (with_reducible refine Kd.C_alloc ?_ _) | (with_reducible refine Kd.C_drewN ?_ _) | (with_reducible refine Kd.C_drew ?_)))
            (case side8 => exact (Kd.S_reads' HO215.out).2.1)
            rintro e w47 ⟨rfl, hb⟩
            refine ⟨_, rfl, ?_⟩
            have n0_ := Aside0.mk (Kd.R_below (by (with_reducible repeat (first | apply Kd.R_alloc | apply Kd.R_drewN | apply Kd.R_drew)); exact HO_4.out) hb)
            have n1_ := Aside0.mk (Kd.R_below (by (with_reducible repeat (first | apply Kd.R_alloc | apply Kd.R_drewN | apply Kd.R_drew)); exact HO_8.out) hb)
            have n2_ := Aside0.mk (Kd.R_below (by (with_reducible repeat (first | apply Kd.R_alloc | apply Kd.R_drewN | apply Kd.R_drew)); exact HO_204000.out) hb)
            have n3_ := Aside0.mk (Kd.S_below (by (with_reducible repeat (first | apply Kd.S_alloc | apply Kd.S_drewN | apply Kd.S_drew)); exact HO_204001.out) hb)
            have n4_ := Aside0.mk (Kd.R_below (by (with_reducible repeat (first | apply Kd.R_alloc | apply Kd.R_drewN | apply Kd.R_drew)); exact HO212.out) hb)
            have n5_ := Aside0.mk (Kd.S_below (by (with_reducible repeat (first | apply Kd.S_alloc | apply Kd.S_drewN | apply Kd.S_drew)); exact HO215.out) hb)
            have n6_ := Aside0.mk (blk_below (g := gb184) (o := .cells #[.slice A0_0 l0_0.length c0_0, .slice A0_1 l0_1.length c0_1] 38 (0, 0)) (by (with_reducible repeat (first | refine blk_drewN ?_ _ | refine blk_drew ?_ | refine blk_alloc ?_ _)); exact BK184.out) hb)
            have n7_ := Aside0.mk (blk_below (g := gb203) (o := .cells #[.slice Ao23 t197.length co23, .slice Ao26 t200.length co26] 27 (0, 0)) (by (with_reducible repeat (first | refine blk_drewN ?_ _ | refine blk_drew ?_ | refine blk_alloc ?_ _)); exact BK203.out) hb)
            have n8_ := Aside0.mk (below_step (by repeat (first | (with_reducible first | exact HB.out | apply below_alloc | apply pw_below_drewN | apply below_drew1 | refine below_set ?_ GE184.out | refine below_set ?_ GE203.out) | exact HB.out)) hb)
            clear HO_4
            clear HO_8
            clear HO_204000
            clear HO_204001
            clear HO212
            clear HO215
            clear BK184
            clear BK203
            clear HB
            have HO_4 := n0_
            have HO_8 := n1_
            have HO_204000 := n2_
            have HO_204001 := n3_
            have HO212 := n4_
            have HO215 := n5_
            have BK184 := n6_
            have BK203 := n7_
            have HB := n8_
            clear n0_ n1_ n2_ n3_ n4_ n5_ n6_ n7_ n8_
            (try clear hb)
            (try clear hb2)
            (try clear hk)
            (try clear hi)
            refine hK.out _ _ ⟨(blk_cell BK203.out 0).trans rfl, (blk_cell BK203.out 1).trans rfl, (blk_cell BK184.out 0).trans rfl, (blk_cell BK184.out 1).trans rfl⟩ (fun hHeld => ?_)
            clear hK K
            refine norm_ (a' := ?_) ?_ ?_
            rotate_left
            · show Act.put _ (some 54) _ = _
              simp only [Act.put, List.setIfInBounds_toArray, List.set_cons_zero, List.set_cons_succ, i64_w, i32_w]
              rfl
            refine pure_ (i := 4) (N := some 55) (v := ?_) (a' := ?_) #[true, true, true, true, true] rfl rfl (by kernel_rfl) (fun _ _ _ h => h) (Or.inl ⟨by rfl, ?_⟩) ?_ ?_
            rotate_left
            · intro w'
              go_simp
              with_reducible rfl
            rotate_left
            · simp only [Act.put, List.setIfInBounds_toArray, List.set_cons_zero, List.set_cons_succ, i64_w, i32_w]
              rfl
            refine done_ (by kernel_rfl) ?_
            have hnb48 := NB203_184.out
            have hnc48 := NB184_203.out
            have hcz49_0 : w47.cell? ⟨gb203, 0, none⟩ = some (.slice Ao23 t197.length co23) := (blk_cell BK203.out 0).trans rfl
            have hcz49_1 : w47.cell? ⟨gb203, 1, none⟩ = some (.slice Ao26 t200.length co26) := (blk_cell BK203.out 1).trans rfl
            have hfz49_0 := blk_frozen BK203.out 0
            have hfz49_1 := blk_frozen BK203.out 1
            go_upto_region 14 with (first | ((with_reducible refine gate_callee (f := 36) rfl ?_); refine goesL_ (some 58) rfl rfl Try.func36 (by kernel_rfl) rfl #[.agg #[.slice Ao23 t197.length co23, .slice Ao26 t200.length co26], .int .i64 1] rfl (by (try simp only [List.map_toArray, List.map_cons, List.map_nil]); first | done | rfl | (simp only [List.length_drop, List.length_take]; rfl)) ?_; (with_reducible refine (laws_markTuning.calls kj10 (fun k_ => some k_ = (.slice Ao23 t197.length co23 : Value).ownBlock) (.slice Ao23 t197.length co23) t197 (fun k_ => (((((some k_ ≠ (v193 : Value).ownBlock ∧ (some k_ ≠ (v205 : Value).ownBlock ∧ some k_ ≠ (.slice Ao23 t197.length co23 : Value).ownBlock)) ∧ some k_ ≠ (.slice Ao45 t210.length co45 : Value).ownBlock) ∧ some k_ ≠ (.slice Ao46 t213.length co46 : Value).ownBlock) ∧ k_ ≠ gb184) ∧ k_ ≠ gb203) ∧ w.heap.size ≤ k_) (.slice Ao26 t200.length co26) t200 1 t217 t218 t219 w _ ?side1 ?side2 ?side3 ?side4 A41.out).mono ?_); (case side1 => repeat (first | (with_reducible first | exact HB.out | apply below_alloc | apply pw_below_drewN | apply below_drew1 | refine below_set ?_ GE184.out | refine below_set ?_ GE203.out) | exact HB.out)); (case side2 => exact Kd.R_tight rfl HO_204000.out); (case side3 => exact fun k_ e_ h_ => (h_.1.1.1.1.1.2.2) e_); (case side4 => exact Kd.S_mono (Kd.S_bound (Kd.S_types (Kd.S_types (HO_204001.out) BK184.out (by decide)) BK203.out (by decide))) (fun k_ hk => ⟨hk.1, hk.2.1⟩)); rintro e w50 ⟨rfl, hy0, hy1, hb, hkp⟩; refine ⟨_, rfl, ?_⟩; have n0_ := Aside0.mk (Kd.R_mono (ok' := fun k_ => some k_ ≠ (v205 : Value).ownBlock ∧ some k_ ≠ (.slice Ao23 t197.length co23 : Value).ownBlock ∧ some k_ ≠ (.slice Ao45 t210.length co45 : Value).ownBlock) (Kd.R_keptB ((Kd.R_mono (Kd.R_tight2 rfl HO_4.out) (fun k_ hk => (⟨hk.2, fun e_ => (e_.1.1.1.1.1.1) hk.1⟩ : _ ∧ ¬ ((fun k_ => (((((some k_ ≠ (v193 : Value).ownBlock ∧ (some k_ ≠ (v205 : Value).ownBlock ∧ some k_ ≠ (.slice Ao23 t197.length co23 : Value).ownBlock)) ∧ some k_ ≠ (.slice Ao45 t210.length co45 : Value).ownBlock) ∧ some k_ ≠ (.slice Ao46 t213.length co46 : Value).ownBlock) ∧ k_ ≠ gb184) ∧ k_ ≠ gb203) ∧ w.heap.size ≤ k_)) k_)))) hkp (fun k_ hk_ hs_ => Or.elim hs_ (fun e_ => (hk_.1.1.2) e_) (fun e_ => (hk_.2) e_))) (fun k_ hk_ => ⟨hk_.1.1.1.1, hk_.1.1.1.2, hk_.1.1.2⟩)); have n1_ := Aside0.mk (Kd.R_mono (ok' := fun k_ => some k_ ≠ (v193 : Value).ownBlock ∧ some k_ ≠ (.slice Ao23 t197.length co23 : Value).ownBlock ∧ some k_ ≠ (.slice Ao45 t210.length co45 : Value).ownBlock) (Kd.R_keptB ((Kd.R_mono (Kd.R_tight2 rfl HO_8.out) (fun k_ hk => (⟨hk.2, fun e_ => (e_.1.1.1.1.1.2.1) hk.1⟩ : _ ∧ ¬ ((fun k_ => (((((some k_ ≠ (v193 : Value).ownBlock ∧ (some k_ ≠ (v205 : Value).ownBlock ∧ some k_ ≠ (.slice Ao23 t197.length co23 : Value).ownBlock)) ∧ some k_ ≠ (.slice Ao45 t210.length co45 : Value).ownBlock) ∧ some k_ ≠ (.slice Ao46 t213.length co46 : Value).ownBlock) ∧ k_ ≠ gb184) ∧ k_ ≠ gb203) ∧ w.heap.size ≤ k_)) k_)))) hkp (fun k_ hk_ hs_ => Or.elim hs_ (fun e_ => (hk_.1.1.2) e_) (fun e_ => (hk_.2) e_))) (fun k_ hk_ => ⟨hk_.1.1.1.1, hk_.1.1.1.2, hk_.1.1.2⟩)); have n2_ := Aside0.mk (Kd.R_reok rfl hy0 (fun k_ e_ => HO_204000.out.1 k_ e_)); have n3_ := Aside0.mk (Kd.S_mono (ok' := (fun k_ => some k_ ≠ (v193 : Value).ownBlock ∧ some k_ ≠ (v205 : Value).ownBlock ∧ some k_ ≠ (.slice Ao23 t197.length co23 : Value).ownBlock ∧ some k_ ≠ (.slice Ao45 t210.length co45 : Value).ownBlock ∧ some k_ ≠ (.slice Ao46 t213.length co46 : Value).ownBlock)) hy1 (fun k_ hk_ => ⟨hk_.1.1.1.1.1.1, ⟨hk_.1.1.1.1.1.2.1, ⟨hk_.1.1.1.1.1.2.2, ⟨hk_.1.1.1.1.2, hk_.1.1.1.2⟩⟩⟩⟩)); have n4_ := Aside0.mk (blk_kept (g := gb184) (o := .cells #[.slice A0_0 l0_0.length c0_0, .slice A0_1 l0_1.length c0_1] 38 (0, 0)) (by (with_reducible repeat (first | refine blk_drewN ?_ _ | refine blk_drew ?_ | refine blk_alloc ?_ _)); exact BK184.out) hkp (fun hs_ => Or.elim hs_ (fun e_ => (fun e_ => (Kd.R_ne HO_204000.out BK184.out (by decide)) e_) e_) (fun e_ => (fun (e_ : (fun k_ => (((((some k_ ≠ (v193 : Value).ownBlock ∧ (some k_ ≠ (v205 : Value).ownBlock ∧ some k_ ≠ (.slice Ao23 t197.length co23 : Value).ownBlock)) ∧ some k_ ≠ (.slice Ao45 t210.length co45 : Value).ownBlock) ∧ some k_ ≠ (.slice Ao46 t213.length co46 : Value).ownBlock) ∧ k_ ≠ gb184) ∧ k_ ≠ gb203) ∧ w.heap.size ≤ k_) gb184) => (e_.1.1.2) rfl) e_))); have n5_ := Aside0.mk (blk_kept (g := gb203) (o := .cells #[.slice Ao23 t197.length co23, .slice Ao26 t200.length co26] 27 (0, 0)) (by (with_reducible repeat (first | refine blk_drewN ?_ _ | refine blk_drew ?_ | refine blk_alloc ?_ _)); exact BK203.out) hkp (fun hs_ => Or.elim hs_ (fun e_ => (fun e_ => (Kd.R_ne HO_204000.out BK203.out (by decide)) e_) e_) (fun e_ => (fun (e_ : (fun k_ => (((((some k_ ≠ (v193 : Value).ownBlock ∧ (some k_ ≠ (v205 : Value).ownBlock ∧ some k_ ≠ (.slice Ao23 t197.length co23 : Value).ownBlock)) ∧ some k_ ≠ (.slice Ao45 t210.length co45 : Value).ownBlock) ∧ some k_ ≠ (.slice Ao46 t213.length co46 : Value).ownBlock) ∧ k_ ≠ gb184) ∧ k_ ≠ gb203) ∧ w.heap.size ≤ k_) gb203) => (e_.1.2) rfl) e_))); have n6_ := Aside0.mk (Kd.R_mono (ok' := fun k_ => some k_ ≠ (v193 : Value).ownBlock ∧ some k_ ≠ (v205 : Value).ownBlock ∧ some k_ ≠ (.slice Ao23 t197.length co23 : Value).ownBlock) (Kd.R_keptB ((Kd.R_mono (Kd.R_tight2 rfl HO212.out) (fun k_ hk => (⟨hk.2, fun e_ => (e_.1.1.1.1.2) hk.1⟩ : _ ∧ ¬ ((fun k_ => (((((some k_ ≠ (v193 : Value).ownBlock ∧ (some k_ ≠ (v205 : Value).ownBlock ∧ some k_ ≠ (.slice Ao23 t197.length co23 : Value).ownBlock)) ∧ some k_ ≠ (.slice Ao45 t210.length co45 : Value).ownBlock) ∧ some k_ ≠ (.slice Ao46 t213.length co46 : Value).ownBlock) ∧ k_ ≠ gb184) ∧ k_ ≠ gb203) ∧ w.heap.size ≤ k_)) k_)))) hkp (fun k_ hk_ hs_ => Or.elim hs_ (fun e_ => (hk_.1.2) e_) (fun e_ => (hk_.2) e_))) (fun k_ hk_ => ⟨hk_.1.1.1.1.2, hk_.1.1.1.2, hk_.1.1.2⟩)); have n7_ := Aside0.mk (hb); clear HO_4; clear HO_8; clear HO_204000; clear HO_204001; clear BK184; clear BK203; clear HO212; clear HB; clear HO215; have HO_4 := n0_; have HO_8 := n1_; have HO_204000 := n2_; have HO_204001 := n3_; have BK184 := n4_; have BK203 := n5_; have HO212 := n6_; have HB := n7_; clear n0_ n1_ n2_ n3_ n4_ n5_ n6_ n7_; (try clear hb); (try clear hkp); (try clear hy0); (try clear hy1)))
            (try simp only [Act.put, List.setIfInBounds_toArray, List.set_cons_zero, List.set_cons_succ])
            go_cut [76] (fun v76 wc => ∃ (kq : Nat) (x76_41 : Bool), v76 = .bool x76_41 ∧ Aside0 (laws_FnExactEvenTurns.j1 kq t192 t195 t196 t204 x76_41 l0_0 l0_1 = some r) ∧ Aside0 (kq ≤ kj10) ∧ Aside0 (Kd.R (Kd.int .i64) 2 wc w.heap.size (fun k_ => some k_ ≠ (v205 : Value).ownBlock ∧ some k_ ≠ ((.slice Ao23 t197.length co23) : Value).ownBlock) v193 t192) ∧ Aside0 (Kd.R (Kd.int .i64) 2 wc w.heap.size (fun k_ => some k_ ≠ (v193 : Value).ownBlock ∧ some k_ ≠ ((.slice Ao23 t197.length co23) : Value).ownBlock) v205 t204) ∧ Aside0 (Kd.R (Kd.int .i64) 2 wc w.heap.size (fun k_ => some k_ ≠ (v193 : Value).ownBlock ∧ some k_ ≠ (v205 : Value).ownBlock) (.slice Ao23 t197.length co23) t218) ∧ Aside0 (Kd.S (Kd.slice 2 (Kd.int .i64)) 24 wc w.heap.size (fun k_ => some k_ ≠ (v193 : Value).ownBlock ∧ some k_ ≠ (v205 : Value).ownBlock ∧ some k_ ≠ ((.slice Ao23 t197.length co23) : Value).ownBlock) (.slice Ao26 t200.length co26) t219) ∧ Aside0 (wc.heap[gb184]? = some (.cells #[(.slice A0_0 l0_0.length c0_0), (.slice A0_1 l0_1.length c0_1)] 38 (0, 0))) ∧ Aside0 (wc.heap[gb203]? = some (.cells #[(.slice Ao23 t197.length co23), (.slice Ao26 t200.length co26)] 27 (0, 0))) ∧ Aside0 (Below w.heap.size w wc))
            case first =>
              have H := HC42.out
              clear HC42
              by_cases c51 : t217 < 0
              · rw [if_pos c51] at H
                have c51b0 : decide (t217 < 0) = true := decide_eq_true c51
                clear c51
                (first | rw [c51b0] | (simp only [i64_w, i32_w]; rw [c51b0]) | skip)
                exact (laws_FnExactEvenTurns.j1_cut _ _ _ _ _ _ _ _ H HRT.out).elim
              · rw [if_neg c51] at H
                have c51b0 : decide (t217 < 0) = false := decide_eq_false c51
                clear c51
                (first | rw [c51b0] | (simp only [i64_w, i32_w]; rw [c51b0]) | skip)
                replace H := Option.bind_eq_some_iff.mp H
                obtain ⟨t220, A520, H⟩ := H
                replace H : (if t220 = true then (if t207 = t195 then (laws_FnExactEvenTurns.j1 kj10 t192 t195 t196 t204 (t208 != t196) l0_0 l0_1) else (laws_FnExactEvenTurns.j1 kj10 t192 t195 t196 t204 true l0_0 l0_1)) else (laws_FnExactEvenTurns.j1 kj10 t192 t195 t196 t204 true l0_0 l0_1)) = some r := H
                have A52 := Aside0.mk A520
                clear A520
                by_cases c53 : t220 = true
                · subst c53
                  have H1 : (if t207 = t195 then (laws_FnExactEvenTurns.j1 kj10 t192 t195 t196 t204 (t208 != t196) l0_0 l0_1) else (laws_FnExactEvenTurns.j1 kj10 t192 t195 t196 t204 true l0_0 l0_1)) = some r := by rw [if_pos rfl] at H; exact H
                  clear H
                  have H := H1
                  clear H1
                  by_cases c54 : t207 = t195
                  · rw [if_pos c54] at H
                    have c54b0 : (t207 == t195) = true := beq_iff_eq.mpr c54
                    have c54b1 : (t207 != t195) = false := bne_eq_false_iff_eq.mpr c54
                    clear c54
                    have H' := Aside0.mk H
                    clear H
                    obtain ⟨Ao55, co55, eo55⟩ := Kd.R_slice HO_8.out
                    subst eo55
                    obtain ⟨Ao56, co56, eo56⟩ := Kd.R_slice HO_4.out
                    subst eo56
                    go_wp2_with (first | (go_at_call 33; (with_reducible refine (laws_eqInt64S.calls kj10 _ _ t204 _ _ t192 true _ ?side1 ?side2 ?side3 ?side4 A52.out).mono ?_); (case side1 => repeat (first | exact (Kd.R_reads' HO_8.out).2.2 | (with_reducible refine Kd.C_alloc ?_ _) | (with_reducible refine Kd.C_drewN ?_ _) | (with_reducible refine Kd.C_drew ?_))); (case side2 => exact (Kd.R_reads' HO_8.out).2.1); (case side3 => repeat (first | exact (Kd.R_reads' HO_4.out).2.2 | (with_reducible refine Kd.C_alloc ?_ _) | (with_reducible refine Kd.C_drewN ?_ _) | (with_reducible refine Kd.C_drew ?_))); (case side4 => exact (Kd.R_reads' HO_4.out).2.1); rintro e w' ⟨rfl, ⟨nd, rfl⟩⟩))
                    go_meet
                    case rel => exact ⟨_, ((t208 != t196)), (by first | rfl | (simp; done) | (simp [*]; done)), H', ⟨by have := HJ10.out; first | omega | exact Nat.le_refl _⟩, ⟨by (with_reducible repeat (first | apply Kd.R_alloc | apply Kd.R_drewN | apply Kd.R_drew)); exact Kd.R_mono HO_4.out (fun _ hk => ⟨hk.1, hk.2.1⟩)⟩, ⟨by (with_reducible repeat (first | apply Kd.R_alloc | apply Kd.R_drewN | apply Kd.R_drew)); exact Kd.R_mono HO_8.out (fun _ hk => ⟨hk.1, hk.2.1⟩)⟩, ⟨by (with_reducible repeat (first | apply Kd.R_alloc | apply Kd.R_drewN | apply Kd.R_drew)); exact Kd.R_mono HO_204000.out (fun _ hk => ⟨hk.1.1, hk.1.2⟩)⟩, ⟨by (with_reducible repeat (first | apply Kd.S_alloc | apply Kd.S_drewN | apply Kd.S_drew)); exact Kd.S_mono HO_204001.out (fun _ hk => ⟨hk.1, ⟨hk.2.1, hk.2.2.1⟩⟩)⟩, ⟨by (with_reducible repeat (first | refine blk_drewN ?_ _ | refine blk_drew ?_ | refine blk_alloc ?_ _)); exact BK184.out⟩, ⟨by (with_reducible repeat (first | refine blk_drewN ?_ _ | refine blk_drew ?_ | refine blk_alloc ?_ _)); exact BK203.out⟩, ⟨by repeat (first | (with_reducible first | exact HB.out | apply below_alloc | apply pw_below_drewN | apply below_drew1 | refine below_set ?_ GE184.out | refine below_set ?_ GE203.out) | exact HB.out)⟩⟩
                  · rw [if_neg c54] at H
                    have c54b0 : (t207 == t195) = false := beq_eq_false_iff_ne.mpr c54
                    have c54b1 : (t207 != t195) = true := bne_iff_ne.mpr c54
                    exact (laws_FnExactEvenTurns.j1_cut _ _ _ _ _ _ _ _ H HRT.out).elim
                · replace c53 := Bool.eq_false_iff.mpr c53
                  subst c53
                  have H1 : (laws_FnExactEvenTurns.j1 kj10 t192 t195 t196 t204 true l0_0 l0_1) = some r := by rw [if_neg (show ¬ (false = true) by decide)] at H; exact H
                  clear H
                  have H := H1
                  clear H1
                  exact (laws_FnExactEvenTurns.j1_cut _ _ _ _ _ _ _ _ H HRT.out).elim
            case rest =>
              clear HC42
              try clear c1
              try clear c2
              try clear p2
              try clear c3
              try clear c3b0
              try clear c4
              try clear c5
              try clear c12
              try clear c24
              try clear c26
              try clear c28
              try clear c29
              try clear c30
              try clear c30b0
              try clear c30b1
              try clear c33
              try clear c36
              try clear c37
              try clear c40
              try clear c44
              try clear c48
              try clear c51
              try clear c51b0
              try clear c53
              try clear c54
              try clear c54b0
              try clear c54b1
              try clear hcz13_0
              try clear hcz13_1
              try clear hcz15_0
              try clear hcz15_1
              try clear hcz20_0
              try clear hcz20_1
              try clear hcz25_0
              try clear hcz25_1
              try clear hcz49_0
              try clear hcz49_1
              try clear hcz5_0
              try clear hcz5_1
              try clear hfz13_0
              try clear hfz13_1
              try clear hfz15_0
              try clear hfz15_1
              try clear hfz20_0
              try clear hfz20_1
              try clear hfz25_0
              try clear hfz25_1
              try clear hfz49_0
              try clear hfz49_1
              try clear hfz5_0
              try clear hfz5_1
              try clear p2
              obtain ⟨kq, x76_41, rfl, HA, HJ41, HO_4, HO_8, HO_204000, HO_204001, BK184, BK203, HB⟩ := hcut
              have hl204000_41 := (Kd.R_reads' HO_204000.out).1
              rw [hl204000_41] at HO_204000
              (try simp only [hl204000_41])
              (try simp only [hl204000_41] at BK184)
              (try simp only [hl204000_41] at BK203)
              (try simp only [hl204000_41] at HO_4)
              (try simp only [hl204000_41] at HO_8)
              (try simp only [hl204000_41] at HO_204001)
              have hl204001_41 := (Kd.S_reads' HO_204001.out).1
              rw [hl204001_41] at HO_204001
              (try simp only [hl204001_41])
              (try simp only [hl204001_41] at BK184)
              (try simp only [hl204001_41] at BK203)
              (try simp only [hl204001_41] at HO_4)
              (try simp only [hl204001_41] at HO_8)
              (try simp only [hl204001_41] at HO_204000)
              cases kq with
              | zero => exact absurd HA.out (by simp [laws_FnExactEvenTurns.j1])
              | succ kj41 =>
                have H := HA.out
                clear HA
                simp only [laws_FnExactEvenTurns.j1] at H
                by_cases c61 : x76_41 = true
                · subst c61
                  have H1 : (some false) = some r := by rw [if_pos rfl] at H; exact H
                  clear H
                  have H := H1
                  clear H1
                  obtain rfl := Option.some.inj H
                  exact absurd HRT.out (by decide)
                · replace c61 := Bool.eq_false_iff.mpr c61
                  subst c61
                  have H1 : ((laws_markInt64S.f kj41 t204 1).bind fun bt221 => ((laws_heldInt64S.f kj41 bt221.2 1).bind fun t223 => (if t223 < 0 then (some false) else (if t223 = bt221.1 then ((laws_toTuning.f kj41 l0_0 l0_1).bind fun bt224 => ((impl_EvenTurns.f kj41 bt224.1 bt224.2).bind fun bt230 => ((laws_eqInt64S.f kj41 bt230.1 t192).bind fun t235 => (if t235 = true then (if bt230.2.1 = t195 then (laws_FnExactEvenTurns.j2 kj41 bt221.2 bt221.1 (bt230.2.2 != t196)) else (laws_FnExactEvenTurns.j2 kj41 bt221.2 bt221.1 true)) else (laws_FnExactEvenTurns.j2 kj41 bt221.2 bt221.1 true))))) else (some false))))) = some r := by rw [if_neg (show ¬ (false = true) by decide)] at H; exact H
                  clear H
                  have H := H1
                  clear H1
                  replace H := Option.bind_eq_some_iff.mp H
                  obtain ⟨⟨t221, t222⟩, A620, H⟩ := H
                  replace H : ((laws_heldInt64S.f kj41 t222 1).bind fun t223 => (if t223 < 0 then (some false) else (if t223 = t221 then ((laws_toTuning.f kj41 l0_0 l0_1).bind fun bt224 => ((impl_EvenTurns.f kj41 bt224.1 bt224.2).bind fun bt230 => ((laws_eqInt64S.f kj41 bt230.1 t192).bind fun t235 => (if t235 = true then (if bt230.2.1 = t195 then (laws_FnExactEvenTurns.j2 kj41 t222 t221 (bt230.2.2 != t196)) else (laws_FnExactEvenTurns.j2 kj41 t222 t221 true)) else (laws_FnExactEvenTurns.j2 kj41 t222 t221 true))))) else (some false)))) = some r := H
                  have A62 := Aside0.mk A620
                  clear A620
                  replace H := Option.bind_eq_some_iff.mp H
                  obtain ⟨t223, A630, H⟩ := H
                  replace H : (if t223 < 0 then (some false) else (if t223 = t221 then ((laws_toTuning.f kj41 l0_0 l0_1).bind fun bt224 => ((impl_EvenTurns.f kj41 bt224.1 bt224.2).bind fun bt230 => ((laws_eqInt64S.f kj41 bt230.1 t192).bind fun t235 => (if t235 = true then (if bt230.2.1 = t195 then (laws_FnExactEvenTurns.j2 kj41 t222 t221 (bt230.2.2 != t196)) else (laws_FnExactEvenTurns.j2 kj41 t222 t221 true)) else (laws_FnExactEvenTurns.j2 kj41 t222 t221 true))))) else (some false))) = some r := H
                  have A63 := Aside0.mk A630
                  clear A630
                  by_cases c64 : t223 < 0
                  · rw [if_pos c64] at H
                    have c64b0 : decide (t223 < 0) = true := decide_eq_true c64
                    clear c64
                    obtain rfl := Option.some.inj H
                    exact absurd HRT.out (by decide)
                  · rw [if_neg c64] at H
                    have c64b0 : decide (t223 < 0) = false := decide_eq_false c64
                    clear c64
                    by_cases c67 : t223 = t221
                    · rw [if_pos c67] at H
                      have c67b0 : (t223 == t221) = true := beq_iff_eq.mpr c67
                      have c67b1 : (t223 != t221) = false := bne_eq_false_iff_eq.mpr c67
                      clear c67
                      replace H := Option.bind_eq_some_iff.mp H
                      obtain ⟨⟨t224, t227⟩, A680, H⟩ := H
                      replace H : ((impl_EvenTurns.f kj41 t224 t227).bind fun bt230 => ((laws_eqInt64S.f kj41 bt230.1 t192).bind fun t235 => (if t235 = true then (if bt230.2.1 = t195 then (laws_FnExactEvenTurns.j2 kj41 t222 t221 (bt230.2.2 != t196)) else (laws_FnExactEvenTurns.j2 kj41 t222 t221 true)) else (laws_FnExactEvenTurns.j2 kj41 t222 t221 true)))) = some r := H
                      have A68 := Aside0.mk A680
                      clear A680
                      replace H := Option.bind_eq_some_iff.mp H
                      obtain ⟨⟨t230, t233, t234⟩, A690, H⟩ := H
                      replace H : ((laws_eqInt64S.f kj41 t230 t192).bind fun t235 => (if t235 = true then (if t233 = t195 then (laws_FnExactEvenTurns.j2 kj41 t222 t221 (t234 != t196)) else (laws_FnExactEvenTurns.j2 kj41 t222 t221 true)) else (laws_FnExactEvenTurns.j2 kj41 t222 t221 true))) = some r := H
                      have A69 := Aside0.mk A690
                      clear A690
                      have HC70 := Aside0.mk H
                      clear H
                      obtain ⟨Ao71, co71, eo71⟩ := Kd.R_slice HO_8.out
                      subst eo71
                      go_upto_region 25 with (first | ((with_reducible refine gate_callee (f := 37) rfl ?_); refine goesL_ (some 79) rfl rfl Try.func37 (by kernel_rfl) rfl #[.slice Ao71 t204.length co71, .int .i64 1] rfl (by (try simp only [List.map_toArray, List.map_cons, List.map_nil]); first | done | rfl | (simp only [List.length_drop, List.length_take]; rfl)) ?_; (with_reducible refine (laws_markInt64S.calls kj41 (fun k_ => some k_ = (.slice Ao71 t204.length co71 : Value).ownBlock) (.slice Ao71 t204.length co71) t204 1 t221 t222 w _ ?side1 ?side2 A62.out).mono ?_); (case side1 => repeat (first | (with_reducible first | exact HB.out | apply below_alloc | apply pw_below_drewN | apply below_drew1 | refine below_set ?_ GE184.out | refine below_set ?_ GE203.out) | exact HB.out)); (case side2 => exact Kd.R_tight rfl HO_8.out); rintro e w72 ⟨rfl, hy0, hb, hkp⟩; refine ⟨_, rfl, ?_⟩; have n0_ := Aside0.mk (Kd.R_mono (ok' := fun k_ => some k_ ≠ (.slice Ao71 t204.length co71 : Value).ownBlock ∧ some k_ ≠ (.slice Ao23 t218.length co23 : Value).ownBlock) (Kd.R_keptB (HO_4.out) hkp (fun k_ hk_ hs_ => (hk_.1) hs_)) (fun k_ hk_ => ⟨hk_.1.1, hk_.1.2⟩)); have n1_ := Aside0.mk (Kd.R_reok rfl hy0 (fun k_ e_ => HO_8.out.1 k_ e_)); have n2_ := Aside0.mk (Kd.R_mono (ok' := fun k_ => some k_ ≠ (v193 : Value).ownBlock ∧ some k_ ≠ (.slice Ao71 t204.length co71 : Value).ownBlock) (Kd.R_keptB (HO_204000.out) hkp (fun k_ hk_ hs_ => (hk_.2) hs_)) (fun k_ hk_ => ⟨hk_.1.1, hk_.1.2⟩)); have n3_ := Aside0.mk (Kd.S_mono (ok' := fun k_ => some k_ ≠ (v193 : Value).ownBlock ∧ some k_ ≠ (.slice Ao71 t204.length co71 : Value).ownBlock ∧ some k_ ≠ (.slice Ao23 t218.length co23 : Value).ownBlock) (Kd.S_keptB (HO_204001.out) hkp (fun k_ hk_ hs_ => (hk_.2.1) hs_)) (fun k_ hk_ => ⟨hk_.1.1, hk_.1.2.1, hk_.1.2.2⟩)); have n4_ := Aside0.mk (blk_kept (by (with_reducible repeat (first | refine blk_drewN ?_ _ | refine blk_drew ?_ | refine blk_alloc ?_ _)); exact BK184.out) hkp (fun hs_ => (fun e_ => (Kd.R_ne HO_8.out BK184.out (by decide)) e_) hs_)); have n5_ := Aside0.mk (blk_kept (by (with_reducible repeat (first | refine blk_drewN ?_ _ | refine blk_drew ?_ | refine blk_alloc ?_ _)); exact BK203.out) hkp (fun hs_ => (fun e_ => (Kd.R_ne HO_8.out BK203.out (by decide)) e_) hs_)); have n6_ := Aside0.mk (hb); clear HO_4; clear HO_8; clear HO_204000; clear HO_204001; clear BK184; clear BK203; clear HB; have HO_4 := n0_; have HO_8 := n1_; have HO_204000 := n2_; have HO_204001 := n3_; have BK184 := n4_; have BK203 := n5_; have HB := n6_; clear n0_ n1_ n2_ n3_ n4_ n5_ n6_; (try clear hb); (try clear hkp); (try clear hy0)) | ((with_reducible refine gate_callee (f := 38) rfl ?_); refine goesL_ (some 82) rfl rfl Try.func38 (by kernel_rfl) rfl #[.slice Ao71 t222.length co71, .int .i64 1] rfl (by (try simp only [List.map_toArray, List.map_cons, List.map_nil]); first | done | (rw [show t222.length = t204.length from (Kd.R_reads' HO_8.out).1.symm] <;> rfl) | rfl | (simp only [List.length_drop, List.length_take]; rfl)) ?_; (with_reducible refine (laws_heldInt64S.calls kj41 _ _ t222 1 t223 _ ?side1 ?side2 A63.out).mono ?_); (case side1 => repeat (first | exact (Kd.R_reads' HO_8.out).2.2 | (with_reducible refine Kd.C_alloc ?_ _) | (with_reducible refine Kd.C_drewN ?_ _) | (with_reducible refine Kd.C_drew ?_))); (case side2 => rw [show t222.length = t204.length from (Kd.R_reads' HO_8.out).1.symm]; exact (Kd.R_reads' HO_8.out).2.1); rintro e w' ⟨rfl, ⟨nd, rfl⟩⟩; refine ⟨_, rfl, ?_⟩; have hnb73 := NB184_203.out; have hnc73 := NB203_184.out; have hcz74_0 : w72.cell? ⟨gb184, 0, none⟩ = some (.slice A0_0 l0_0.length c0_0) := (blk_cell BK184.out 0).trans rfl; have hcz74_1 : w72.cell? ⟨gb184, 1, none⟩ = some (.slice A0_1 l0_1.length c0_1) := (blk_cell BK184.out 1).trans rfl; have hfz74_0 := blk_frozen BK184.out 0; have hfz74_1 := blk_frozen BK184.out 1) | ((with_reducible refine gate_callee (f := 26) rfl ?_); refine goesL_ (some 90) rfl rfl Try.func26 (by kernel_rfl) rfl #[.agg #[.slice A0_0 l0_0.length c0_0, .slice A0_1 l0_1.length c0_1]] rfl (by (try simp only [List.map_toArray, List.map_cons, List.map_nil]); first | done | rfl | (simp only [List.length_drop, List.length_take]; rfl)) ?_; (with_reducible refine (laws_toTuning.calls kj41 _ _ l0_0 _ _ l0_1 t224 t227 _ ?side1 ?side2 ?side3 ?side4 A68.out).mono ?_); (case side1 => repeat (first | exact (Kd.C_below HR0_0.out (by repeat (first | (with_reducible first | exact HB.out | apply below_alloc | apply pw_below_drewN | apply below_drew1 | refine below_set ?_ GE184.out | refine below_set ?_ GE203.out) | exact HB.out))) | (with_reducible refine Kd.C_alloc ?_ _) | (with_reducible refine Kd.C_drewN ?_ _) | (with_reducible refine Kd.C_drew ?_))); (case side2 => exact HC0_0.out); (case side3 => repeat (first | exact (Kd.C_below HR0_1.out (by repeat (first | (with_reducible first | exact HB.out | apply below_alloc | apply pw_below_drewN | apply below_drew1 | refine below_set ?_ GE184.out | refine below_set ?_ GE203.out) | exact HB.out))) | (with_reducible refine Kd.C_alloc ?_ _) | (with_reducible refine Kd.C_drewN ?_ _) | (with_reducible refine Kd.C_drew ?_))); (case side4 => exact HC0_1.out); rintro e w75 ⟨v225, v228, rfl, ho0, ho1, hb⟩; refine ⟨_, rfl, ?_⟩; have n0_ := Aside0.mk (Kd.R_elder' (by (with_reducible repeat (first | apply Kd.R_alloc | apply Kd.R_drewN | apply Kd.R_drew)); exact HO_4.out) (Kd.R_base ho0) hb); have n1_ := Aside0.mk (Kd.R_elder' (by (with_reducible repeat (first | apply Kd.R_alloc | apply Kd.R_drewN | apply Kd.R_drew)); exact HO_8.out) (Kd.R_base ho0) hb); have n2_ := Aside0.mk (Kd.R_elder' (by (with_reducible repeat (first | apply Kd.R_alloc | apply Kd.R_drewN | apply Kd.R_drew)); exact HO_204000.out) (Kd.R_base ho0) hb); have n3_ := Aside0.mk (Kd.S_mono (Kd.S_told (Kd.S_told (Kd.S_old (by (with_reducible repeat (first | apply Kd.S_alloc | apply Kd.S_drewN | apply Kd.S_drew)); exact HO_204001.out) hb) (Kd.R_base ho0)) (Kd.S_base ho1)) (fun _ h_ => h_.1)); have n4_ := Aside0.mk (Kd.R_lower (Kd.R_new' (Kd.R_new' (Kd.R_new' ho0 (Kd.R_lt (by (with_reducible repeat (first | apply Kd.R_alloc | apply Kd.R_drewN | apply Kd.R_drew)); exact HO_4.out))) (Kd.R_lt (by (with_reducible repeat (first | apply Kd.R_alloc | apply Kd.R_drewN | apply Kd.R_drew)); exact HO_8.out))) (Kd.R_lt (by (with_reducible repeat (first | apply Kd.R_alloc | apply Kd.R_drewN | apply Kd.R_drew)); exact HO_204000.out))) (below_size (by repeat (first | (with_reducible first | exact HB.out | apply below_alloc | apply pw_below_drewN | apply below_drew1 | refine below_set ?_ GE184.out | refine below_set ?_ GE203.out) | exact HB.out)))); have n5_ := Aside0.mk (Kd.S_lower (Kd.S_new' (Kd.S_new' (Kd.S_new' (Kd.S_new' ho1 (Kd.R_lt (by (with_reducible repeat (first | apply Kd.R_alloc | apply Kd.R_drewN | apply Kd.R_drew)); exact HO_4.out))) (Kd.R_lt (by (with_reducible repeat (first | apply Kd.R_alloc | apply Kd.R_drewN | apply Kd.R_drew)); exact HO_8.out))) (Kd.R_lt (by (with_reducible repeat (first | apply Kd.R_alloc | apply Kd.R_drewN | apply Kd.R_drew)); exact HO_204000.out))) (Kd.S_lt (by (with_reducible repeat (first | apply Kd.S_alloc | apply Kd.S_drewN | apply Kd.S_drew)); exact HO_204001.out))) (below_size (by repeat (first | (with_reducible first | exact HB.out | apply below_alloc | apply pw_below_drewN | apply below_drew1 | refine below_set ?_ GE184.out | refine below_set ?_ GE203.out) | exact HB.out)))); have n6_ := Aside0.mk (blk_below (g := gb184) (o := .cells #[.slice A0_0 l0_0.length c0_0, .slice A0_1 l0_1.length c0_1] 38 (0, 0)) (by (with_reducible repeat (first | refine blk_drewN ?_ _ | refine blk_drew ?_ | refine blk_alloc ?_ _)); exact BK184.out) hb); have n7_ := Aside0.mk (blk_below (g := gb203) (o := .cells #[.slice Ao23 t218.length co23, .slice Ao26 t219.length co26] 27 (0, 0)) (by (with_reducible repeat (first | refine blk_drewN ?_ _ | refine blk_drew ?_ | refine blk_alloc ?_ _)); exact BK203.out) hb); have n8_ := Aside0.mk (below_step (by repeat (first | (with_reducible first | exact HB.out | apply below_alloc | apply pw_below_drewN | apply below_drew1 | refine below_set ?_ GE184.out | refine below_set ?_ GE203.out) | exact HB.out)) hb); clear HO_4; clear HO_8; clear HO_204000; clear HO_204001; clear BK184; clear BK203; clear HB; have HO_4 := n0_; have HO_8 := n1_; have HO_204000 := n2_; have HO_204001 := n3_; have HO226 := n4_; have HO229 := n5_; have BK184 := n6_; have BK203 := n7_; have HB := n8_; clear n0_ n1_ n2_ n3_ n4_ n5_ n6_ n7_ n8_; (try clear hb); (try clear hb2); (try clear hk); (try clear hi); (try clear ho0); (try clear ho1); obtain ⟨Ao76, co76, eo76⟩ := Kd.R_slice HO226.out; subst eo76; obtain ⟨Ao77, co77, eo77⟩ := Kd.S_slice HO229.out; subst eo77) | ((with_reducible refine gate_callee (f := 40) rfl ?_); refine goesL_ (some 91) rfl rfl Try.func40 (by kernel_rfl) rfl #[.agg #[.slice Ao76 t224.length co76, .slice Ao77 t227.length co77]] rfl (by (try simp only [List.map_toArray, List.map_cons, List.map_nil]); first | done | rfl | (simp only [List.length_drop, List.length_take]; rfl)) ?_; (with_reducible refine (impl_EvenTurns.calls kj41 _ _ t224 _ _ t227 t230 t233 t234 _ ?side1 ?side2 ?side3 ?side4 A69.out).mono ?_); (case side1 => repeat (first | exact (Kd.R_reads' HO226.out).2.2 | (with_reducible refine Kd.C_alloc ?_ _) | (with_reducible refine Kd.C_drewN ?_ _) | (with_reducible refine Kd.C_drew ?_))); (case side2 => exact (Kd.R_reads' HO226.out).2.1); (case side3 => repeat (first | exact (Kd.S_reads' HO229.out).2.2 | (with_reducible refine Kd.C_alloc ?_ _) | (with_reducible refine Kd.C_drewN ?_ _) | (with_reducible refine Kd.C_drew ?_))); (case side4 => exact (Kd.S_reads' HO229.out).2.1); rintro e w78 ⟨v231, rfl, ho0, hb⟩; refine ⟨_, rfl, ?_⟩; have n0_ := Aside0.mk (Kd.R_elder' (by (with_reducible repeat (first | apply Kd.R_alloc | apply Kd.R_drewN | apply Kd.R_drew)); exact HO_4.out) (Kd.R_base ho0) hb); have n1_ := Aside0.mk (Kd.R_elder' (by (with_reducible repeat (first | apply Kd.R_alloc | apply Kd.R_drewN | apply Kd.R_drew)); exact HO_8.out) (Kd.R_base ho0) hb); have n2_ := Aside0.mk (Kd.R_elder' (by (with_reducible repeat (first | apply Kd.R_alloc | apply Kd.R_drewN | apply Kd.R_drew)); exact HO_204000.out) (Kd.R_base ho0) hb); have n3_ := Aside0.mk (Kd.S_elder' (by (with_reducible repeat (first | apply Kd.S_alloc | apply Kd.S_drewN | apply Kd.S_drew)); exact HO_204001.out) (Kd.R_base ho0) hb); have n4_ := Aside0.mk (Kd.R_elder' (by (with_reducible repeat (first | apply Kd.R_alloc | apply Kd.R_drewN | apply Kd.R_drew)); exact HO226.out) (Kd.R_base ho0) hb); have n5_ := Aside0.mk (Kd.S_elder' (by (with_reducible repeat (first | apply Kd.S_alloc | apply Kd.S_drewN | apply Kd.S_drew)); exact HO229.out) (Kd.R_base ho0) hb); have n6_ := Aside0.mk (Kd.R_lower (Kd.R_new' (Kd.R_new' (Kd.R_new' (Kd.R_new' ho0 (Kd.R_lt (by (with_reducible repeat (first | apply Kd.R_alloc | apply Kd.R_drewN | apply Kd.R_drew)); exact HO_4.out))) (Kd.R_lt (by (with_reducible repeat (first | apply Kd.R_alloc | apply Kd.R_drewN | apply Kd.R_drew)); exact HO_8.out))) (Kd.R_lt (by (with_reducible repeat (first | apply Kd.R_alloc | apply Kd.R_drewN | apply Kd.R_drew)); exact HO_204000.out))) (Kd.R_lt (by (with_reducible repeat (first | apply Kd.R_alloc | apply Kd.R_drewN | apply Kd.R_drew)); exact HO226.out))) (below_size (by repeat (first | (with_reducible first | exact HB.out | apply below_alloc | apply pw_below_drewN | apply below_drew1 | refine below_set ?_ GE184.out | refine below_set ?_ GE203.out) | exact HB.out)))); have n7_ := Aside0.mk (blk_below (g := gb184) (o := .cells #[.slice A0_0 l0_0.length c0_0, .slice A0_1 l0_1.length c0_1] 38 (0, 0)) (by (with_reducible repeat (first | refine blk_drewN ?_ _ | refine blk_drew ?_ | refine blk_alloc ?_ _)); exact BK184.out) hb); have n8_ := Aside0.mk (blk_below (g := gb203) (o := .cells #[.slice Ao23 t218.length co23, .slice Ao26 t219.length co26] 27 (0, 0)) (by (with_reducible repeat (first | refine blk_drewN ?_ _ | refine blk_drew ?_ | refine blk_alloc ?_ _)); exact BK203.out) hb); have n9_ := Aside0.mk (below_step (by repeat (first | (with_reducible first | exact HB.out | apply below_alloc | apply pw_below_drewN | apply below_drew1 | refine below_set ?_ GE184.out | refine below_set ?_ GE203.out) | exact HB.out)) hb); clear HO_4; clear HO_8; clear HO_204000; clear HO_204001; clear HO226; clear HO229; clear BK184; clear BK203; clear HB; have HO_4 := n0_; have HO_8 := n1_; have HO_204000 := n2_; have HO_204001 := n3_; have HO226 := n4_; have HO229 := n5_; have HO232 := n6_; have BK184 := n7_; have BK203 := n8_; have HB := n9_; clear n0_ n1_ n2_ n3_ n4_ n5_ n6_ n7_ n8_ n9_; (try clear hb); (try clear hb2); (try clear hk); (try clear hi); (try clear ho0)))
                      (try simp only [Act.put, List.setIfInBounds_toArray, List.set_cons_zero, List.set_cons_succ])
                      go_cut [108] (fun v108 wc => ∃ (kq : Nat) (x108_69 : Bool), v108 = .bool x108_69 ∧ Aside0 (laws_FnExactEvenTurns.j2 kq t222 t221 x108_69 = some r) ∧ Aside0 (kq ≤ kj41) ∧ Aside0 (Kd.R (Kd.int .i64) 2 wc w.heap.size (fun k_ => some k_ ≠ ((.slice Ao23 t218.length co23) : Value).ownBlock) (.slice Ao71 t204.length co71) t222) ∧ Aside0 (Kd.R (Kd.int .i64) 2 wc w.heap.size (fun k_ => some k_ ≠ ((.slice Ao71 t204.length co71) : Value).ownBlock) (.slice Ao23 t218.length co23) t218) ∧ Aside0 (Kd.S (Kd.slice 2 (Kd.int .i64)) 24 wc w.heap.size (fun k_ => some k_ ≠ ((.slice Ao71 t204.length co71) : Value).ownBlock ∧ some k_ ≠ ((.slice Ao23 t218.length co23) : Value).ownBlock) (.slice Ao26 t219.length co26) t219) ∧ Aside0 (wc.heap[gb184]? = some (.cells #[(.slice A0_0 l0_0.length c0_0), (.slice A0_1 l0_1.length c0_1)] 38 (0, 0))) ∧ Aside0 (wc.heap[gb203]? = some (.cells #[(.slice Ao23 t218.length co23), (.slice Ao26 t219.length co26)] 27 (0, 0))) ∧ Aside0 (Below w.heap.size w wc))
                      case first =>
                        have H := HC70.out
                        clear HC70
                        replace H := Option.bind_eq_some_iff.mp H
                        obtain ⟨t235, A790, H⟩ := H
                        replace H : (if t235 = true then (if t233 = t195 then (laws_FnExactEvenTurns.j2 kj41 t222 t221 (t234 != t196)) else (laws_FnExactEvenTurns.j2 kj41 t222 t221 true)) else (laws_FnExactEvenTurns.j2 kj41 t222 t221 true)) = some r := H
                        have A79 := Aside0.mk A790
                        clear A790
                        by_cases c80 : t235 = true
                        · subst c80
                          have H1 : (if t233 = t195 then (laws_FnExactEvenTurns.j2 kj41 t222 t221 (t234 != t196)) else (laws_FnExactEvenTurns.j2 kj41 t222 t221 true)) = some r := by rw [if_pos rfl] at H; exact H
                          clear H
                          have H := H1
                          clear H1
                          by_cases c81 : t233 = t195
                          · rw [if_pos c81] at H
                            have c81b0 : (t233 == t195) = true := beq_iff_eq.mpr c81
                            have c81b1 : (t233 != t195) = false := bne_eq_false_iff_eq.mpr c81
                            clear c81
                            (first | rw [c81b0] | (simp only [i64_w, i32_w]; rw [c81b0]) | skip)
                            have H' := Aside0.mk H
                            clear H
                            obtain ⟨Ao82, co82, eo82⟩ := Kd.R_slice HO232.out
                            subst eo82
                            obtain ⟨Ao83, co83, eo83⟩ := Kd.R_slice HO_4.out
                            subst eo83
                            go_wp2_with (first | ((with_reducible refine gate_callee (f := 33) rfl ?_); refine goesL_ (some 97) rfl rfl Try.func33 (by kernel_rfl) rfl #[.slice Ao82 t230.length co82, .slice Ao83 t192.length co83] rfl (by (try simp only [List.map_toArray, List.map_cons, List.map_nil]); first | done | rfl | (simp only [List.length_drop, List.length_take]; rfl)) ?_; (with_reducible refine (laws_eqInt64S.calls kj41 _ _ t230 _ _ t192 true _ ?side1 ?side2 ?side3 ?side4 A79.out).mono ?_); (case side1 => repeat (first | exact (Kd.R_reads' HO232.out).2.2 | (with_reducible refine Kd.C_alloc ?_ _) | (with_reducible refine Kd.C_drewN ?_ _) | (with_reducible refine Kd.C_drew ?_))); (case side2 => exact (Kd.R_reads' HO232.out).2.1); (case side3 => repeat (first | exact (Kd.R_reads' HO_4.out).2.2 | (with_reducible refine Kd.C_alloc ?_ _) | (with_reducible refine Kd.C_drewN ?_ _) | (with_reducible refine Kd.C_drew ?_))); (case side4 => exact (Kd.R_reads' HO_4.out).2.1); rintro e w' ⟨rfl, ⟨nd, rfl⟩⟩; refine ⟨_, rfl, ?_⟩))
                            go_meet
                            case rel => exact ⟨_, ((t234 != t196)), (by first | rfl | (simp; done) | (simp [*]; done)), H', ⟨by have := HJ10.out; have := HJ41.out; first | omega | exact Nat.le_refl _⟩, ⟨by (try simp only [hl204000_41]); (try simp only [hl204001_41]); (with_reducible repeat (first | apply Kd.R_alloc | apply Kd.R_drewN | apply Kd.R_drew)); exact Kd.R_mono HO_8.out (fun _ hk => hk.1.1.2)⟩, ⟨by (try simp only [hl204000_41]); (try simp only [hl204001_41]); (with_reducible repeat (first | apply Kd.R_alloc | apply Kd.R_drewN | apply Kd.R_drew)); exact Kd.R_mono HO_204000.out (fun _ hk => hk.1.1.2)⟩, ⟨by (try simp only [hl204000_41]); (try simp only [hl204001_41]); (with_reducible repeat (first | apply Kd.S_alloc | apply Kd.S_drewN | apply Kd.S_drew)); exact Kd.S_mono HO_204001.out (fun _ hk => ⟨hk.1.1.1.2.1, hk.1.1.1.2.2⟩)⟩, ⟨by (try simp only [hl204000_41]); (try simp only [hl204001_41]); (with_reducible repeat (first | refine blk_drewN ?_ _ | refine blk_drew ?_ | refine blk_alloc ?_ _)); exact BK184.out⟩, ⟨by (try simp only [hl204000_41]); (try simp only [hl204001_41]); (with_reducible repeat (first | refine blk_drewN ?_ _ | refine blk_drew ?_ | refine blk_alloc ?_ _)); exact BK203.out⟩, ⟨by repeat (first | (with_reducible first | exact HB.out | apply below_alloc | apply pw_below_drewN | apply below_drew1 | refine below_set ?_ GE184.out | refine below_set ?_ GE203.out) | exact HB.out)⟩⟩
                          · rw [if_neg c81] at H
                            have c81b0 : (t233 == t195) = false := beq_eq_false_iff_ne.mpr c81
                            have c81b1 : (t233 != t195) = true := bne_iff_ne.mpr c81
                            (first | rw [c81b0] | (simp only [i64_w, i32_w]; rw [c81b0]) | skip)
                            exact (laws_FnExactEvenTurns.j2_cut _ _ _ _ H HRT.out).elim
                        · replace c80 := Bool.eq_false_iff.mpr c80
                          subst c80
                          have H1 : (laws_FnExactEvenTurns.j2 kj41 t222 t221 true) = some r := by rw [if_neg (show ¬ (false = true) by decide)] at H; exact H
                          clear H
                          have H := H1
                          clear H1
                          exact (laws_FnExactEvenTurns.j2_cut _ _ _ _ H HRT.out).elim
                      case rest =>
                        clear HC70
                        try clear c1
                        try clear c2
                        try clear p2
                        try clear c3
                        try clear c3b0
                        try clear c4
                        try clear c5
                        try clear c6
                        try clear c7
                        try clear c8
                        try clear c12
                        try clear c24
                        try clear c26
                        try clear c28
                        try clear c29
                        try clear c30
                        try clear c30b0
                        try clear c30b1
                        try clear c33
                        try clear c36
                        try clear c37
                        try clear c38
                        try clear c40
                        try clear c44
                        try clear c48
                        try clear c51
                        try clear c51b0
                        try clear c53
                        try clear c54
                        try clear c54b0
                        try clear c54b1
                        try clear c61
                        try clear c64
                        try clear c64b0
                        try clear c67
                        try clear c67b0
                        try clear c67b1
                        try clear c73
                        try clear c80
                        try clear c81
                        try clear c81b0
                        try clear c81b1
                        try clear hcz13_0
                        try clear hcz13_1
                        try clear hcz15_0
                        try clear hcz15_1
                        try clear hcz20_0
                        try clear hcz20_1
                        try clear hcz25_0
                        try clear hcz25_1
                        try clear hcz49_0
                        try clear hcz49_1
                        try clear hcz5_0
                        try clear hcz5_1
                        try clear hcz74_0
                        try clear hcz74_1
                        try clear hfz13_0
                        try clear hfz13_1
                        try clear hfz15_0
                        try clear hfz15_1
                        try clear hfz20_0
                        try clear hfz20_1
                        try clear hfz25_0
                        try clear hfz25_1
                        try clear hfz49_0
                        try clear hfz49_1
                        try clear hfz5_0
                        try clear hfz5_1
                        try clear hfz74_0
                        try clear hfz74_1
                        try clear p2
                        obtain ⟨kq, x108_69, rfl, HA, HJ69, HO_8, HO_204000, HO_204001, BK184, BK203, HB⟩ := hcut
                        have hl8_69 := (Kd.R_reads' HO_8.out).1
                        rw [hl8_69] at HO_8
                        (try simp only [hl8_69])
                        (try simp only [hl8_69] at BK184)
                        (try simp only [hl8_69] at BK203)
                        (try simp only [hl8_69] at HO_204000)
                        (try simp only [hl8_69] at HO_204001)
                        cases kq with
                        | zero => exact absurd HA.out (by simp [laws_FnExactEvenTurns.j2])
                        | succ kj69 =>
                          have H := HA.out
                          clear HA
                          simp only [laws_FnExactEvenTurns.j2] at H
                          by_cases c88 : x108_69 = true
                          · subst c88
                            have H1 : (some false) = some r := by rw [if_pos rfl] at H; exact H
                            clear H
                            have H := H1
                            clear H1
                            obtain rfl := Option.some.inj H
                            exact absurd HRT.out (by decide)
                          · replace c88 := Bool.eq_false_iff.mpr c88
                            subst c88
                            have H1 : ((laws_heldInt64S.f kj69 t222 1).bind fun t236 => (if t236 < 0 then (some false) else (if t236 = t221 then (some true) else (some false)))) = some r := by rw [if_neg (show ¬ (false = true) by decide)] at H; exact H
                            clear H
                            have H := H1
                            clear H1
                            replace H := Option.bind_eq_some_iff.mp H
                            obtain ⟨t236, A890, H⟩ := H
                            replace H : (if t236 < 0 then (some false) else (if t236 = t221 then (some true) else (some false))) = some r := H
                            have A89 := Aside0.mk A890
                            clear A890
                            by_cases c90 : t236 < 0
                            · rw [if_pos c90] at H
                              have c90b0 : decide (t236 < 0) = true := decide_eq_true c90
                              clear c90
                              obtain rfl := Option.some.inj H
                              exact absurd HRT.out (by decide)
                            · rw [if_neg c90] at H
                              have c90b0 : decide (t236 < 0) = false := decide_eq_false c90
                              clear c90
                              by_cases c91 : t236 = t221
                              · rw [if_pos c91] at H
                                have c91b0 : (t236 == t221) = true := beq_iff_eq.mpr c91
                                have c91b1 : (t236 != t221) = false := bne_eq_false_iff_eq.mpr c91
                                clear c91
                                obtain rfl := Option.some.inj H
                                go_wp2_with (first | ((with_reducible refine gate_callee (f := 38) rfl ?_); refine goesL_ (some 111) rfl rfl Try.func38 (by kernel_rfl) rfl #[.slice Ao71 t222.length co71, .int .i64 1] rfl (by (try simp only [List.map_toArray, List.map_cons, List.map_nil]); first | done | rfl | (simp only [List.length_drop, List.length_take]; rfl)) ?_; (with_reducible refine (laws_heldInt64S.calls kj69 _ _ t222 1 t236 _ ?side1 ?side2 A89.out).mono ?_); (case side1 => repeat (first | exact (Kd.R_reads' HO_8.out).2.2 | (with_reducible refine Kd.C_alloc ?_ _) | (with_reducible refine Kd.C_drewN ?_ _) | (with_reducible refine Kd.C_drew ?_))); (case side2 => exact (Kd.R_reads' HO_8.out).2.1); rintro e w' ⟨rfl, ⟨nd, rfl⟩⟩; refine ⟨_, rfl, ?_⟩))
                                go_ret
                                exact ⟨by first | rfl | (simp [errW_none, errW_some] <;> rfl) | (simp [*, errW_none, errW_some] <;> rfl), by repeat (first | (with_reducible first | exact HB.out | apply below_alloc | apply pw_below_drewN | apply below_drew1 | refine below_set ?_ GE184.out | refine below_set ?_ GE203.out) | exact HB.out)⟩
                              · rw [if_neg c91] at H
                                have c91b0 : (t236 == t221) = false := beq_eq_false_iff_ne.mpr c91
                                have c91b1 : (t236 != t221) = true := bne_iff_ne.mpr c91
                                obtain rfl := Option.some.inj H
                                exact absurd HRT.out (by decide)
                    · rw [if_neg c67] at H
                      have c67b0 : (t223 == t221) = false := beq_eq_false_iff_ne.mpr c67
                      have c67b1 : (t223 != t221) = true := bne_iff_ne.mpr c67
                      obtain rfl := Option.some.inj H
                      exact absurd HRT.out (by decide)
          · replace c40 := Bool.eq_false_iff.mpr c40
            subst c40
            have H1 : (some false) = some r := by rw [if_neg (show ¬ (false = true) by decide)] at H; exact H
            clear H
            have H := H1
            clear H1
            obtain rfl := Option.some.inj H
            exact absurd HRT.out (by decide)
end
end Go.Proofs.Ythfpaldhdohnkaa.PFnExactEvenTurns
