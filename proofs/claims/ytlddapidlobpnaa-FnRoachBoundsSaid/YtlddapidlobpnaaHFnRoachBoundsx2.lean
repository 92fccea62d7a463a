/- The walks of the functions that the law reaches: each computes what its Lean function says. No condition beyond each contract's own. -/
import Derived.Test.YtlddapidlobpnaaHFnRoachBoundsx0
import Derived.Test.YtlddapidlobpnaaHFnRoachBoundsx1
namespace Go.Proofs.Ytlddapidlobpnaa.PFnRoachBounds
open Go.RowKit Go.Proofs.YtlddapidlobpnaaW.PrintWords Go.Proofs.YtlddapidlobpnaaW.PrintLast Go.Proofs.YtlddapidlobpnaaW.PrintMore
attribute [local go_sem] max2_int min2_int max_two min_two max_three min_three max_four min_four   -- for this text's walks alone
set_option linter.unusedVariables false
set_option linter.unusedSimpArgs false

/-! ### laws_FnRoachBounds: function 9 -/
mutual
def laws_FnRoachBounds.j0 : Nat → List Int → Int → Int → Bool → Int → Int → Option (Bool)
  | 0, _, _, _, _, _, _ => none
  | k + 1, x1, x6, x7, x64, x133000, x133001 => if x64 = true then (some false) else ((impl_RoachLength.f k x133000 0 x6).bind fun bt137 => (if bt137.2.2 = 0 then (if bt137.1 > bt137.2.1 then (laws_FnRoachBounds.j1 k x1 true x133000 x133001) else (if bt137.1 > (wrap64 (100 * x133000)) then (laws_FnRoachBounds.j1 k x1 true x133000 x133001) else (if bt137.2.1 < (wrap64 (100 * x133000)) then (laws_FnRoachBounds.j1 k x1 true x133000 x133001) else (laws_FnRoachBounds.j1 k x1 (decide ((wrap64 (x7 + x6)) < bt137.1)) x133000 x133001)))) else (laws_FnRoachBounds.j1 k x1 true x133000 x133001)))
def laws_FnRoachBounds.j1 : Nat → List Int → Bool → Int → Int → Option (Bool)
  | 0, _, _, _, _ => none
  | k + 1, x1, x101, x133000, x133001 => if x101 = true then (some false) else ((laws_a2At.f x1 1 40).bind fun t140 => ((impl_BattensFor.f k x133000 x133001 (wrap64 (1 + t140))).bind fun bt141 => (if bt141.2 = 0 then (if bt141.1 ≥ 0 then (if bt141.1 ≤ 500 then (if (wrap64 ((wrap64 ((wrap64 (1 + t140)) * (wrap64 (bt141.1 + 1)))) * (wrap64 (bt141.1 + 1)))) ≥ x133001 then (if bt141.1 = 0 then (some true) else (some (decide ((wrap64 ((wrap64 ((wrap64 (1 + t140)) * bt141.1)) * bt141.1)) < x133001)))) else (some false)) else (some false)) else (some false)) else (some false))))
end
def laws_FnRoachBounds.f (k : Nat) (l0 : List Int) (l1 : List Int) : Option (Bool) := (laws_a2Long.f l0 l1).bind fun t129 => (if t129 = true then (some true) else ((spec_A2Roach.f l0).bind fun bt130 => ((laws_a2At.f l1 0 16).bind fun t133 => ((impl_RoachLength.f k bt130.1 bt130.2 (wrap64 (1 + t133))).bind fun bt134 => (if bt134.2.2 = 0 then (if bt134.1 > bt134.2.1 then (laws_FnRoachBounds.j0 k l1 (wrap64 (1 + t133)) bt134.1 true bt130.1 bt130.2) else (if bt134.1 > (wrap64 ((wrap64 (100 * bt130.1)) + (wrap64 (400 * bt130.2)))) then (laws_FnRoachBounds.j0 k l1 (wrap64 (1 + t133)) bt134.1 true bt130.1 bt130.2) else (if (wrap64 (bt134.1 + (wrap64 (1 + t133)))) < (wrap64 (100 * bt130.1)) then (laws_FnRoachBounds.j0 k l1 (wrap64 (1 + t133)) bt134.1 true bt130.1 bt130.2) else (laws_FnRoachBounds.j0 k l1 (wrap64 (1 + t133)) bt134.1 (decide (bt134.2.1 < (wrap64 (100 * bt130.1)))) bt130.1 bt130.2)))) else (laws_FnRoachBounds.j0 k l1 (wrap64 (1 + t133)) bt134.1 true bt130.1 bt130.2))))))
theorem laws_FnRoachBounds.mono_l : ∀ k, (∀ y0 y1 y2 y3 y4 y5, LeO (laws_FnRoachBounds.j0 k y0 y1 y2 y3 y4 y5) (laws_FnRoachBounds.j0 (k + 1) y0 y1 y2 y3 y4 y5)) ∧ (∀ y0 y1 y2 y3, LeO (laws_FnRoachBounds.j1 k y0 y1 y2 y3) (laws_FnRoachBounds.j1 (k + 1) y0 y1 y2 y3))
  | 0 => ⟨fun _ _ _ _ _ _ r h => by simp [laws_FnRoachBounds.j0] at h, fun _ _ _ _ r h => by simp [laws_FnRoachBounds.j1] at h⟩
  | k + 1 => by
    obtain ⟨ih0, ih1⟩ := laws_FnRoachBounds.mono_l k
    refine ⟨?_, ?_⟩
    · intro y0 y1 y2 y3 y4 y5
      unfold laws_FnRoachBounds.j0
      repeat' first
      | (with_reducible exact ih0 _ _ _ _ _ _)
      | (with_reducible exact ih1 _ _ _ _)
      | (with_reducible exact impl_BattensFor.mono _ _ _ _)
      | (with_reducible exact impl_RoachLength.mono _ _ _ _)
      | (with_reducible exact LeO.refl _)
      | (with_reducible exact LeO.none _)
      | (with_reducible refine LeO.ite ?_ ?_)
      | (with_reducible refine LeO.bind ?_ (fun _ => ?_))
      | exact ih0 _ _ _ _ _ _
      | exact ih1 _ _ _ _
      | exact impl_BattensFor.mono _ _ _ _
      | exact impl_RoachLength.mono _ _ _ _
      | exact LeO.none _
      | refine LeO.ite ?_ ?_
      | refine LeO.bind ?_ (fun _ => ?_)
    · intro y0 y1 y2 y3
      unfold laws_FnRoachBounds.j1
      repeat' first
      | (with_reducible exact ih0 _ _ _ _ _ _)
      | (with_reducible exact ih1 _ _ _ _)
      | (with_reducible exact impl_BattensFor.mono _ _ _ _)
      | (with_reducible exact impl_RoachLength.mono _ _ _ _)
      | (with_reducible exact LeO.refl _)
      | (with_reducible exact LeO.none _)
      | (with_reducible refine LeO.ite ?_ ?_)
      | (with_reducible refine LeO.bind ?_ (fun _ => ?_))
      | exact ih0 _ _ _ _ _ _
      | exact ih1 _ _ _ _
      | exact impl_BattensFor.mono _ _ _ _
      | exact impl_RoachLength.mono _ _ _ _
      | exact LeO.none _
      | refine LeO.ite ?_ ?_
      | refine LeO.bind ?_ (fun _ => ?_)
theorem laws_FnRoachBounds.mono : ∀ a0 a1 k, LeO (laws_FnRoachBounds.f k a0 a1) (laws_FnRoachBounds.f (k + 1) a0 a1) := by
  intro a0 a1 k
  obtain ⟨ih0, ih1⟩ := laws_FnRoachBounds.mono_l k
  unfold laws_FnRoachBounds.f
  repeat' first
      | (with_reducible exact ih0 _ _ _ _ _ _)
      | (with_reducible exact ih1 _ _ _ _)
      | (with_reducible exact impl_BattensFor.mono _ _ _ _)
      | (with_reducible exact impl_RoachLength.mono _ _ _ _)
      | (with_reducible exact LeO.refl _)
      | (with_reducible exact LeO.none _)
      | (with_reducible refine LeO.ite ?_ ?_)
      | (with_reducible refine LeO.bind ?_ (fun _ => ?_))
      | exact ih0 _ _ _ _ _ _
      | exact ih1 _ _ _ _
      | exact impl_BattensFor.mono _ _ _ _
      | exact impl_RoachLength.mono _ _ _ _
      | exact LeO.none _
      | refine LeO.ite ?_ ?_
      | refine LeO.bind ?_ (fun _ => ?_)
theorem laws_FnRoachBounds.j0_cut (k : Nat) (x0_ : List Int) (x1_ : Int) (x2_ : Int) (x4_ : Int) (x5_ : Int) (r : Bool) (h : laws_FnRoachBounds.j0 k x0_ x1_ x2_ true x4_ x5_ = some r) (hr : r = true) : False := by
  cases k with
  | zero => simp only [laws_FnRoachBounds.j0] at h; cases h
  | succ k =>
    have h2 : some false = some r := h
    cases h2
    cases hr
theorem laws_FnRoachBounds.j1_cut (k : Nat) (x0_ : List Int) (x2_ : Int) (x3_ : Int) (r : Bool) (h : laws_FnRoachBounds.j1 k x0_ true x2_ x3_ = some r) (hr : r = true) : False := by
  cases k with
  | zero => simp only [laws_FnRoachBounds.j1] at h; cases h
  | succ k =>
    have h2 : some false = some r := h
    cases h2
    cases hr
set_option maxHeartbeats 8000000 in
set_option maxRecDepth 100000 in
theorem laws_FnRoachBounds.calls (k : Nat) (A0 : Option Addr) (c0 : Nat) (l0 : List Int) (A1 : Option Addr) (c1 : Nat) (l1 : List Int) (r : Bool) (w : World) (hr0 : Kd.C (Kd.int .u8) w A0 l0.length l0) (hc0 : l0.length ≤ c0) (hr1 : Kd.C (Kd.int .u8) w A1 l1.length l1) (hc1 : l1.length ≤ c1) (h : laws_FnRoachBounds.f k l0 l1 = some r) (hrt : r = true) :
    Calls Try.prog 9 #[.slice A0 l0.length c0, .slice A1 l1.length c1] w fun e w' => e = .returned (.bool r) ∧ Below w.heap.size w w' := by
  have HRT := Aside0.mk hrt
  clear hrt
  have hu25 := Try.underlying25
  have HR0 := Aside0.mk hr0
  have HC0 := Aside0.mk hc0
  clear hr0 hc0
  have HR1 := Aside0.mk hr1
  have HC1 := Aside0.mk hc1
  clear hr1 hc1
  have HB := Aside0.mk (Below.refl w.heap.size w)
  have H : ((laws_a2Long.f l0 l1).bind fun t129 => (if t129 = true then (some true) else ((spec_A2Roach.f l0).bind fun bt130 => ((laws_a2At.f l1 0 16).bind fun t133 => ((impl_RoachLength.f k bt130.1 bt130.2 (wrap64 (1 + t133))).bind fun bt134 => (if bt134.2.2 = 0 then (if bt134.1 > bt134.2.1 then (laws_FnRoachBounds.j0 k l1 (wrap64 (1 + t133)) bt134.1 true bt130.1 bt130.2) else (if bt134.1 > (wrap64 ((wrap64 (100 * bt130.1)) + (wrap64 (400 * bt130.2)))) then (laws_FnRoachBounds.j0 k l1 (wrap64 (1 + t133)) bt134.1 true bt130.1 bt130.2) else (if (wrap64 (bt134.1 + (wrap64 (1 + t133)))) < (wrap64 (100 * bt130.1)) then (laws_FnRoachBounds.j0 k l1 (wrap64 (1 + t133)) bt134.1 true bt130.1 bt130.2) else (laws_FnRoachBounds.j0 k l1 (wrap64 (1 + t133)) bt134.1 (decide (bt134.2.1 < (wrap64 (100 * bt130.1)))) bt130.1 bt130.2)))) else (laws_FnRoachBounds.j0 k l1 (wrap64 (1 + t133)) bt134.1 true bt130.1 bt130.2))))))) = some r := h
  clear h
  replace H := Option.bind_eq_some_iff.mp H
  obtain ⟨t129, A30, H⟩ := H
  replace H : (if t129 = true then (some true) else ((spec_A2Roach.f l0).bind fun bt130 => ((laws_a2At.f l1 0 16).bind fun t133 => ((impl_RoachLength.f k bt130.1 bt130.2 (wrap64 (1 + t133))).bind fun bt134 => (if bt134.2.2 = 0 then (if bt134.1 > bt134.2.1 then (laws_FnRoachBounds.j0 k l1 (wrap64 (1 + t133)) bt134.1 true bt130.1 bt130.2) else (if bt134.1 > (wrap64 ((wrap64 (100 * bt130.1)) + (wrap64 (400 * bt130.2)))) then (laws_FnRoachBounds.j0 k l1 (wrap64 (1 + t133)) bt134.1 true bt130.1 bt130.2) else (if (wrap64 (bt134.1 + (wrap64 (1 + t133)))) < (wrap64 (100 * bt130.1)) then (laws_FnRoachBounds.j0 k l1 (wrap64 (1 + t133)) bt134.1 true bt130.1 bt130.2) else (laws_FnRoachBounds.j0 k l1 (wrap64 (1 + t133)) bt134.1 (decide (bt134.2.1 < (wrap64 (100 * bt130.1)))) bt130.1 bt130.2)))) else (laws_FnRoachBounds.j0 k l1 (wrap64 (1 + t133)) bt134.1 true bt130.1 bt130.2)))))) = some r := H
  have A3 := Aside0.mk A30
  clear A30
  by_cases c4 : t129 = true
  · subst c4
    have H1 : (some true) = some r := by rw [if_pos rfl] at H; exact H
    clear H
    have H := H1
    clear H1
    obtain rfl := Option.some.inj H
    go_enter Try.func9, Try.ntmps9
    go_wp2_with (first | ((with_reducible refine gate_callee (f := 32) rfl ?_); refine goesL_ (some 18) rfl rfl Try.func32 (by kernel_rfl) rfl #[.slice A0 l0.length c0, .slice A1 l1.length c1] rfl (by (try simp only [List.map_toArray, List.map_cons, List.map_nil]); first | done | rfl | (simp only [List.length_drop, List.length_take]; rfl)) ?_; (with_reducible refine (laws_a2Long.calls _ _ l0 _ _ l1 true _ ?side1 ?side2 ?side3 ?side4 A3.out).mono ?_); (case side1 => repeat (first | exact HR0.out | (with_reducible refine Kd.C_alloc ?_ _) | (with_reducible refine Kd.C_drewN ?_ _) | (with_reducible refine Kd.C_drew ?_))); (case side2 => exact HC0.out); (case side3 => repeat (first | exact HR1.out | (with_reducible refine Kd.C_alloc ?_ _) | (with_reducible refine Kd.C_drewN ?_ _) | (with_reducible refine Kd.C_drew ?_))); (case side4 => exact HC1.out); rintro e w' ⟨rfl, ⟨nd, rfl⟩⟩; refine ⟨_, rfl, ?_⟩))
    go_ret
    exact ⟨by first | rfl | (simp [errW_none, errW_some] <;> rfl) | (simp [*, errW_none, errW_some] <;> rfl), by repeat (first | (with_reducible first | exact HB.out | apply below_alloc | apply pw_below_drewN | apply below_drew1) | exact HB.out)⟩
  · replace c4 := Bool.eq_false_iff.mpr c4
    subst c4
    have H1 : ((spec_A2Roach.f l0).bind fun bt130 => ((laws_a2At.f l1 0 16).bind fun t133 => ((impl_RoachLength.f k bt130.1 bt130.2 (wrap64 (1 + t133))).bind fun bt134 => (if bt134.2.2 = 0 then (if bt134.1 > bt134.2.1 then (laws_FnRoachBounds.j0 k l1 (wrap64 (1 + t133)) bt134.1 true bt130.1 bt130.2) else (if bt134.1 > (wrap64 ((wrap64 (100 * bt130.1)) + (wrap64 (400 * bt130.2)))) then (laws_FnRoachBounds.j0 k l1 (wrap64 (1 + t133)) bt134.1 true bt130.1 bt130.2) else (if (wrap64 (bt134.1 + (wrap64 (1 + t133)))) < (wrap64 (100 * bt130.1)) then (laws_FnRoachBounds.j0 k l1 (wrap64 (1 + t133)) bt134.1 true bt130.1 bt130.2) else (laws_FnRoachBounds.j0 k l1 (wrap64 (1 + t133)) bt134.1 (decide (bt134.2.1 < (wrap64 (100 * bt130.1)))) bt130.1 bt130.2)))) else (laws_FnRoachBounds.j0 k l1 (wrap64 (1 + t133)) bt134.1 true bt130.1 bt130.2))))) = some r := by rw [if_neg (show ¬ (false = true) by decide)] at H; exact H
    clear H
    have H := H1
    clear H1
    replace H := Option.bind_eq_some_iff.mp H
    obtain ⟨⟨t130, t131⟩, A50, H⟩ := H
    replace H : ((laws_a2At.f l1 0 16).bind fun t133 => ((impl_RoachLength.f k t130 t131 (wrap64 (1 + t133))).bind fun bt134 => (if bt134.2.2 = 0 then (if bt134.1 > bt134.2.1 then (laws_FnRoachBounds.j0 k l1 (wrap64 (1 + t133)) bt134.1 true t130 t131) else (if bt134.1 > (wrap64 ((wrap64 (100 * t130)) + (wrap64 (400 * t131)))) then (laws_FnRoachBounds.j0 k l1 (wrap64 (1 + t133)) bt134.1 true t130 t131) else (if (wrap64 (bt134.1 + (wrap64 (1 + t133)))) < (wrap64 (100 * t130)) then (laws_FnRoachBounds.j0 k l1 (wrap64 (1 + t133)) bt134.1 true t130 t131) else (laws_FnRoachBounds.j0 k l1 (wrap64 (1 + t133)) bt134.1 (decide (bt134.2.1 < (wrap64 (100 * t130)))) t130 t131)))) else (laws_FnRoachBounds.j0 k l1 (wrap64 (1 + t133)) bt134.1 true t130 t131)))) = some r := H
    have A5 := Aside0.mk A50
    clear A50
    replace H := Option.bind_eq_some_iff.mp H
    obtain ⟨t133, A60, H⟩ := H
    replace H : ((impl_RoachLength.f k t130 t131 (wrap64 (1 + t133))).bind fun bt134 => (if bt134.2.2 = 0 then (if bt134.1 > bt134.2.1 then (laws_FnRoachBounds.j0 k l1 (wrap64 (1 + t133)) bt134.1 true t130 t131) else (if bt134.1 > (wrap64 ((wrap64 (100 * t130)) + (wrap64 (400 * t131)))) then (laws_FnRoachBounds.j0 k l1 (wrap64 (1 + t133)) bt134.1 true t130 t131) else (if (wrap64 (bt134.1 + (wrap64 (1 + t133)))) < (wrap64 (100 * t130)) then (laws_FnRoachBounds.j0 k l1 (wrap64 (1 + t133)) bt134.1 true t130 t131) else (laws_FnRoachBounds.j0 k l1 (wrap64 (1 + t133)) bt134.1 (decide (bt134.2.1 < (wrap64 (100 * t130)))) t130 t131)))) else (laws_FnRoachBounds.j0 k l1 (wrap64 (1 + t133)) bt134.1 true t130 t131))) = some r := H
    have A6 := Aside0.mk A60
    clear A60
    replace H := Option.bind_eq_some_iff.mp H
    obtain ⟨⟨t134, t135, t136⟩, A70, H⟩ := H
    replace H : (if t136 = 0 then (if t134 > t135 then (laws_FnRoachBounds.j0 k l1 (wrap64 (1 + t133)) t134 true t130 t131) else (if t134 > (wrap64 ((wrap64 (100 * t130)) + (wrap64 (400 * t131)))) then (laws_FnRoachBounds.j0 k l1 (wrap64 (1 + t133)) t134 true t130 t131) else (if (wrap64 (t134 + (wrap64 (1 + t133)))) < (wrap64 (100 * t130)) then (laws_FnRoachBounds.j0 k l1 (wrap64 (1 + t133)) t134 true t130 t131) else (laws_FnRoachBounds.j0 k l1 (wrap64 (1 + t133)) t134 (decide (t135 < (wrap64 (100 * t130)))) t130 t131)))) else (laws_FnRoachBounds.j0 k l1 (wrap64 (1 + t133)) t134 true t130 t131)) = some r := H
    have A7 := Aside0.mk A70
    clear A70
    have HC8 := Aside0.mk H
    clear H
    go_enter Try.func9, Try.ntmps9
    go_upto_region 6 with (first | ((with_reducible refine gate_callee (f := 32) rfl ?_); refine goesL_ (some 18) rfl rfl Try.func32 (by kernel_rfl) rfl #[.slice A0 l0.length c0, .slice A1 l1.length c1] rfl (by (try simp only [List.map_toArray, List.map_cons, List.map_nil]); first | done | rfl | (simp only [List.length_drop, List.length_take]; rfl)) ?_; (with_reducible refine (laws_a2Long.calls _ _ l0 _ _ l1 false _ ?side1 ?side2 ?side3 ?side4 A3.out).mono ?_); (case side1 => repeat (first | exact HR0.out | (with_reducible refine Kd.C_alloc ?_ _) | (with_reducible refine Kd.C_drewN ?_ _) | (with_reducible refine Kd.C_drew ?_))); (case side2 => exact HC0.out); (case side3 => repeat (first | exact HR1.out | (with_reducible refine Kd.C_alloc ?_ _) | (with_reducible refine Kd.C_drewN ?_ _) | (with_reducible refine Kd.C_drew ?_))); (case side4 => exact HC1.out); rintro e w' ⟨rfl, ⟨nd, rfl⟩⟩; refine ⟨_, rfl, ?_⟩) | ((with_reducible refine gate_callee (f := 33) rfl ?_); refine goesL_ (some 20) rfl rfl Try.func33 (by kernel_rfl) rfl #[.slice A0 l0.length c0] rfl (by (try simp only [List.map_toArray, List.map_cons, List.map_nil]); first | done | rfl | (simp only [List.length_drop, List.length_take]; rfl)) ?_; (with_reducible refine (spec_A2Roach.calls _ _ l0 t130 t131 _ ?side1 ?side2 A5.out).mono ?_); (case side1 => repeat (first | exact HR0.out | (with_reducible refine Kd.C_alloc ?_ _) | (with_reducible refine Kd.C_drewN ?_ _) | (with_reducible refine Kd.C_drew ?_))); (case side2 => exact HC0.out); rintro e w9 ⟨rfl, hb⟩; refine ⟨_, rfl, ?_⟩; have n0_ := Aside0.mk (below_step (by repeat (first | (with_reducible first | exact HB.out | apply below_alloc | apply pw_below_drewN | apply below_drew1) | exact HB.out)) hb); clear HB; have HB := n0_; clear n0_; (try clear hb); (try clear hb2); (try clear hk); (try clear hi)) | ((with_reducible refine gate_dst (N := 5) rfl ?_); refine box_event ?hg (N := 5) ?hd (cs := #[.int .i64 0, .int .i64 0]) (t := 25) ?hr ?_; (case hd => rfl); (case hg => rfl); (case hr => first | (go_simp; done) | (go_simp; rfl)); intro gb132 hg w10 hbox hb; have n0_ := Aside0.mk (below_step (by repeat (first | (with_reducible first | exact HB.out | apply below_alloc | apply pw_below_drewN | apply below_drew1) | exact HB.out)) hb); have n1_ := Aside0.mk (hbox); have n2_ := Aside0.mk ((by rw [hg]; exact (below_size (by repeat (first | (with_reducible first | exact HB.out | apply below_alloc | apply pw_below_drewN | apply below_drew1) | exact HB.out))) : w.heap.size ≤ gb132)); have n3_ := Aside0.mk ((by rw [hg]; exact (below_size (by repeat (first | (with_reducible first | exact HB.out | apply below_alloc | apply pw_below_drewN | apply below_drew1) | exact HB.out))) : w.heap.size ≤ gb132)); clear HB; have HB := n0_; have BK132 := n1_; have GW132 := n2_; have GE132 := n3_; clear n0_ n1_ n2_ n3_; clear hb hbox hg; have hcz11_0 : w10.cell? ⟨gb132, 0, none⟩ = some (.int .i64 0) := (blk_cell BK132.out 0).trans rfl; have hcz11_1 : w10.cell? ⟨gb132, 1, none⟩ = some (.int .i64 0) := (blk_cell BK132.out 1).trans rfl; have hfz11_0 := blk_frozen BK132.out 0; have hfz11_1 := blk_frozen BK132.out 1) | ((with_reducible refine gate_callee (f := 34) rfl ?_); refine goesL_ (some 22) rfl rfl Try.func34 (by kernel_rfl) rfl #[.slice A1 l1.length c1, .int .i64 0, .int .i64 16] rfl (by (try simp only [List.map_toArray, List.map_cons, List.map_nil]); first | done | rfl | (simp only [List.length_drop, List.length_take]; rfl)) ?_; (with_reducible refine (laws_a2At.calls _ _ l1 0 16 t133 _ ?side1 ?side2 A6.out).mono ?_); (case side1 => exact Kd.C_below HR1.out (by repeat (first | (with_reducible first | exact HB.out | apply below_alloc | apply pw_below_drewN | apply below_drew1 | refine below_set ?_ GE132.out) | exact HB.out))); (case side2 => exact HC1.out); rintro e w' ⟨rfl, ⟨nd, rfl⟩⟩; refine ⟨_, rfl, ?_⟩) | ((with_reducible refine gate_callee (f := 35) rfl ?_); refine goesL_ (some 27) rfl rfl Try.func35 (by kernel_rfl) rfl #[.agg #[.int .i64 t130, .int .i64 t131], .int .i64 (wrap64 (1 + t133))] rfl (by (try simp only [List.map_toArray, List.map_cons, List.map_nil]); first | done | rfl | (simp only [List.length_drop, List.length_take]; rfl)) ?_; (with_reducible refine (impl_RoachLength.calls k t130 t131 (wrap64 (1 + t133)) t134 t135 t136 _ A7.out).mono ?_); rintro e w12 ⟨rfl, hb⟩; refine ⟨_, rfl, ?_⟩; have n0_ := Aside0.mk (blk_below (g := gb132) (o := .cells #[.int .i64 t130, .int .i64 t131] 25 (0, 0)) (by (with_reducible repeat (first | refine blk_drewN ?_ _ | refine blk_drew ?_ | refine blk_alloc ?_ _)); refine blk_put (cs := #[.int .i64 t130, .int .i64 0]) ?_ 1 _ rfl; (with_reducible repeat (first | refine blk_drewN ?_ _ | refine blk_drew ?_ | refine blk_alloc ?_ _)); refine blk_put (cs := #[.int .i64 0, .int .i64 0]) ?_ 0 _ rfl; (with_reducible repeat (first | refine blk_drewN ?_ _ | refine blk_drew ?_ | refine blk_alloc ?_ _)); exact BK132.out) hb); have n1_ := Aside0.mk (below_step (by repeat (first | (with_reducible first | exact HB.out | apply below_alloc | apply pw_below_drewN | apply below_drew1 | refine below_set ?_ GE132.out) | exact HB.out)) hb); clear BK132; clear HB; have BK132 := n0_; have HB := n1_; clear n0_ n1_; (try clear hb); (try clear hb2); (try clear hk); (try clear hi)))
    (try simp only [Act.put, List.setIfInBounds_toArray, List.set_cons_zero, List.set_cons_succ])
    go_cut [64] (fun v64 wc => ∃ (kq : Nat) (x64_7 : Bool), v64 = .bool x64_7 ∧ Aside0 (laws_FnRoachBounds.j0 kq l1 (wrap64 (1 + t133)) t134 x64_7 t130 t131 = some r) ∧ Aside0 (kq ≤ k) ∧ Aside0 (wc.heap[gb132]? = some (.cells #[.int .i64 t130, .int .i64 t131] 25 (0, 0))) ∧ Aside0 (Below w.heap.size w wc))
    case first =>
      have H := HC8.out
      clear HC8
      by_cases c13 : t136 = 0
      · rw [if_pos c13] at H
        have c13b0 : (t136 == 0) = true := beq_iff_eq.mpr c13
        have c13b1 : (t136 != 0) = false := bne_eq_false_iff_eq.mpr c13
        clear c13
        (first | rw [c13b0] | (simp only [i64_w, i32_w]; rw [c13b0]) | skip)
        by_cases c14 : t134 > t135
        · rw [if_pos c14] at H
          have c14b0 : decide (t135 < t134) = true := decide_eq_true c14
          clear c14
          exact (laws_FnRoachBounds.j0_cut _ _ _ _ _ _ _ H HRT.out).elim
        · rw [if_neg c14] at H
          have c14b0 : decide (t135 < t134) = false := decide_eq_false c14
          clear c14
          by_cases c15 : t134 > (wrap64 ((wrap64 (100 * t130)) + (wrap64 (400 * t131))))
          · rw [if_pos c15] at H
            have c15b0 : decide ((wrap64 ((wrap64 (100 * t130)) + (wrap64 (400 * t131)))) < t134) = true := decide_eq_true c15
            clear c15
            exact (laws_FnRoachBounds.j0_cut _ _ _ _ _ _ _ H HRT.out).elim
          · rw [if_neg c15] at H
            have c15b0 : decide ((wrap64 ((wrap64 (100 * t130)) + (wrap64 (400 * t131)))) < t134) = false := decide_eq_false c15
            clear c15
            by_cases c17 : (wrap64 (t134 + (wrap64 (1 + t133)))) < (wrap64 (100 * t130))
            · rw [if_pos c17] at H
              have c17b0 : decide ((wrap64 (t134 + (wrap64 (1 + t133)))) < (wrap64 (100 * t130))) = true := decide_eq_true c17
              clear c17
              exact (laws_FnRoachBounds.j0_cut _ _ _ _ _ _ _ H HRT.out).elim
            · rw [if_neg c17] at H
              have c17b0 : decide ((wrap64 (t134 + (wrap64 (1 + t133)))) < (wrap64 (100 * t130))) = false := decide_eq_false c17
              clear c17
              have H' := Aside0.mk H
              clear H
              have hcz19_0 : w12.cell? ⟨gb132, 0, none⟩ = some (.int .i64 t130) := (blk_cell BK132.out 0).trans rfl
              have hcz19_1 : w12.cell? ⟨gb132, 1, none⟩ = some (.int .i64 t131) := (blk_cell BK132.out 1).trans rfl
              have hfz19_0 := blk_frozen BK132.out 0
              have hfz19_1 := blk_frozen BK132.out 1
              go_wp2
              go_meet
              case rel => exact ⟨_, (decide (t135 < (wrap64 (100 * t130)))), (by first | rfl | (simp; done) | (simp [*]; done)), H', ⟨by first | omega | exact Nat.le_refl _⟩, ⟨by (with_reducible repeat (first | refine blk_drewN ?_ _ | refine blk_drew ?_ | refine blk_alloc ?_ _)); exact BK132.out⟩, ⟨by repeat (first | (with_reducible first | exact HB.out | apply below_alloc | apply pw_below_drewN | apply below_drew1 | refine below_set ?_ GE132.out) | exact HB.out)⟩⟩
      · rw [if_neg c13] at H
        have c13b0 : (t136 == 0) = false := beq_eq_false_iff_ne.mpr c13
        have c13b1 : (t136 != 0) = true := bne_iff_ne.mpr c13
        (first | rw [c13b0] | (simp only [i64_w, i32_w]; rw [c13b0]) | skip)
        exact (laws_FnRoachBounds.j0_cut _ _ _ _ _ _ _ H HRT.out).elim
    case rest =>
      clear HC8
      try clear c1
      try clear p2
      try clear c3
      try clear c4
      try clear p6
      try clear c9
      try clear c13
      try clear c13b0
      try clear c13b1
      try clear c14
      try clear c14b0
      try clear c15
      try clear c15b0
      try clear c17
      try clear c17b0
      try clear hcz11_0
      try clear hcz11_1
      try clear hcz16_0
      try clear hcz16_1
      try clear hcz18_0
      try clear hcz18_1
      try clear hcz19_0
      try clear hcz19_1
      try clear hfz11_0
      try clear hfz11_1
      try clear hfz16_0
      try clear hfz16_1
      try clear hfz18_0
      try clear hfz18_1
      try clear hfz19_0
      try clear hfz19_1
      obtain ⟨kq, x64_7, rfl, HA, HJ7, BK132, HB⟩ := hcut
      cases kq with
      | zero => exact absurd HA.out (by simp [laws_FnRoachBounds.j0])
      | succ kj7 =>
        have H := HA.out
        clear HA
        simp only [laws_FnRoachBounds.j0] at H
        by_cases c20 : x64_7 = true
        · subst c20
          have H1 : (some false) = some r := by rw [if_pos rfl] at H; exact H
          clear H
          have H := H1
          clear H1
          obtain rfl := Option.some.inj H
          exact absurd HRT.out (by decide)
        · replace c20 := Bool.eq_false_iff.mpr c20
          subst c20
          have H1 : ((impl_RoachLength.f kj7 t130 0 (wrap64 (1 + t133))).bind fun bt137 => (if bt137.2.2 = 0 then (if bt137.1 > bt137.2.1 then (laws_FnRoachBounds.j1 kj7 l1 true t130 t131) else (if bt137.1 > (wrap64 (100 * t130)) then (laws_FnRoachBounds.j1 kj7 l1 true t130 t131) else (if bt137.2.1 < (wrap64 (100 * t130)) then (laws_FnRoachBounds.j1 kj7 l1 true t130 t131) else (laws_FnRoachBounds.j1 kj7 l1 (decide ((wrap64 (t134 + (wrap64 (1 + t133)))) < bt137.1)) t130 t131)))) else (laws_FnRoachBounds.j1 kj7 l1 true t130 t131))) = some r := by rw [if_neg (show ¬ (false = true) by decide)] at H; exact H
          clear H
          have H := H1
          clear H1
          replace H := Option.bind_eq_some_iff.mp H
          obtain ⟨⟨t137, t138, t139⟩, A210, H⟩ := H
          replace H : (if t139 = 0 then (if t137 > t138 then (laws_FnRoachBounds.j1 kj7 l1 true t130 t131) else (if t137 > (wrap64 (100 * t130)) then (laws_FnRoachBounds.j1 kj7 l1 true t130 t131) else (if t138 < (wrap64 (100 * t130)) then (laws_FnRoachBounds.j1 kj7 l1 true t130 t131) else (laws_FnRoachBounds.j1 kj7 l1 (decide ((wrap64 (t134 + (wrap64 (1 + t133)))) < t137)) t130 t131)))) else (laws_FnRoachBounds.j1 kj7 l1 true t130 t131)) = some r := H
          have A21 := Aside0.mk A210
          clear A210
          have HC22 := Aside0.mk H
          clear H
          have hcz23_0 : wc.cell? ⟨gb132, 0, none⟩ = some (.int .i64 t130) := (blk_cell BK132.out 0).trans rfl
          have hcz23_1 : wc.cell? ⟨gb132, 1, none⟩ = some (.int .i64 t131) := (blk_cell BK132.out 1).trans rfl
          have hfz23_0 := blk_frozen BK132.out 0
          have hfz23_1 := blk_frozen BK132.out 1
          go_upto_region 9 with (first | ((with_reducible refine gate_callee (f := 35) rfl ?_); refine goesL_ (some 70) rfl rfl Try.func35 (by kernel_rfl) rfl #[.agg #[.int .i64 t130, .int .i64 0], .int .i64 (wrap64 (1 + t133))] rfl (by (try simp only [List.map_toArray, List.map_cons, List.map_nil]); first | done | rfl | (simp only [List.length_drop, List.length_take]; rfl)) ?_; (with_reducible refine (impl_RoachLength.calls kj7 t130 0 (wrap64 (1 + t133)) t137 t138 t139 _ A21.out).mono ?_); rintro e w24 ⟨rfl, hb⟩; refine ⟨_, rfl, ?_⟩; have n0_ := Aside0.mk (blk_below (g := gb132) (o := .cells #[.int .i64 t130, .int .i64 t131] 25 (0, 0)) (by (with_reducible repeat (first | refine blk_drewN ?_ _ | refine blk_drew ?_ | refine blk_alloc ?_ _)); exact BK132.out) hb); have n1_ := Aside0.mk (below_step (by repeat (first | (with_reducible first | exact HB.out | apply below_alloc | apply pw_below_drewN | apply below_drew1 | refine below_set ?_ GE132.out) | exact HB.out)) hb); clear BK132; clear HB; have BK132 := n0_; have HB := n1_; clear n0_ n1_; (try clear hb); (try clear hb2); (try clear hk); (try clear hi)))
          (try simp only [Act.put, List.setIfInBounds_toArray, List.set_cons_zero, List.set_cons_succ])
          go_cut [101] (fun v101 wc => ∃ (kq : Nat) (x101_21 : Bool), v101 = .bool x101_21 ∧ Aside0 (laws_FnRoachBounds.j1 kq l1 x101_21 t130 t131 = some r) ∧ Aside0 (kq ≤ kj7) ∧ Aside0 (wc.heap[gb132]? = some (.cells #[.int .i64 t130, .int .i64 t131] 25 (0, 0))) ∧ Aside0 (Below w.heap.size w wc))
          case first =>
            have H := HC22.out
            clear HC22
            by_cases c25 : t139 = 0
            · rw [if_pos c25] at H
              have c25b0 : (t139 == 0) = true := beq_iff_eq.mpr c25
              have c25b1 : (t139 != 0) = false := bne_eq_false_iff_eq.mpr c25
              clear c25
              (first | rw [c25b0] | (simp only [i64_w, i32_w]; rw [c25b0]) | skip)
              by_cases c26 : t137 > t138
              · rw [if_pos c26] at H
                have c26b0 : decide (t138 < t137) = true := decide_eq_true c26
                clear c26
                exact (laws_FnRoachBounds.j1_cut _ _ _ _ _ H HRT.out).elim
              · rw [if_neg c26] at H
                have c26b0 : decide (t138 < t137) = false := decide_eq_false c26
                clear c26
                by_cases c27 : t137 > (wrap64 (100 * t130))
                · rw [if_pos c27] at H
                  have c27b0 : decide ((wrap64 (100 * t130)) < t137) = true := decide_eq_true c27
                  clear c27
                  exact (laws_FnRoachBounds.j1_cut _ _ _ _ _ H HRT.out).elim
                · rw [if_neg c27] at H
                  have c27b0 : decide ((wrap64 (100 * t130)) < t137) = false := decide_eq_false c27
                  clear c27
                  by_cases c29 : t138 < (wrap64 (100 * t130))
                  · rw [if_pos c29] at H
                    have c29b0 : decide (t138 < (wrap64 (100 * t130))) = true := decide_eq_true c29
                    clear c29
                    exact (laws_FnRoachBounds.j1_cut _ _ _ _ _ H HRT.out).elim
                  · rw [if_neg c29] at H
                    have c29b0 : decide (t138 < (wrap64 (100 * t130))) = false := decide_eq_false c29
                    clear c29
                    have H' := Aside0.mk H
                    clear H
                    have hcz31_0 : w24.cell? ⟨gb132, 0, none⟩ = some (.int .i64 t130) := (blk_cell BK132.out 0).trans rfl
                    have hcz31_1 : w24.cell? ⟨gb132, 1, none⟩ = some (.int .i64 t131) := (blk_cell BK132.out 1).trans rfl
                    have hfz31_0 := blk_frozen BK132.out 0
                    have hfz31_1 := blk_frozen BK132.out 1
                    go_wp2
                    go_meet
                    case rel => exact ⟨_, (decide ((wrap64 (t134 + (wrap64 (1 + t133)))) < t137)), (by first | rfl | (simp; done) | (simp [*]; done)), H', ⟨by have := HJ7.out; first | omega | exact Nat.le_refl _⟩, ⟨by (with_reducible repeat (first | refine blk_drewN ?_ _ | refine blk_drew ?_ | refine blk_alloc ?_ _)); exact BK132.out⟩, ⟨by repeat (first | (with_reducible first | exact HB.out | apply below_alloc | apply pw_below_drewN | apply below_drew1 | refine below_set ?_ GE132.out) | exact HB.out)⟩⟩
            · rw [if_neg c25] at H
              have c25b0 : (t139 == 0) = false := beq_eq_false_iff_ne.mpr c25
              have c25b1 : (t139 != 0) = true := bne_iff_ne.mpr c25
              (first | rw [c25b0] | (simp only [i64_w, i32_w]; rw [c25b0]) | skip)
              exact (laws_FnRoachBounds.j1_cut _ _ _ _ _ H HRT.out).elim
          case rest =>
            clear HC22
            try clear c1
            try clear c2
            try clear p2
            try clear c3
            try clear c4
            try clear p6
            try clear c9
            try clear c13
            try clear c13b0
            try clear c13b1
            try clear c14
            try clear c14b0
            try clear c15
            try clear c15b0
            try clear c17
            try clear c17b0
            try clear c20
            try clear c25
            try clear c25b0
            try clear c25b1
            try clear c26
            try clear c26b0
            try clear c27
            try clear c27b0
            try clear c29
            try clear c29b0
            try clear hcz11_0
            try clear hcz11_1
            try clear hcz16_0
            try clear hcz16_1
            try clear hcz18_0
            try clear hcz18_1
            try clear hcz19_0
            try clear hcz19_1
            try clear hcz23_0
            try clear hcz23_1
            try clear hcz28_0
            try clear hcz28_1
            try clear hcz30_0
            try clear hcz30_1
            try clear hcz31_0
            try clear hcz31_1
            try clear hfz11_0
            try clear hfz11_1
            try clear hfz16_0
            try clear hfz16_1
            try clear hfz18_0
            try clear hfz18_1
            try clear hfz19_0
            try clear hfz19_1
            try clear hfz23_0
            try clear hfz23_1
            try clear hfz28_0
            try clear hfz28_1
            try clear hfz30_0
            try clear hfz30_1
            try clear hfz31_0
            try clear hfz31_1
            try clear p2
            try clear p6
            obtain ⟨kq, x101_21, rfl, HA, HJ21, BK132, HB⟩ := hcut
            cases kq with
            | zero => exact absurd HA.out (by simp [laws_FnRoachBounds.j1])
            | succ kj21 =>
              have H := HA.out
              clear HA
              simp only [laws_FnRoachBounds.j1] at H
              by_cases c32 : x101_21 = true
              · subst c32
                have H1 : (some false) = some r := by rw [if_pos rfl] at H; exact H
                clear H
                have H := H1
                clear H1
                obtain rfl := Option.some.inj H
                exact absurd HRT.out (by decide)
              · replace c32 := Bool.eq_false_iff.mpr c32
                subst c32
                have H1 : ((laws_a2At.f l1 1 40).bind fun t140 => ((impl_BattensFor.f kj21 t130 t131 (wrap64 (1 + t140))).bind fun bt141 => (if bt141.2 = 0 then (if bt141.1 ≥ 0 then (if bt141.1 ≤ 500 then (if (wrap64 ((wrap64 ((wrap64 (1 + t140)) * (wrap64 (bt141.1 + 1)))) * (wrap64 (bt141.1 + 1)))) ≥ t131 then (if bt141.1 = 0 then (some true) else (some (decide ((wrap64 ((wrap64 ((wrap64 (1 + t140)) * bt141.1)) * bt141.1)) < t131)))) else (some false)) else (some false)) else (some false)) else (some false)))) = some r := by rw [if_neg (show ¬ (false = true) by decide)] at H; exact H
                clear H
                have H := H1
                clear H1
                replace H := Option.bind_eq_some_iff.mp H
                obtain ⟨t140, A330, H⟩ := H
                replace H : ((impl_BattensFor.f kj21 t130 t131 (wrap64 (1 + t140))).bind fun bt141 => (if bt141.2 = 0 then (if bt141.1 ≥ 0 then (if bt141.1 ≤ 500 then (if (wrap64 ((wrap64 ((wrap64 (1 + t140)) * (wrap64 (bt141.1 + 1)))) * (wrap64 (bt141.1 + 1)))) ≥ t131 then (if bt141.1 = 0 then (some true) else (some (decide ((wrap64 ((wrap64 ((wrap64 (1 + t140)) * bt141.1)) * bt141.1)) < t131)))) else (some false)) else (some false)) else (some false)) else (some false))) = some r := H
                have A33 := Aside0.mk A330
                clear A330
                replace H := Option.bind_eq_some_iff.mp H
                obtain ⟨⟨t141, t142⟩, A340, H⟩ := H
                replace H : (if t142 = 0 then (if t141 ≥ 0 then (if t141 ≤ 500 then (if (wrap64 ((wrap64 ((wrap64 (1 + t140)) * (wrap64 (t141 + 1)))) * (wrap64 (t141 + 1)))) ≥ t131 then (if t141 = 0 then (some true) else (some (decide ((wrap64 ((wrap64 ((wrap64 (1 + t140)) * t141)) * t141)) < t131)))) else (some false)) else (some false)) else (some false)) else (some false)) = some r := H
                have A34 := Aside0.mk A340
                clear A340
                by_cases c35 : t142 = 0
                · rw [if_pos c35] at H
                  have c35b0 : (t142 == 0) = true := beq_iff_eq.mpr c35
                  have c35b1 : (t142 != 0) = false := bne_eq_false_iff_eq.mpr c35
                  clear c35
                  by_cases c36 : t141 ≥ 0
                  · rw [if_pos c36] at H
                    have c36b0 : decide (0 ≤ t141) = true := decide_eq_true c36
                    clear c36
                    by_cases c37 : t141 ≤ 500
                    · rw [if_pos c37] at H
                      have c37b0 : decide (t141 ≤ 500) = true := decide_eq_true c37
                      clear c37
                      by_cases c38 : (wrap64 ((wrap64 ((wrap64 (1 + t140)) * (wrap64 (t141 + 1)))) * (wrap64 (t141 + 1)))) ≥ t131
                      · rw [if_pos c38] at H
                        have c38b0 : decide (t131 ≤ (wrap64 ((wrap64 ((wrap64 (1 + t140)) * (wrap64 (t141 + 1)))) * (wrap64 (t141 + 1))))) = true := decide_eq_true c38
                        clear c38
                        by_cases c39 : t141 = 0
                        · rw [if_pos c39] at H
                          have c39b0 : (t141 == 0) = true := beq_iff_eq.mpr c39
                          have c39b1 : (t141 != 0) = false := bne_eq_false_iff_eq.mpr c39
                          clear c39
                          obtain rfl := Option.some.inj H
                          go_wp2_with (first | ((with_reducible refine gate_callee (f := 34) rfl ?_); refine goesL_ (some 103) rfl rfl Try.func34 (by kernel_rfl) rfl #[.slice A1 l1.length c1, .int .i64 1, .int .i64 40] rfl (by (try simp only [List.map_toArray, List.map_cons, List.map_nil]); first | done | rfl | (simp only [List.length_drop, List.length_take]; rfl)) ?_; (with_reducible refine (laws_a2At.calls _ _ l1 1 40 t140 _ ?side1 ?side2 A33.out).mono ?_); (case side1 => repeat (first | exact (Kd.C_below HR1.out HB.out) | (with_reducible refine Kd.C_alloc ?_ _) | (with_reducible refine Kd.C_drewN ?_ _) | (with_reducible refine Kd.C_drew ?_))); (case side2 => exact HC1.out); rintro e w' ⟨rfl, ⟨nd, rfl⟩⟩; refine ⟨_, rfl, ?_⟩; have hcz40_0 : wc.cell? ⟨gb132, 0, none⟩ = some (.int .i64 t130) := (blk_cell BK132.out 0).trans rfl; have hcz40_1 : wc.cell? ⟨gb132, 1, none⟩ = some (.int .i64 t131) := (blk_cell BK132.out 1).trans rfl; have hfz40_0 := blk_frozen BK132.out 0; have hfz40_1 := blk_frozen BK132.out 1) | ((with_reducible refine gate_callee (f := 24) rfl ?_); refine goesL_ (some 108) rfl rfl Try.func24 (by kernel_rfl) rfl #[.agg #[.int .i64 t130, .int .i64 t131], .int .i64 (wrap64 (1 + t140))] rfl (by (try simp only [List.map_toArray, List.map_cons, List.map_nil]); first | done | rfl | (simp only [List.length_drop, List.length_take]; rfl)) ?_; (with_reducible refine (impl_BattensFor.calls kj21 t130 t131 (wrap64 (1 + t140)) t141 t142 _ A34.out).mono ?_); rintro e w41 ⟨rfl, hb⟩; refine ⟨_, rfl, ?_⟩; have n0_ := Aside0.mk (blk_below (g := gb132) (o := .cells #[.int .i64 t130, .int .i64 t131] 25 (0, 0)) (by (with_reducible repeat (first | refine blk_drewN ?_ _ | refine blk_drew ?_ | refine blk_alloc ?_ _)); exact BK132.out) hb); have n1_ := Aside0.mk (below_step (by repeat (first | (with_reducible first | exact HB.out | apply below_alloc | apply pw_below_drewN | apply below_drew1 | refine below_set ?_ GE132.out) | exact HB.out)) hb); clear BK132; clear HB; have BK132 := n0_; have HB := n1_; clear n0_ n1_; (try clear hb); (try clear hb2); (try clear hk); (try clear hi); have hcz42_0 : w41.cell? ⟨gb132, 0, none⟩ = some (.int .i64 t130) := (blk_cell BK132.out 0).trans rfl; have hcz42_1 : w41.cell? ⟨gb132, 1, none⟩ = some (.int .i64 t131) := (blk_cell BK132.out 1).trans rfl; have hfz42_0 := blk_frozen BK132.out 0; have hfz42_1 := blk_frozen BK132.out 1))
                          go_ret
                          exact ⟨by first | rfl | (simp [errW_none, errW_some] <;> rfl) | (simp [*, errW_none, errW_some] <;> rfl), by repeat (first | (with_reducible first | exact HB.out | apply below_alloc | apply pw_below_drewN | apply below_drew1 | refine below_set ?_ GE132.out) | exact HB.out)⟩
                        · rw [if_neg c39] at H
                          have c39b0 : (t141 == 0) = false := beq_eq_false_iff_ne.mpr c39
                          have c39b1 : (t141 != 0) = true := bne_iff_ne.mpr c39
                          obtain rfl := Option.some.inj H
                          go_wp2_with (first | ((with_reducible refine gate_callee (f := 34) rfl ?_); refine goesL_ (some 103) rfl rfl Try.func34 (by kernel_rfl) rfl #[.slice A1 l1.length c1, .int .i64 1, .int .i64 40] rfl (by (try simp only [List.map_toArray, List.map_cons, List.map_nil]); first | done | rfl | (simp only [List.length_drop, List.length_take]; rfl)) ?_; (with_reducible refine (laws_a2At.calls _ _ l1 1 40 t140 _ ?side1 ?side2 A33.out).mono ?_); (case side1 => repeat (first | exact (Kd.C_below HR1.out HB.out) | (with_reducible refine Kd.C_alloc ?_ _) | (with_reducible refine Kd.C_drewN ?_ _) | (with_reducible refine Kd.C_drew ?_))); (case side2 => exact HC1.out); rintro e w' ⟨rfl, ⟨nd, rfl⟩⟩; refine ⟨_, rfl, ?_⟩; have hcz43_0 : wc.cell? ⟨gb132, 0, none⟩ = some (.int .i64 t130) := (blk_cell BK132.out 0).trans rfl; have hcz43_1 : wc.cell? ⟨gb132, 1, none⟩ = some (.int .i64 t131) := (blk_cell BK132.out 1).trans rfl; have hfz43_0 := blk_frozen BK132.out 0; have hfz43_1 := blk_frozen BK132.out 1) | ((with_reducible refine gate_callee (f := 24) rfl ?_); refine goesL_ (some 108) rfl rfl Try.func24 (by kernel_rfl) rfl #[.agg #[.int .i64 t130, .int .i64 t131], .int .i64 (wrap64 (1 + t140))] rfl (by (try simp only [List.map_toArray, List.map_cons, List.map_nil]); first | done | rfl | (simp only [List.length_drop, List.length_take]; rfl)) ?_; (with_reducible refine (impl_BattensFor.calls kj21 t130 t131 (wrap64 (1 + t140)) t141 t142 _ A34.out).mono ?_); rintro e w44 ⟨rfl, hb⟩; refine ⟨_, rfl, ?_⟩; have n0_ := Aside0.mk (blk_below (g := gb132) (o := .cells #[.int .i64 t130, .int .i64 t131] 25 (0, 0)) (by (with_reducible repeat (first | refine blk_drewN ?_ _ | refine blk_drew ?_ | refine blk_alloc ?_ _)); exact BK132.out) hb); have n1_ := Aside0.mk (below_step (by repeat (first | (with_reducible first | exact HB.out | apply below_alloc | apply pw_below_drewN | apply below_drew1 | refine below_set ?_ GE132.out) | exact HB.out)) hb); clear BK132; clear HB; have BK132 := n0_; have HB := n1_; clear n0_ n1_; (try clear hb); (try clear hb2); (try clear hk); (try clear hi); have hcz45_0 : w44.cell? ⟨gb132, 0, none⟩ = some (.int .i64 t130) := (blk_cell BK132.out 0).trans rfl; have hcz45_1 : w44.cell? ⟨gb132, 1, none⟩ = some (.int .i64 t131) := (blk_cell BK132.out 1).trans rfl; have hfz45_0 := blk_frozen BK132.out 0; have hfz45_1 := blk_frozen BK132.out 1))
                          go_ret
                          exact ⟨by first | rfl | (simp [errW_none, errW_some] <;> rfl) | (simp [*, errW_none, errW_some] <;> rfl), by repeat (first | (with_reducible first | exact HB.out | apply below_alloc | apply pw_below_drewN | apply below_drew1 | refine below_set ?_ GE132.out) | exact HB.out)⟩
                      · rw [if_neg c38] at H
                        have c38b0 : decide (t131 ≤ (wrap64 ((wrap64 ((wrap64 (1 + t140)) * (wrap64 (t141 + 1)))) * (wrap64 (t141 + 1))))) = false := decide_eq_false c38
                        clear c38
                        obtain rfl := Option.some.inj H
                        exact absurd HRT.out (by decide)
                    · rw [if_neg c37] at H
                      have c37b0 : decide (t141 ≤ 500) = false := decide_eq_false c37
                      clear c37
                      obtain rfl := Option.some.inj H
                      exact absurd HRT.out (by decide)
                  · rw [if_neg c36] at H
                    have c36b0 : decide (0 ≤ t141) = false := decide_eq_false c36
                    clear c36
                    obtain rfl := Option.some.inj H
                    exact absurd HRT.out (by decide)
                · rw [if_neg c35] at H
                  have c35b0 : (t142 == 0) = false := beq_eq_false_iff_ne.mpr c35
                  have c35b1 : (t142 != 0) = true := bne_iff_ne.mpr c35
                  obtain rfl := Option.some.inj H
                  exact absurd HRT.out (by decide)
/-- THE ONE PURE STATEMENT of laws_FnRoachBounds: yours. -/
def laws_FnRoachBounds.Pure : Prop := ∀ (l0 : List Int) (l1 : List Int), l0.length ≤ maxLen → l0.length * 1 ≤ 140737488351232 → (∀ x ∈ l0, (Lit.int .u8 x).wf = true) → l1.length ≤ maxLen → l1.length * 1 ≤ 140737488351232 → (∀ x ∈ l1, (Lit.int .u8 x).wf = true) → ∃ k, laws_FnRoachBounds.f k l0 l1 = some true
end Go.Proofs.Ytlddapidlobpnaa.PFnRoachBounds
