/- The walks of the functions that the law reaches: each computes what its Lean function says. No condition beyond each contract's own. -/
import Derived.Test.YtchngbjpjbahiaaDoorHFnExactSailTextx0
import Derived.Test.YtchngbjpjbahiaaDoorHFnExactSailTextx1
import Derived.Test.YtchngbjpjbahiaaDoorHFnExactSailTextx5
import Derived.Test.YtchngbjpjbahiaaDoorHFnExactSailTextx6
import Derived.Test.YtchngbjpjbahiaaDoorHFnExactSailTextx10
namespace Go.Proofs.YtchngbjpjbahiaaDoor.PFnExactSailText
noncomputable section
open Go.RowKit Go.Proofs.YtchngbjpjbahiaaDoorW.PrintWords Go.Proofs.YtchngbjpjbahiaaDoorW.PrintLast Go.Proofs.YtchngbjpjbahiaaDoorW.PrintMore
attribute [local go_sem] max2_int min2_int max_two min_two max_three min_three max_four min_four   -- for this text's walks alone
set_option linter.unusedVariables false
set_option linter.unusedSimpArgs false

/-! ### laws_FnExactSailText: function 3 -/
def laws_FnExactSailText.f (k : Nat) (l0 : List (S37)) : Option (Bool) := (laws_szSpotS.f l0 1048576).bind fun t257 => (if t257 < 0 then (some true) else ((laws_toSpotS.f k l0).bind fun t258 => ((spec_SailText.f k t258).bind fun t261 => ((laws_toSpotS.f k l0).bind fun t262 => ((impl_SailText.f k t262).bind fun t265 => (if t265.toList = t261.toList then ((laws_toSpotS.f k l0).bind fun t266 => ((laws_eqSpotS.f k t262 t266).bind fun t269 => (if t269 = true then (some true) else (some false)))) else (some false)))))))
theorem laws_FnExactSailText.mono : ∀ a0 k, LeO (laws_FnExactSailText.f k a0) (laws_FnExactSailText.f (k + 1) a0) := by
 intro a0 k
 unfold laws_FnExactSailText.f
 (with_reducible repeat' first | apply impl_SailText.mono | apply laws_eqSpotS.mono | apply laws_toSpotS.mono | apply spec_SailText.mono | apply LeO.refl | apply LeO.none | refine LeO.ite ?_ ?_ | refine LeO.bind ?_ (fun _ => ?_))
 repeat' first | apply impl_SailText.mono | apply laws_eqSpotS.mono | apply laws_toSpotS.mono | apply spec_SailText.mono | apply LeO.none | refine LeO.ite ?_ ?_ | refine LeO.bind ?_ (fun _ => ?_)
set_option maxHeartbeats 8000000 in
set_option maxRecDepth 100000 in
theorem laws_FnExactSailText.calls (k : Nat) (A0 : Option Addr) (c0 : Nat) (l0 : List (S37)) (r : Bool) (w : World) (hT : TabW w) (hr0 : Kd.C k37 w A0 l0.length l0) (hc0 : l0.length ≤ c0) (h : laws_FnExactSailText.f k l0 = some r) (hrt : r = true) :
  Calls Tryd.prog 3 #[.slice A0 l0.length c0] w fun e w' => e = .returned (.bool r) ∧ Below w.heap.size w w' := by
 have HT := zQ hT
 clear hT
 have HRT := zQ hrt
 clear hrt
 have HR0 := zQ hr0
 have HC0 := zQ hc0
 clear hr0 hc0
 have HB := zQ (Below.refl w.heap.size w)
 have H : ((laws_szSpotS.f l0 1048576).bind fun t257 => (if t257 < 0 then (some true) else ((laws_toSpotS.f k l0).bind fun t258 => ((spec_SailText.f k t258).bind fun t261 => ((laws_toSpotS.f k l0).bind fun t262 => ((impl_SailText.f k t262).bind fun t265 => (if t265.toList = t261.toList then ((laws_toSpotS.f k l0).bind fun t266 => ((laws_eqSpotS.f k t262 t266).bind fun t269 => (if t269 = true then (some true) else (some false)))) else (some false)))))))) = some r := h
 clear h
 replace H := Option.bind_eq_some_iff.mp H
 obtain ⟨t257, A20, H⟩ := H
 replace H : (if t257 < 0 then (some true) else ((laws_toSpotS.f k l0).bind fun t258 => ((spec_SailText.f k t258).bind fun t261 => ((laws_toSpotS.f k l0).bind fun t262 => ((impl_SailText.f k t262).bind fun t265 => (if t265.toList = t261.toList then ((laws_toSpotS.f k l0).bind fun t266 => ((laws_eqSpotS.f k t262 t266).bind fun t269 => (if t269 = true then (some true) else (some false)))) else (some false))))))) = some r := H
 have A2 := zQ A20
 clear A20
 by_cases c3 : t257 < 0
 ·rw [if_pos c3] at H
  have c3b0 : decide (t257 < 0) = true := decide_eq_true c3; clear c3; obtain rfl := Option.some.inj H
  go_enter Tryd.func3, Tryd.ntmps3
  go_wp2_with (first | ((with_reducible refine zgc 5 ?_); refine goesL_ (some 9) rfl rfl Tryd.func5 (by kernel_rfl) rfl #[.slice A0 l0.length c0, .int .i64 1048576] rfl zM ?_; (with_reducible refine (laws_szSpotS.calls _ _ l0 1048576 t257 _ ?side1 HC0.out A2.out).mono ?_); (case side1 => repeat (first | exact HR0.out | (with_reducible refine Kd.C_alloc ?_ _) | (with_reducible refine Kd.C_drewN ?_ _) | (with_reducible refine Kd.C_drew ?_))); rintro e w' ⟨rfl, ⟨nd, rfl⟩⟩; refine ⟨_, rfl, ?_⟩))
  go_ret
  exact ⟨zE, zB HB.out⟩
 ·rw [if_neg c3] at H
  have c3b0 : decide (t257 < 0) = false := decide_eq_false c3; clear c3; replace H := Option.bind_eq_some_iff.mp H; obtain ⟨t258, A40, H⟩ := H; replace H : ((spec_SailText.f k t258).bind fun t261 => ((laws_toSpotS.f k l0).bind fun t262 => ((impl_SailText.f k t262).bind fun t265 => (if t265.toList = t261.toList then ((laws_toSpotS.f k l0).bind fun t266 => ((laws_eqSpotS.f k t262 t266).bind fun t269 => (if t269 = true then (some true) else (some false)))) else (some false))))) = some r := H; have A4 := zQ A40; clear A40; replace H := Option.bind_eq_some_iff.mp H; obtain ⟨t261, A50, H⟩ := H; replace H : ((laws_toSpotS.f k l0).bind fun t262 => ((impl_SailText.f k t262).bind fun t265 => (if t265.toList = t261.toList then ((laws_toSpotS.f k l0).bind fun t266 => ((laws_eqSpotS.f k t262 t266).bind fun t269 => (if t269 = true then (some true) else (some false)))) else (some false)))) = some r := H; have A5 := zQ A50; clear A50; replace H := Option.bind_eq_some_iff.mp H; obtain ⟨t262, A60, H⟩ := H; replace H : ((impl_SailText.f k t262).bind fun t265 => (if t265.toList = t261.toList then ((laws_toSpotS.f k l0).bind fun t266 => ((laws_eqSpotS.f k t262 t266).bind fun t269 => (if t269 = true then (some true) else (some false)))) else (some false))) = some r := H; have A6 := zQ A60; clear A60; replace H := Option.bind_eq_some_iff.mp H; obtain ⟨t265, A70, H⟩ := H
  replace H : (if t265.toList = t261.toList then ((laws_toSpotS.f k l0).bind fun t266 => ((laws_eqSpotS.f k t262 t266).bind fun t269 => (if t269 = true then (some true) else (some false)))) else (some false)) = some r := H; have A7 := zQ A70; clear A70
  by_cases c8 : t265.toList = t261.toList
  ·rw [if_pos c8] at H
   have c8b0 : (t265.toList == t261.toList) = true := beq_iff_eq.mpr c8; have c8b1 : (t265.toList != t261.toList) = false := bne_eq_false_iff_eq.mpr c8; clear c8; replace H := Option.bind_eq_some_iff.mp H; obtain ⟨t266, A90, H⟩ := H; replace H : ((laws_eqSpotS.f k t262 t266).bind fun t269 => (if t269 = true then (some true) else (some false))) = some r := H; have A9 := zQ A90; clear A90; replace H := Option.bind_eq_some_iff.mp H; obtain ⟨t269, A100, H⟩ := H; replace H : (if t269 = true then (some true) else (some false)) = some r := H; have A10 := zQ A100; clear A100
   by_cases c11 : t269 = true
   ·subst c11
    have H1 : (some true) = some r := by rw [if_pos rfl] at H; exact H
    clear H; have H := H1; clear H1; obtain rfl := Option.some.inj H
    go_enter Tryd.func3, Tryd.ntmps3
    go_wp2_with (first | ((with_reducible refine zgc 5 ?_); refine goesL_ (some 9) rfl rfl Tryd.func5 (by kernel_rfl) rfl #[.slice A0 l0.length c0, .int .i64 1048576] rfl zM ?_; (with_reducible refine (laws_szSpotS.calls _ _ l0 1048576 t257 _ ?side1 HC0.out A2.out).mono ?_); (case side1 => repeat (first | exact HR0.out | (with_reducible refine Kd.C_alloc ?_ _) | (with_reducible refine Kd.C_drewN ?_ _) | (with_reducible refine Kd.C_drew ?_))); rintro e w' ⟨rfl, ⟨nd, rfl⟩⟩; refine ⟨_, rfl, ?_⟩) | ((with_reducible refine zgc 7 ?_); refine goesL_ (some 13) rfl rfl Tryd.func7 (by kernel_rfl) rfl #[.slice A0 l0.length c0] rfl zM ?_; (with_reducible refine (laws_toSpotS.calls k _ _ l0 t258 _ ?side1 HC0.out A4.out).mono ?_); (case side1 => repeat (first | exact HR0.out | (with_reducible refine Kd.C_alloc ?_ _) | (with_reducible refine Kd.C_drewN ?_ _) | (with_reducible refine Kd.C_drew ?_))); rintro e w12 ⟨v259, rfl, ho0, hb⟩; refine ⟨_, rfl, ?_⟩; have HO260 := zQ (Kd.R_lower ho0 (below_size (zB HB.out))); replace HB := zbs HB.out hb; (try clear hb); (try clear ho0); obtain ⟨Ao13, co13, eo13⟩ := Kd.R_slice HO260.out; subst eo13) | ((with_reducible refine zgc 6 ?_); refine goesL_ (some 14) rfl rfl Tryd.func6 (by kernel_rfl) rfl #[.slice Ao13 t258.length co13] rfl zM ?_; (with_reducible refine (spec_SailText.calls k _ _ t258 t261 _ ?side1 ((Kd.R_reads' HO260.out).2.1) A5.out).mono ?_); (case side1 => repeat (first | exact (Kd.R_reads' HO260.out).2.2 | (with_reducible refine Kd.C_alloc ?_ _) | (with_reducible refine Kd.C_drewN ?_ _) | (with_reducible refine Kd.C_drew ?_))); rintro e w14 ⟨rfl, hb⟩; refine ⟨_, rfl, ?_⟩; replace HO260 := zQ (Kd.R_below (zR HO260.out) hb); replace HB := zbs HB.out hb; (try clear hb)) | ((with_reducible refine zgc 7 ?_); refine goesL_ (some 16) rfl rfl Tryd.func7 (by kernel_rfl) rfl #[.slice A0 l0.length c0] rfl zM ?_; (with_reducible refine (laws_toSpotS.calls k _ _ l0 t262 _ (zC HR0.out HB.out) HC0.out A6.out).mono ?_); rintro e w15 ⟨v263, rfl, ho0, hb⟩; refine ⟨_, rfl, ?_⟩; have HO264 := zQ (Kd.R_lower (Kd.R_new' ho0 (Kd.R_lt (zR HO260.out))) (below_size (zB HB.out))); replace HO260 := zQ (Kd.R_elder' (zR HO260.out) (Kd.R_base ho0) hb); replace HB := zbs HB.out hb; (try clear hb); (try clear ho0); obtain ⟨Ao16, co16, eo16⟩ := Kd.R_slice HO264.out; subst eo16) | ((with_reducible refine zgc 8 ?_); refine goesL_ (some 18) rfl rfl Tryd.func8 (by kernel_rfl) rfl #[.slice Ao16 t262.length co16] rfl zM ?_; (with_reducible refine (impl_SailText.calls k _ _ t262 t265 _ (HT.out.on_ (zB HB.out)) ?side1 ((Kd.R_reads' HO264.out).2.1) A7.out).mono ?_); (case side1 => repeat (first | exact (Kd.R_reads' HO264.out).2.2 | (with_reducible refine Kd.C_alloc ?_ _) | (with_reducible refine Kd.C_drewN ?_ _) | (with_reducible refine Kd.C_drew ?_))); rintro e w17 ⟨rfl, hb⟩; refine ⟨_, rfl, ?_⟩; replace HO260 := zQ (Kd.R_below (zR HO260.out) hb); replace HO264 := zQ (Kd.R_below (zR HO264.out) hb); replace HB := zbs HB.out hb; (try clear hb)) | ((with_reducible refine zgc 7 ?_); refine goesL_ (some 24) rfl rfl Tryd.func7 (by kernel_rfl) rfl #[.slice A0 l0.length c0] rfl zM ?_; (with_reducible refine (laws_toSpotS.calls k _ _ l0 t266 _ (zC HR0.out HB.out) HC0.out A9.out).mono ?_); rintro e w18 ⟨v267, rfl, ho0, hb⟩; refine ⟨_, rfl, ?_⟩; have HO268 := zQ (Kd.R_lower (Kd.R_new' (Kd.R_new' ho0 (Kd.R_lt (zR HO260.out))) (Kd.R_lt (zR HO264.out))) (below_size (zB HB.out))); replace HO260 := zQ (Kd.R_elder' (zR HO260.out) (Kd.R_base ho0) hb); replace HO264 := zQ (Kd.R_elder' (zR HO264.out) (Kd.R_base ho0) hb); replace HB := zbs HB.out hb; (try clear hb); (try clear ho0); obtain ⟨Ao19, co19, eo19⟩ := Kd.R_slice HO268.out; subst eo19) | ((with_reducible refine zgc 9 ?_); refine goesL_ (some 25) rfl rfl Tryd.func9 (by kernel_rfl) rfl #[.slice Ao16 t262.length co16, .slice Ao19 t266.length co19] rfl zM ?_; (with_reducible refine (laws_eqSpotS.calls k _ _ t262 _ _ t266 true _ ?side1 ((Kd.R_reads' HO264.out).2.1) ?side3 ((Kd.R_reads' HO268.out).2.1) A10.out).mono ?_); (case side1 => repeat (first | exact (Kd.R_reads' HO264.out).2.2 | (with_reducible refine Kd.C_alloc ?_ _) | (with_reducible refine Kd.C_drewN ?_ _) | (with_reducible refine Kd.C_drew ?_))); (case side3 => repeat (first | exact (Kd.R_reads' HO268.out).2.2 | (with_reducible refine Kd.C_alloc ?_ _) | (with_reducible refine Kd.C_drewN ?_ _) | (with_reducible refine Kd.C_drew ?_))); rintro e w20 ⟨rfl, hb⟩; refine ⟨_, rfl, ?_⟩; replace HO260 := zQ (Kd.R_below (zR HO260.out) hb); replace HO264 := zQ (Kd.R_below (zR HO264.out) hb); replace HO268 := zQ (Kd.R_below (zR HO268.out) hb); replace HB := zbs HB.out hb; (try clear hb)))
    go_ret
    exact ⟨zE, zB HB.out⟩
   ·replace c11 := Bool.eq_false_iff.mpr c11
    subst c11
    have H1 : (some false) = some r := by rw [if_neg (show ¬ (false = true) by decide)] at H; exact H
    clear H; have H := H1; clear H1; obtain rfl := Option.some.inj H
    exact absurd HRT.out (by decide)
  ·rw [if_neg c8] at H
   have c8b0 : (t265.toList == t261.toList) = false := beq_eq_false_iff_ne.mpr c8; have c8b1 : (t265.toList != t261.toList) = true := bne_iff_ne.mpr c8; obtain rfl := Option.some.inj H
   exact absurd HRT.out (by decide)
end
end Go.Proofs.YtchngbjpjbahiaaDoor.PFnExactSailText
