/- For every input the law's call returns true, and its arguments read as before. No condition. -/
import Derived.Test.YtchngbjpjbahiaaRows
import Derived.Test.YtchngbjpjbahiaaHFnSailWidthsx0
import Derived.Test.YtchngbjpjbahiaaSayFnSailWidths
import Derived.Test.YtchngbjpjbahiaaPureFnSailWidths
import Derived.Test.YtchngbjpjbahiaaOpen
import Derived.WalkKit
import Derived.ProofKit
import Derived.OpenShut
import Derived.ShutString
import Derived.ChangeOld
import Derived.Below
import Derived.Carry
import Derived.SizedLaws
namespace Go.Proofs.Ytchngbjpjbahiaa.fnSailWidths
open Go.ChangeShapes Go.WideShapes Go.ChangeAt Go.RowKit Go.Proofs.Ytchngbjpjbahiaa.Open Go.Proofs.YtchngbjpjbahiaaW.PrintWords Go.Proofs.Ytchngbjpjbahiaa.PSailw
set_option linter.unusedVariables false
theorem own : ownKnob Try.prog.godebug = none := by kernel_rfl
theorem laidOut : laidOutB Try.prog = true := by kernel_rfl
set_option maxRecDepth 100000 in
theorem lifted (os : Os) (started : os.Started) (H : Type) (enc : TypeId × Value → H) :
    ReturnsInHanded {} Try.checked os 4 .any (Rows.fnSailWidthsSpec.pre6 enc Try.prog Try.f4 Rows.fnSailWidthsRow.domain false) (Rows.fnSailWidthsSpec.post enc Try.prog Try.f4 false true false false) := by
  refine returnsInHanded_of_change_sized (C := Try.checked) own started (by kernel_rfl) Try.func4
    (ChangeSpec.witness6 (enc := enc) (C := Try.checked) false ⟨#[], #[.slice none 0 0], []⟩ 8 (by kernel_rfl) (by kernel_rfl) (by kernel_rfl) (by kernel_rfl)) ?_
  intro W base args ds gs before hval0 hW hcnd hsz0 _
  have hval : ∀ (j : Nat) t v, Try.f4.params[j]? = some t → args[j]? = some v → Value.okWide Try.prog W .any base t v := hval0
  have hW' := hW
  obtain ⟨p, q, hA0, hV, rfl, hfz, hnd⟩ := hW
  have hA : DataW.TrodAll enc Try.prog W 0 (fun _ => true) true Try.f4.params.toList args.toList ds p := hA0
  rw [Try.params4] at hA hval
  obtain ⟨v0, vs0, d0, ds0, p0, q0, hargs, rfl, rfl, h0, r0⟩ := trodAll_cons hA
  obtain ⟨rfl, rfl, rfl⟩ := trodAll_nil r0
  obtain rfl : args = #[v0] := by cases args; simp_all
  obtain ⟨rfl, rfl⟩ := trodVars_none hV
  have k0_ := h0
  have lt0 : ∀ x ∈ p0, x.block < W.heap.size := by obtain ⟨m, hm⟩ := k0_; exact DataW.trod_lt m _ _ _ hm
  clear hA0 hval0 hsz0
  obtain ⟨l0, A0, c0, rfl, hc0, hr0, w0⟩ := arg_slice Try.underlying33 (Opens.slice (e := 5) Try.underlying33 (by kernel_rfl) (Opens.int Try.underlying5 (by kernel_rfl))) (hval 0 33 v0 rfl rfl) h0
  obtain ⟨k, hcall⟩ := Pure.FnSailWidths l0 w0
  refine (laws_FnSailWidths.calls k A0 c0 l0 true W hr0 hc0 hcall rfl).mono fun e W' ⟨he, bel0⟩ => ?_
  have bel : Below W.heap.size W W' := bel0
  subst he
  exact ⟨_, rfl, _, _, _, [], _, [], hW', trodAll_mk1 (shut_bool Try.underlying4 _), (trodAll_cons_mk (Below.trod laidOut (by kernel_rfl) (of_decide_eq_true (by kernel_rfl)) k0_ bel lt0) trodAll_mk0), rfl, bel.frame _, fun h => by cases h⟩
theorem over : Rows.fnSailWidthsRow.holds Try.pinned (OpenSpec.ofChange Rows.fnSailWidthsSpec) :=
  OpenClaim.holds_of_wide 4 Try.f4 rfl rfl rfl rfl rfl rfl rfl ⟨rfl, rfl, rfl, rfl, rfl⟩ rfl rfl rfl rfl rfl (by kernel_rfl) Try.func4 (by kernel_rfl)
    (of_decide_eq_true (by kernel_rfl)) (by unfold Func.isWrapper; first | (rw [if_pos (by decide +kernel)]; kernel_rfl) | (rw [if_neg (by decide +kernel)]; exact ⟨rfl, rfl⟩))
    (fun os started H enc _ => lifted os started H enc)
end Go.Proofs.Ytchngbjpjbahiaa.fnSailWidths
namespace Go.Proofs.Ytchngbjpjbahiaa
/-- The row, under a short name. -/
theorem fnSailWidths_holds : Rows.FnSailWidthsSaid := fnSailWidths.over
#print axioms fnSailWidths_holds
end Go.Proofs.Ytchngbjpjbahiaa
