/- For every input the law's call returns true, and its arguments read as before. No condition. -/
import Derived.Test.YtfbimpibpjebaaaRows
import Derived.Test.YtfbimpibpjebaaaHFnExactCentreOfx10
import Derived.Test.YtfbimpibpjebaaaSayFnExactCentreOf
import Derived.Test.YtfbimpibpjebaaaPureFnExactCentreOf
import Derived.Test.YtfbimpibpjebaaaOpen
import Derived.WalkKit
import Derived.ProofKit
import Derived.OpenShut
import Derived.ShutString
import Derived.ChangeOld
import Derived.Below
import Derived.Carry
import Derived.SizedLaws
namespace Go.Proofs.Ytfbimpibpjebaaa.fnExactCentreOf
open Go.ChangeShapes Go.WideShapes Go.ChangeAt Go.RowKit Go.Proofs.Ytfbimpibpjebaaa.Open Go.Proofs.YtfbimpibpjebaaaW.PrintWords Go.Proofs.Ytfbimpibpjebaaa.PFnExactCentreOf
set_option linter.unusedVariables false
theorem own : ownKnob Try.prog.godebug = none := by kernel_rfl
theorem laidOut : laidOutB Try.prog = true := by kernel_rfl
set_option maxRecDepth 100000 in
theorem lifted (os : Os) (started : os.Started) (H : Type) (enc : TypeId × Value → H) :
    ReturnsInHanded {} Try.checked os 13 .any (Rows.fnExactCentreOfSpec.pre6 enc Try.prog Try.f13 Rows.fnExactCentreOfRow.domain false) (Rows.fnExactCentreOfSpec.post enc Try.prog Try.f13 false true false false) := by
  refine returnsInHanded_of_change_sized (C := Try.checked) own started (by kernel_rfl) Try.func13
    (ChangeSpec.witness6 (enc := enc) (C := Try.checked) false ⟨#[], #[.slice none 0 0], []⟩ 8 (by kernel_rfl) (by kernel_rfl) (by kernel_rfl) (by kernel_rfl)) ?_
  intro W base args ds gs before hval0 hW hcnd hsz0 _
  have hval : ∀ (j : Nat) t v, Try.f13.params[j]? = some t → args[j]? = some v → Value.okWide Try.prog W .any base t v := hval0
  have hW' := hW
  obtain ⟨p, q, hA0, hV, rfl, hfz, hnd⟩ := hW
  have hA : DataW.TrodAll enc Try.prog W 0 (fun _ => true) true Try.f13.params.toList args.toList ds p := hA0
  rw [Try.params13] at hA hval
  obtain ⟨v0, vs0, d0, ds0, p0, q0, hargs, rfl, rfl, h0, r0⟩ := trodAll_cons hA
  obtain ⟨rfl, rfl, rfl⟩ := trodAll_nil r0
  obtain rfl : args = #[v0] := by cases args; simp_all
  obtain ⟨rfl, rfl⟩ := trodVars_none hV
  have k0_ := h0
  have lt0 : ∀ x ∈ p0, x.block < W.heap.size := by obtain ⟨m, hm⟩ := k0_; exact DataW.trod_lt m _ _ _ hm
  clear hA0 hval0 hsz0
  obtain ⟨l0, A0, c0, rfl, hc0, hr0, w0⟩ := arg_slice Try.underlying22 (Opens.slice (e := 50) Try.underlying22 (by kernel_rfl) (Opens.struct (fit' := fun z : S50 => ((Lit.int .i64 z.f0).wf = true ∧ (Lit.int .i64 z.f1).wf = true)) Try.underlying50 (by kernel_rfl) (OpensF.more rfl (Opens.int Try.underlying2 (by kernel_rfl)) (OpensF.last rfl (Opens.int Try.underlying2 (by kernel_rfl)))) (fun x : S50 => (x.f0, x.f1)) (fun a => ⟨a.1, a.2⟩) (fun _ => rfl) (fun _ h => h))) (hval 0 22 v0 rfl rfl) h0
  obtain ⟨k, hcall⟩ := Pure.FnExactCentreOf l0 w0
  refine (laws_FnExactCentreOf.calls k A0 c0 l0 true W hr0 hc0 hcall).mono fun e W' ⟨he, bel0⟩ => ?_
  have bel : Below W.heap.size W W' := bel0
  subst he
  exact ⟨_, rfl, _, _, _, [], _, [], hW', trodAll_mk1 (shut_bool Try.underlying4 _), (trodAll_cons_mk (Below.trod laidOut (by kernel_rfl) (of_decide_eq_true (by kernel_rfl)) k0_ bel lt0) trodAll_mk0), rfl, bel.frame _, fun h => by cases h⟩
theorem over : Rows.fnExactCentreOfRow.holds Try.pinned (OpenSpec.ofChange Rows.fnExactCentreOfSpec) :=
  OpenClaim.holds_of_wide 13 Try.f13 rfl rfl rfl rfl rfl rfl rfl ⟨rfl, rfl, rfl, rfl, rfl⟩ rfl rfl rfl rfl rfl (by kernel_rfl) Try.func13 (by kernel_rfl)
    (of_decide_eq_true (by kernel_rfl)) (by unfold Func.isWrapper; first | (rw [if_pos (by decide +kernel)]; kernel_rfl) | (rw [if_neg (by decide +kernel)]; exact ⟨rfl, rfl⟩))
    (fun os started H enc _ => lifted os started H enc)
end Go.Proofs.Ytfbimpibpjebaaa.fnExactCentreOf
namespace Go.Proofs.Ytfbimpibpjebaaa
/-- The row, under a short name. -/
theorem fnExactCentreOf_holds : Rows.FnExactCentreOfSaid := fnExactCentreOf.over
#print axioms fnExactCentreOf_holds
end Go.Proofs.Ytfbimpibpjebaaa
