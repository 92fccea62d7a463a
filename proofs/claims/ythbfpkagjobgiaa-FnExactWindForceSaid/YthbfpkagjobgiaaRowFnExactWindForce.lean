/- For every input the law's call returns true, and its arguments read as before. No condition. -/
import Derived.Test.YthbfpkagjobgiaaRows
import Derived.Test.YthbfpkagjobgiaaHFnExactWindForcex2
import Derived.Test.YthbfpkagjobgiaaSayFnExactWindForce
import Derived.Test.YthbfpkagjobgiaaPureFnExactWindForce
import Derived.Test.YthbfpkagjobgiaaOpen
import Derived.WalkKit
import Derived.ProofKit
import Derived.OpenShut
import Derived.ShutString
import Derived.ChangeOld
import Derived.Below
import Derived.Carry
import Derived.SizedLaws
namespace Go.Proofs.Ythbfpkagjobgiaa.fnExactWindForce
open Go.ChangeShapes Go.WideShapes Go.ChangeAt Go.RowKit Go.Proofs.Ythbfpkagjobgiaa.Open Go.Proofs.YthbfpkagjobgiaaW.PrintWords Go.Proofs.Ythbfpkagjobgiaa.PFnExactWindForce
set_option linter.unusedVariables false
theorem own : ownKnob Try.prog.godebug = none := by kernel_rfl
theorem laidOut : laidOutB Try.prog = true := by kernel_rfl
set_option maxRecDepth 100000 in
theorem lifted (os : Os) (started : os.Started) (H : Type) (enc : TypeId × Value → H) :
    ReturnsInHanded {} Try.checked os 3 .any (Rows.fnExactWindForceSpec.pre6 enc Try.prog Try.f3 Rows.fnExactWindForceRow.domain false) (Rows.fnExactWindForceSpec.post enc Try.prog Try.f3 false true false false) := by
  refine returnsInHanded_of_change_sized (C := Try.checked) own started (by kernel_rfl) Try.func3
    (ChangeSpec.witness6 (enc := enc) (C := Try.checked) false ⟨#[], #[.agg #[.string ⟨#[]⟩, .int .i64 0, .int .i64 0, .int .i64 0, .int .i64 0], .int .i64 0], []⟩ 8 (by kernel_rfl) (by kernel_rfl) (by kernel_rfl) (by kernel_rfl)) ?_
  intro W base args ds gs before hval0 hW hcnd hsz0 _
  have hval : ∀ (j : Nat) t v, Try.f3.params[j]? = some t → args[j]? = some v → Value.okWide Try.prog W .any base t v := hval0
  have hW' := hW
  obtain ⟨p, q, hA0, hV, rfl, hfz, hnd⟩ := hW
  have hA : DataW.TrodAll enc Try.prog W 0 (fun _ => true) true Try.f3.params.toList args.toList ds p := hA0
  rw [Try.params3] at hA hval
  obtain ⟨v0, vs0, d0, ds0, p0, q0, hargs, rfl, rfl, h0, r0⟩ := trodAll_cons hA
  obtain ⟨v1, vs1, d1, ds1, p1, q1, rfl, rfl, rfl, h1, r1⟩ := trodAll_cons r0
  obtain ⟨rfl, rfl, rfl⟩ := trodAll_nil r1
  obtain rfl : args = #[v0, v1] := by cases args; simp_all
  obtain ⟨rfl, rfl⟩ := trodVars_none hV
  have k0_ := h0
  have lt0 : ∀ x ∈ p0, x.block < W.heap.size := by obtain ⟨m, hm⟩ := k0_; exact DataW.trod_lt m _ _ _ hm
  have k1_ := h1
  have lt1 : ∀ x ∈ p1, x.block < W.heap.size := by obtain ⟨m, hm⟩ := k1_; exact DataW.trod_lt m _ _ _ hm
  clear hA0 hval0 hsz0
  obtain ⟨x0, cs0, rfl, hk0, w0⟩ := arg_struct Try.underlying23 (Opens.struct (fit' := fun z : ByteArray × Int × Int × Int × Int => ByteArray.size (z).1 ≤ maxLen ∧ (Lit.int .i64 ((z).2).1).wf = true ∧ (Lit.int .i64 (((z).2).2).1).wf = true ∧ (Lit.int .i64 ((((z).2).2).2).1).wf = true ∧ (Lit.int .i64 ((((z).2).2).2).2).wf = true) Try.underlying23 (by kernel_rfl) (OpensF.more rfl (Opens.string Try.underlying9 (by kernel_rfl)) (OpensF.more rfl (Opens.int Try.underlying2 (by kernel_rfl)) (OpensF.more rfl (Opens.int Try.underlying2 (by kernel_rfl)) (OpensF.more rfl (Opens.int Try.underlying2 (by kernel_rfl)) (OpensF.last rfl (Opens.int Try.underlying2 (by kernel_rfl))))))) id id (fun _ => rfl) (fun _ h => h)) (hval 0 23 v0 rfl rfl) h0
  obtain ⟨a0_0, a0_1, a0_2, a0_3, a0_4⟩ := x0
  obtain ⟨w0_0, w0_1, w0_2, w0_3, w0_4⟩ := w0
  obtain ⟨_, _, rfl, hk0_0, hz0_0⟩ := hk0
  obtain rfl := hk0_0
  obtain ⟨_, _, rfl, hk0_1, hz0_1⟩ := hz0_0
  obtain rfl := hk0_1
  obtain ⟨_, _, rfl, hk0_2, hz0_2⟩ := hz0_1
  obtain rfl := hk0_2
  obtain ⟨_, _, rfl, hk0_3, hz0_3⟩ := hz0_2
  obtain rfl := hk0_3
  have hk0_4 := hz0_3
  obtain rfl := hk0_4
  obtain ⟨a1, rfl, w1⟩ := arg_int Try.underlying2 (by kernel_rfl) (hval 1 2 v1 rfl rfl) h1
  obtain ⟨k, hcall⟩ := Pure.FnExactWindForce a0_0 a0_1 a0_2 a0_3 a0_4 a1 w0_0 w0_1 w0_2 w0_3 w0_4 w1
  refine (laws_FnExactWindForce.calls k a0_0 a0_1 a0_2 a0_3 a0_4 a1 true W hcall rfl).mono fun e W' ⟨he, bel0⟩ => ?_
  have bel : Below W.heap.size W W' := bel0
  subst he
  exact ⟨_, rfl, _, _, _, [], _, [], hW', trodAll_mk1 (shut_bool Try.underlying4 _), (trodAll_cons_mk (Below.trod laidOut (by kernel_rfl) (of_decide_eq_true (by kernel_rfl)) k0_ bel lt0) (trodAll_cons_mk (Below.trod laidOut (by kernel_rfl) (of_decide_eq_true (by kernel_rfl)) k1_ bel lt1) trodAll_mk0)), rfl, bel.frame _, fun h => by cases h⟩
theorem over : Rows.fnExactWindForceRow.holds Try.pinned (OpenSpec.ofChange Rows.fnExactWindForceSpec) :=
  OpenClaim.holds_of_wide 3 Try.f3 rfl rfl rfl rfl rfl rfl rfl ⟨rfl, rfl, rfl, rfl, rfl⟩ rfl rfl rfl rfl rfl (by kernel_rfl) Try.func3 (by kernel_rfl)
    (of_decide_eq_true (by kernel_rfl)) (by unfold Func.isWrapper; first | (rw [if_pos (by decide +kernel)]; kernel_rfl) | (rw [if_neg (by decide +kernel)]; exact ⟨rfl, rfl⟩))
    (fun os started H enc _ => lifted os started H enc)
end Go.Proofs.Ythbfpkagjobgiaa.fnExactWindForce
namespace Go.Proofs.Ythbfpkagjobgiaa
/-- The row, under a short name. -/
theorem fnExactWindForce_holds : Rows.FnExactWindForceSaid := fnExactWindForce.over
#print axioms fnExactWindForce_holds
end Go.Proofs.Ythbfpkagjobgiaa
