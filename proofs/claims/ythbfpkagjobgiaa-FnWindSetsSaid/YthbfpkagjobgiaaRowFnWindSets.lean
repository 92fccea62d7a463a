/- For every input the law's call returns true, and its arguments read as before. No condition. -/
import Derived.Test.YthbfpkagjobgiaaRows
import Derived.Test.YthbfpkagjobgiaaHFnWindSetsx9
import Derived.Test.YthbfpkagjobgiaaSayFnWindSets
import Derived.Test.YthbfpkagjobgiaaPureFnWindSets
import Derived.Test.YthbfpkagjobgiaaOpen
import Derived.WalkKit
import Derived.ProofKit
import Derived.OpenShut
import Derived.ShutString
import Derived.ChangeOld
import Derived.Below
import Derived.Carry
import Derived.SizedLaws
namespace Go.Proofs.Ythbfpkagjobgiaa.fnWindSets
open Go.ChangeShapes Go.WideShapes Go.ChangeAt Go.RowKit Go.Proofs.Ythbfpkagjobgiaa.Open Go.Proofs.YthbfpkagjobgiaaW.PrintWords Go.Proofs.Ythbfpkagjobgiaa.PFnWindSets
set_option linter.unusedVariables false
theorem own : ownKnob Try.prog.godebug = none := by kernel_rfl
theorem laidOut : laidOutB Try.prog = true := by kernel_rfl
set_option maxRecDepth 100000 in
theorem lifted (os : Os) (started : os.Started) (H : Type) (enc : TypeId × Value → H) :
    ReturnsInHanded {} Try.checked os 11 .any (Rows.fnWindSetsSpec.pre6 enc Try.prog Try.f11 Rows.fnWindSetsRow.domain false) (Rows.fnWindSetsSpec.post enc Try.prog Try.f11 false true false false) := by
  refine returnsInHanded_of_change_sized (C := Try.checked) own started (by kernel_rfl) Try.func11
    (ChangeSpec.witness6 (enc := enc) (C := Try.checked) false ⟨#[], #[.slice none 0 0, .slice none 0 0], []⟩ 8 (by kernel_rfl) (by kernel_rfl) (by kernel_rfl) (by kernel_rfl)) ?_
  intro W base args ds gs before hval0 hW hcnd hsz0 _
  have hval : ∀ (j : Nat) t v, Try.f11.params[j]? = some t → args[j]? = some v → Value.okWide Try.prog W .any base t v := hval0
  have hW' := hW
  obtain ⟨p, q, hA0, hV, rfl, hfz, hnd⟩ := hW
  have hA : DataW.TrodAll enc Try.prog W 0 (fun _ => true) true Try.f11.params.toList args.toList ds p := hA0
  rw [Try.params11] at hA hval
  obtain ⟨v0, vs0, d0, ds0, p0, q0, hargs, rfl, rfl, h0, r0⟩ := trodAll_cons hA
  obtain ⟨v1, vs1, d1, ds1, p1, q1, rfl, rfl, rfl, h1, r1⟩ := trodAll_cons r0
  obtain ⟨rfl, rfl, rfl⟩ := trodAll_nil r1
  obtain rfl : args = #[v0, v1] := by cases args; simp_all
  obtain ⟨rfl, rfl⟩ := trodVars_none hV
  have k0_ := h0
  have lt0 : ∀ x ∈ p0, x.block < W.heap.size := by obtain ⟨m, hm⟩ := k0_; exact DataW.trod_lt m _ _ _ hm
  have k1_ := h1
  have lt1 : ∀ x ∈ p1, x.block < W.heap.size := by obtain ⟨m, hm⟩ := k1_; exact DataW.trod_lt m _ _ _ hm
  clear hA0 hval0 hsz0
  obtain ⟨l0, A0, c0, rfl, hc0, hr0, w0⟩ := arg_slice Try.underlying46 (Opens.slice (e := 5) Try.underlying46 (by kernel_rfl) (Opens.int Try.underlying5 (by kernel_rfl))) (hval 0 46 v0 rfl rfl) h0
  obtain ⟨l1, A1, c1, rfl, hc1, hr1, w1⟩ := arg_slice Try.underlying46 (Opens.slice (e := 5) Try.underlying46 (by kernel_rfl) (Opens.int Try.underlying5 (by kernel_rfl))) (hval 1 46 v1 rfl rfl) h1
  obtain ⟨k, hcall⟩ := Pure.FnWindSets l0 l1 w0 w1
  refine (laws_FnWindSets.calls k A0 c0 l0 A1 c1 l1 true W hr0 hc0 hr1 hc1 hcall rfl).mono fun e W' ⟨he, bel0⟩ => ?_
  have bel : Below W.heap.size W W' := bel0
  subst he
  exact ⟨_, rfl, _, _, _, [], _, [], hW', trodAll_mk1 (shut_bool Try.underlying4 _), (trodAll_cons_mk (Below.trod laidOut (by kernel_rfl) (of_decide_eq_true (by kernel_rfl)) k0_ bel lt0) (trodAll_cons_mk (Below.trod laidOut (by kernel_rfl) (of_decide_eq_true (by kernel_rfl)) k1_ bel lt1) trodAll_mk0)), rfl, bel.frame _, fun h => by cases h⟩
theorem over : Rows.fnWindSetsRow.holds Try.pinned (OpenSpec.ofChange Rows.fnWindSetsSpec) :=
  OpenClaim.holds_of_wide 11 Try.f11 rfl rfl rfl rfl rfl rfl rfl ⟨rfl, rfl, rfl, rfl, rfl⟩ rfl rfl rfl rfl rfl (by kernel_rfl) Try.func11 (by kernel_rfl)
    (of_decide_eq_true (by kernel_rfl)) (by unfold Func.isWrapper; first | (rw [if_pos (by decide +kernel)]; kernel_rfl) | (rw [if_neg (by decide +kernel)]; exact ⟨rfl, rfl⟩))
    (fun os started H enc _ => lifted os started H enc)
end Go.Proofs.Ythbfpkagjobgiaa.fnWindSets
namespace Go.Proofs.Ythbfpkagjobgiaa
/-- The row, under a short name. -/
theorem fnWindSets_holds : Rows.FnWindSetsSaid := fnWindSets.over
#print axioms fnWindSets_holds
end Go.Proofs.Ythbfpkagjobgiaa
