/- For every input the law's call returns true, and its arguments read as before. No condition. -/
import Derived.Test.YtlddapidlobpnaaRows
import Derived.Test.YtlddapidlobpnaaHFnRoachBoundsx2
import Derived.Test.YtlddapidlobpnaaSayFnRoachBounds
import Derived.Test.YtlddapidlobpnaaPureFnRoachBounds
import Derived.Test.YtlddapidlobpnaaOpen
import Derived.WalkKit
import Derived.ProofKit
import Derived.OpenShut
import Derived.ShutString
import Derived.ChangeOld
import Derived.Below
import Derived.Carry
import Derived.SizedLaws
namespace Go.Proofs.Ytlddapidlobpnaa.fnRoachBounds
open Go.ChangeShapes Go.WideShapes Go.ChangeAt Go.RowKit Go.Proofs.Ytlddapidlobpnaa.Open Go.Proofs.YtlddapidlobpnaaW.PrintWords Go.Proofs.Ytlddapidlobpnaa.PFnRoachBounds
set_option linter.unusedVariables false
theorem own : ownKnob Try.prog.godebug = none := by kernel_rfl
theorem laidOut : laidOutB Try.prog = true := by kernel_rfl
set_option maxRecDepth 100000 in
theorem lifted (os : Os) (started : os.Started) (H : Type) (enc : TypeId × Value → H) :
    ReturnsInHanded {} Try.checked os 9 .any (Rows.fnRoachBoundsSpec.pre6 enc Try.prog Try.f9 Rows.fnRoachBoundsRow.domain false) (Rows.fnRoachBoundsSpec.post enc Try.prog Try.f9 false true false false) := by
  refine returnsInHanded_of_change_sized (C := Try.checked) own started (by kernel_rfl) Try.func9
    (ChangeSpec.witness6 (enc := enc) (C := Try.checked) false ⟨#[], #[.slice none 0 0, .slice none 0 0], []⟩ 8 (by kernel_rfl) (by kernel_rfl) (by kernel_rfl) (by kernel_rfl)) ?_
  intro W base args ds gs before hval0 hW hcnd hsz0 _
  have hval : ∀ (j : Nat) t v, Try.f9.params[j]? = some t → args[j]? = some v → Value.okWide Try.prog W .any base t v := hval0
  have hW' := hW
  obtain ⟨p, q, hA0, hV, rfl, hfz, hnd⟩ := hW
  have hA : DataW.TrodAll enc Try.prog W 0 (fun _ => true) true Try.f9.params.toList args.toList ds p := hA0
  rw [Try.params9] at hA hval
  obtain ⟨v0, vs0, d0, ds0, p0, q0, hargs, rfl, rfl, h0, r0⟩ := trodAll_cons hA
  obtain ⟨v1, vs1, d1, ds1, p1, q1, rfl, rfl, rfl, h1, r1⟩ := trodAll_cons r0
  obtain ⟨rfl, rfl, rfl⟩ := trodAll_nil r1
  obtain rfl : args = #[v0, v1] := by cases args; simp_all
  obtain ⟨rfl, rfl⟩ := trodVars_none hV
  have k0_ := h0
  have lt0 : ∀ x ∈ p0, x.block < W.heap.size := by obtain ⟨m, hm⟩ := k0_; exact DataW.trod_lt m _ _ _ hm
  have k1_ := h1
  have lt1 : ∀ x ∈ p1, x.block < W.heap.size := by obtain ⟨m, hm⟩ := k1_; exact DataW.trod_lt m _ _ _ hm
  clear hA0 hval0 hsz0
  obtain ⟨l0, A0, c0, rfl, hc0, hr0, w0⟩ := arg_slice Try.underlying49 (Opens.slice (e := 5) Try.underlying49 (by kernel_rfl) (Opens.int Try.underlying5 (by kernel_rfl))) (hval 0 49 v0 rfl rfl) h0
  obtain ⟨l1, A1, c1, rfl, hc1, hr1, w1⟩ := arg_slice Try.underlying49 (Opens.slice (e := 5) Try.underlying49 (by kernel_rfl) (Opens.int Try.underlying5 (by kernel_rfl))) (hval 1 49 v1 rfl rfl) h1
  obtain ⟨k, hcall⟩ := Pure.FnRoachBounds l0 l1 w0 w1
  refine (laws_FnRoachBounds.calls k A0 c0 l0 A1 c1 l1 true W hr0 hc0 hr1 hc1 hcall rfl).mono fun e W' ⟨he, bel0⟩ => ?_
  have bel : Below W.heap.size W W' := bel0
  subst he
  exact ⟨_, rfl, _, _, _, [], _, [], hW', trodAll_mk1 (shut_bool Try.underlying4 _), (trodAll_cons_mk (Below.trod laidOut (by kernel_rfl) (of_decide_eq_true (by kernel_rfl)) k0_ bel lt0) (trodAll_cons_mk (Below.trod laidOut (by kernel_rfl) (of_decide_eq_true (by kernel_rfl)) k1_ bel lt1) trodAll_mk0)), rfl, bel.frame _, fun h => by cases h⟩
theorem over : Rows.fnRoachBoundsRow.holds Try.pinned (OpenSpec.ofChange Rows.fnRoachBoundsSpec) :=
  OpenClaim.holds_of_wide 9 Try.f9 rfl rfl rfl rfl rfl rfl rfl ⟨rfl, rfl, rfl, rfl, rfl⟩ rfl rfl rfl rfl rfl (by kernel_rfl) Try.func9 (by kernel_rfl)
    (of_decide_eq_true (by kernel_rfl)) (by unfold Func.isWrapper; first | (rw [if_pos (by decide +kernel)]; kernel_rfl) | (rw [if_neg (by decide +kernel)]; exact ⟨rfl, rfl⟩))
    (fun os started H enc _ => lifted os started H enc)
end Go.Proofs.Ytlddapidlobpnaa.fnRoachBounds
namespace Go.Proofs.Ytlddapidlobpnaa
/-- The row, under a short name. -/
theorem fnRoachBounds_holds : Rows.FnRoachBoundsSaid := fnRoachBounds.over
#print axioms fnRoachBounds_holds
end Go.Proofs.Ytlddapidlobpnaa
