/- For every input the law's call returns true, and its arguments read as before. No condition. -/
import Derived.Test.YtimjblgepbhoaaaRows
import Derived.Test.YtimjblgepbhoaaaHFnExactFewestStaysx0
import Derived.Test.YtimjblgepbhoaaaSayFnExactFewestStays
import Derived.Test.YtimjblgepbhoaaaPureFnExactFewestStays
import Derived.Test.YtimjblgepbhoaaaOpen
import Derived.WalkKit
import Derived.ProofKit
import Derived.OpenShut
import Derived.ShutString
import Derived.ChangeOld
import Derived.Below
import Derived.Carry
import Derived.SizedLaws
namespace Go.Proofs.Ytimjblgepbhoaaa.fnExactFewestStays
open Go.ChangeShapes Go.WideShapes Go.ChangeAt Go.RowKit Go.Proofs.Ytimjblgepbhoaaa.Open Go.Proofs.YtimjblgepbhoaaaW.PrintWords Go.Proofs.Ytimjblgepbhoaaa.PStays
set_option linter.unusedVariables false
theorem own : ownKnob Try.prog.godebug = none := by kernel_rfl
theorem laidOut : laidOutB Try.prog = true := by kernel_rfl
set_option maxRecDepth 100000 in
theorem lifted (os : Os) (started : os.Started) (H : Type) (enc : TypeId × Value → H) :
    ReturnsInHanded {} Try.checked os 12 .any (Rows.fnExactFewestStaysSpec.pre6 enc Try.prog Try.f12 Rows.fnExactFewestStaysRow.domain false) (Rows.fnExactFewestStaysSpec.post enc Try.prog Try.f12 false true false false) := by
  refine returnsInHanded_of_change_sized (C := Try.checked) own started (by kernel_rfl) Try.func12
    (ChangeSpec.witness6 (enc := enc) (C := Try.checked) false ⟨#[], #[.agg #[.slice none 0 0, .slice none 0 0], .slice none 0 0], []⟩ 8 (by kernel_rfl) (by kernel_rfl) (by kernel_rfl) (by kernel_rfl)) ?_
  intro W base args ds gs before hval0 hW hcnd hsz0 _
  have hval : ∀ (j : Nat) t v, Try.f12.params[j]? = some t → args[j]? = some v → Value.okWide Try.prog W .any base t v := hval0
  have hW' := hW
  obtain ⟨p, q, hA0, hV, rfl, hfz, hnd⟩ := hW
  have hA : DataW.TrodAll enc Try.prog W 0 (fun _ => true) true Try.f12.params.toList args.toList ds p := hA0
  rw [Try.params12] at hA hval
  obtain ⟨v0, vs0, d0, ds0, p0, q0, hargs, rfl, rfl, h0, r0⟩ := trodAll_cons hA
  obtain ⟨v1, vs1, d1, ds1, p1, q1, rfl, rfl, rfl, h1, r1⟩ := trodAll_cons r0
  obtain ⟨rfl, rfl, rfl⟩ := trodAll_nil r1
  obtain rfl : args = #[v0, v1] := by cases args; simp_all
  obtain ⟨rfl, rfl⟩ := trodVars_none hV
  have k0_ := h0
  have lt0 : ∀ x ∈ p0, x.block < W.heap.size := by obtain ⟨m, hm⟩ := k0_; exact DataW.trod_lt m _ _ _ hm
  have k1_ := h1
  have lt1 : ∀ x ∈ p1, x.block < W.heap.size := by obtain ⟨m, hm⟩ := k1_; exact DataW.trod_lt m _ _ _ hm
  clear hA0 hval0 hsz0
  obtain ⟨x0, cs0, rfl, hk0, w0⟩ := arg_struct Try.underlying54 (Opens.struct (fit' := fun z : (List S166) × (List S168) => (List.length (z).1 ≤ maxLen ∧ ∀ yz_1 ∈ (z).1, ((Lit.int .i64 yz_1.f0).wf = true ∧ (Lit.int .i64 yz_1.f1).wf = true ∧ True)) ∧ (List.length (z).2 ≤ maxLen ∧ ∀ yz_2 ∈ (z).2, ((Lit.int .i64 yz_2.f0).wf = true ∧ (Lit.int .i64 yz_2.f1).wf = true ∧ True))) Try.underlying54 (by kernel_rfl) (OpensF.more rfl (Opens.slice (e := 166) Try.underlying51 (by kernel_rfl) (Opens.struct (fit' := fun z : S166 => ((Lit.int .i64 z.f0).wf = true ∧ (Lit.int .i64 z.f1).wf = true ∧ True)) Try.underlying166 (by kernel_rfl) (OpensF.more rfl (Opens.int Try.underlying2 (by kernel_rfl)) (OpensF.more rfl (Opens.int Try.underlying2 (by kernel_rfl)) (OpensF.last rfl (Opens.bool Try.underlying4 (by kernel_rfl))))) (fun x : S166 => (x.f0, x.f1, x.f2)) (fun a => ⟨a.1, a.2.1, a.2.2⟩) (fun _ => rfl) (fun _ h => h))) (OpensF.last rfl (Opens.slice (e := 168) Try.underlying52 (by kernel_rfl) (Opens.struct (fit' := fun z : S168 => ((Lit.int .i64 z.f0).wf = true ∧ (Lit.int .i64 z.f1).wf = true ∧ True)) Try.underlying168 (by kernel_rfl) (OpensF.more rfl (Opens.int Try.underlying2 (by kernel_rfl)) (OpensF.more rfl (Opens.int Try.underlying2 (by kernel_rfl)) (OpensF.last rfl (Opens.bool Try.underlying4 (by kernel_rfl))))) (fun x : S168 => (x.f0, x.f1, x.f2)) (fun a => ⟨a.1, a.2.1, a.2.2⟩) (fun _ => rfl) (fun _ h => h))))) id id (fun _ => rfl) (fun _ h => h)) (hval 0 54 v0 rfl rfl) h0
  obtain ⟨l0_0, l0_1⟩ := x0
  obtain ⟨w0_0, w0_1⟩ := w0
  obtain ⟨_, _, rfl, hk0_0, hz0_0⟩ := hk0
  obtain ⟨A0_0, c0_0, rfl, hc0_0, hr0_0⟩ := hk0_0
  have hk0_1 := hz0_0
  obtain ⟨A0_1, c0_1, rfl, hc0_1, hr0_1⟩ := hk0_1
  obtain ⟨l1, A1, c1, rfl, hc1, hr1, w1⟩ := arg_slice Try.underlying68 (Opens.slice (e := 55) Try.underlying68 (by kernel_rfl) (Opens.slice (e := 122) Try.underlying55 (by kernel_rfl) (Opens.struct (fit' := fun z : S122 => ((Lit.int .i64 z.f0).wf = true ∧ (Lit.int .i64 z.f1).wf = true)) Try.underlying122 (by kernel_rfl) (OpensF.more rfl (Opens.int Try.underlying2 (by kernel_rfl)) (OpensF.last rfl (Opens.int Try.underlying2 (by kernel_rfl)))) (fun x : S122 => (x.f0, x.f1)) (fun a => ⟨a.1, a.2⟩) (fun _ => rfl) (fun _ h => h)))) (hval 1 68 v1 rfl rfl) h1
  obtain ⟨k, hcall⟩ := Pure.FnExactFewestStays l0_0 l0_1 l1 w0_0 w0_1 w1
  refine (laws_FnExactFewestStays.calls k A0_0 c0_0 l0_0 A0_1 c0_1 l0_1 A1 c1 l1 true W hr0_0 hc0_0 hr0_1 hc0_1 hr1 hc1 hcall rfl).mono fun e W' ⟨he, bel0⟩ => ?_
  have bel : Below W.heap.size W W' := bel0
  subst he
  exact ⟨_, rfl, _, _, _, [], _, [], hW', trodAll_mk1 (shut_bool Try.underlying4 _), (trodAll_cons_mk (Below.trod laidOut (by kernel_rfl) (of_decide_eq_true (by kernel_rfl)) k0_ bel lt0) (trodAll_cons_mk (Below.trod laidOut (by kernel_rfl) (of_decide_eq_true (by kernel_rfl)) k1_ bel lt1) trodAll_mk0)), rfl, bel.frame _, fun h => by cases h⟩
theorem over : Rows.fnExactFewestStaysRow.holds Try.pinned (OpenSpec.ofChange Rows.fnExactFewestStaysSpec) :=
  OpenClaim.holds_of_wide 12 Try.f12 rfl rfl rfl rfl rfl rfl rfl ⟨rfl, rfl, rfl, rfl, rfl⟩ rfl rfl rfl rfl rfl (by kernel_rfl) Try.func12 (by kernel_rfl)
    (of_decide_eq_true (by kernel_rfl)) (by unfold Func.isWrapper; first | (rw [if_pos (by decide +kernel)]; kernel_rfl) | (rw [if_neg (by decide +kernel)]; exact ⟨rfl, rfl⟩))
    (fun os started H enc _ => lifted os started H enc)
end Go.Proofs.Ytimjblgepbhoaaa.fnExactFewestStays
namespace Go.Proofs.Ytimjblgepbhoaaa
/-- The row, under a short name. -/
theorem fnExactFewestStays_holds : Rows.FnExactFewestStaysSaid := fnExactFewestStays.over
#print axioms fnExactFewestStays_holds
end Go.Proofs.Ytimjblgepbhoaaa
