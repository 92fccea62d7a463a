/- For every input the law's call returns true, and its arguments read as before. No condition. -/
import Derived.Test.YtchngbjpjbahiaaGreatDoorRows
import Derived.Test.YtchngbjpjbahiaaGreatDoorHFnSailAreasx0
import Derived.Test.YtchngbjpjbahiaaGreatDoorSayFnSailAreas
import Derived.Test.YtchngbjpjbahiaaGreatDoorPureFnSailAreas
import Derived.Test.YtchngbjpjbahiaaGreatDoorOpen
import Derived.WalkKit
import Derived.ProofKit
import Derived.OpenShut
import Derived.ShutString
import Derived.ChangeOld
import Derived.Below
import Derived.Carry
import Derived.SizedLaws
import Derived.LaidLaws
import Derived.Lib.LaidTab
import Derived.Lib.AppendIntMem
import Derived.JoinedOf
import Derived.JoinedAt
import Derived.Handed
import Derived.Stop.LaidErr
import Derived.Shelf.Vars
import Derived.Test.YtchngbjpjbahiaaGreatDoorTie
import Derived.Test.YtchngbjpjbahiaaGreatDoorCards
import Derived.SevenTiedAt
namespace Go.Proofs.YtchngbjpjbahiaaGreatDoor.fnSailAreas
open Go.ChangeShapes Go.WideShapes Go.ChangeAt Go.RowKit Go.Proofs.YtchngbjpjbahiaaGreatDoor.Open Go.Proofs.YtchngbjpjbahiaaGreatDoorW.PrintWords Go.Proofs.YtchngbjpjbahiaaGreatDoor.PSailz
set_option linter.unusedVariables false
theorem own : ownKnob Tryz.prog.godebug = none := by kernel_rfl
theorem laidOut : laidOutB Tryz.prog = true := by kernel_rfl
def deB32 : List Int := [0, 1, 28, 2, 29, 14, 24, 3, 30, 22, 20, 15, 25, 17, 4, 8, 31, 27, 13, 23, 21, 19, 16, 7, 26, 12, 18, 6, 11, 5, 10, 9]
def deB64 : List Int := [0, 1, 56, 2, 57, 49, 28, 3, 61, 58, 42, 50, 38, 29, 17, 4, 62, 47, 59, 36, 45, 43, 51, 22, 53, 39, 33, 30, 24, 18, 12, 5, 63, 55, 48, 27, 60, 41, 37, 16, 46, 35, 44, 21, 52, 32, 23, 11, 54, 26, 40, 15, 34, 20, 31, 10, 25, 14, 19, 9, 13, 8, 7, 6]
def accTab : List Int := [128, 191, 160, 191, 128, 159, 144, 191, 128, 143, 0, 0, 0, 0, 0, 0, 0, 0, 0, 0, 0, 0, 0, 0, 0, 0, 0, 0, 0, 0, 0, 0]
/-- A start that fits: the settled world, the five tables as their initialisers lay them. -/
noncomputable def laidWorld (os : Os) : World :=
  let w0 := World.holding Tryz.prog os ⟨#[], #[], []⟩
  let put (h : Array Obj) (g : Nat) (cs : Array Value) : Array Obj := h.modify g fun
    | .cells _ t frozen => .cells cs t frozen
    | o => o
  let h1 := put w0.heap 4 (deB32.map fun z => Value.int .u8 z).toArray
  let h2 := put h1 5 (deB64.map fun z => Value.int .u8 z).toArray
  let h3 := put h2 1 (Lib.pow10Tab.map fun z => Value.int .u64 z).toArray
  let h4 := put h3 2 (Go.Pinned.utf8FirstZ.map fun (z : Nat) => Value.int .u8 (z : Int)).toArray
  let h5 := put h4 3 (accTab.map fun z => Value.int .u8 z).toArray
  { w0 with heap := h5 }
theorem laidWorld_met (os : Os) (args : Array Value) : laidMet Tryz.prog Rows.fnSailAreasRow.laid ((laidWorld os).forCall (fun _ _ => 0) ⟨#[], args, []⟩).memory :=
  laidMet_of_run' 40 (by kernel_rfl) (by kernel_rfl)
theorem tabW {W : World} (h : laidMet Tryz.prog Rows.fnSailAreasRow.laid W) : TabW W :=
  Lib.tabBelow_of_tabIs (Lib.tabIs_of_head (rest := [("unicode/utf8.acceptRanges", Rows.laid_unicode_utf8_acceptRanges), ("unicode/utf8.first", Rows.laid_unicode_utf8_first)]) (g := 1) (t := 111) (by kernel_rfl) (by kernel_rfl) Tryz.underlying111 Tryz.underlying70 (by kernel_rfl) (by kernel_rfl) (show laidMet Tryz.prog (("internal/strconv.uint64pow10", Lib.tabData .u64 Lib.pow10Tab) :: [("unicode/utf8.acceptRanges", Rows.laid_unicode_utf8_acceptRanges), ("unicode/utf8.first", Rows.laid_unicode_utf8_first)]) W from h.tail.tail))
theorem lenW {W : World} (h : W.ShapedOpen Tryz.prog) : LenW W :=
  cell_of_shapedOpen_int (P := Tryz.prog) (g := 0) (t := 3) (zero := #[.int .i64 0]) h (of_decide_eq_true (by kernel_rfl)) (by kernel_rfl) rfl (by kernel_rfl) (by kernel_rfl) Tryz.underlying3
set_option maxRecDepth 100000 in
theorem lifted (os : Os) (started : os.Started) (H : Type) (enc : TypeId × Value → H) :
    ReturnsInHanded {} Tryz.checked os 3 .any (fun w args => (Rows.fnSailAreasSpec.pre enc Tryz.prog Tryz.f3 Rows.fnSailAreasRow.domain false w args ∧ laidMet Tryz.prog Rows.fnSailAreasRow.laid w) ∧ sizedMet enc Tryz.prog Tryz.f3 (OpenSpec.ofChange Rows.fnSailAreasSpec) false w args) (Rows.fnSailAreasSpec.post enc Tryz.prog Tryz.f3 false true false false) := by
  refine returnsInHanded_of_calls (C := Tryz.checked) own started (by kernel_rfl)
    (ChangeSpec.witness_at (enc := enc) (C := Tryz.checked) (os := os) (fn := Tryz.f3) (s := Rows.fnSailAreasSpec) (conds := Rows.fnSailAreasRow.domain) (apart := false) (X := (fun w _ => laidMet Tryz.prog Rows.fnSailAreasRow.laid w)) false (laidWorld os) #[.slice none 0 0] 8 rfl (by kernel_rfl) (by kernel_rfl) (by kernel_rfl) (by kernel_rfl) (by kernel_rfl) (laidWorld_met os _)) ?_
  intro w0_ tape_ i_ _ hsh _ hok hpre _
  obtain ⟨_, _, _, fn_, hfn_, _, _, _, _, hval0⟩ := hok
  obtain rfl : fn_ = Tryz.f3 := Option.some.inj (hfn_.symm.trans Tryz.func3)
  obtain ⟨⟨⟨ds, gs, before, hw_, hcnd⟩, hx_⟩, hz_⟩ := hpre
  have hW := DataW.Whole.of_heap (w' := w0_.forCall tape_ i_) (by rfl) hw_
  have hL : laidMet Tryz.prog Rows.fnSailAreasRow.laid (w0_.forCall tape_ i_) := hx_.of_heap (by rfl)
  have hM := lenW hsh
  have hT := tabW hL
  clear hw_ hx_ hz_ hL hsh hfn_
  suffices hc_ : Calls Tryz.prog 3 i_.args (w0_.forCall tape_ i_) fun e W' => ∃ v, e = .returned v ∧ Rows.fnSailAreasSpec.post enc Tryz.prog Tryz.f3 false true false false (w0_.forCall tape_ i_) i_.args v W' by
    refine hc_.mono fun e W' ⟨v, he, hp⟩ => ?_
    subst he
    exact ChangeSpec.post_blind hp
  generalize w0_.forCall tape_ i_ = W at *
  generalize i_.args = args at *
  have hval : ∀ (j : Nat) t v, Tryz.f3.params[j]? = some t → args[j]? = some v → Value.okWide Tryz.prog W .any _ t v := hval0
  have hW' := hW
  obtain ⟨p, q, hA0, hV, rfl, hfz, hnd⟩ := hW
  have hA : DataW.TrodAll enc Tryz.prog W 0 (fun _ => true) true Tryz.f3.params.toList args.toList ds p := hA0
  rw [Tryz.params3] at hA hval
  obtain ⟨v0, vs0, d0, ds0, p0, q0, hargs, rfl, rfl, h0, r0⟩ := trodAll_cons hA
  obtain ⟨rfl, rfl, rfl⟩ := trodAll_nil r0
  obtain rfl : args = #[v0] := by cases args; simp_all
  obtain ⟨rfl, rfl⟩ := trodVars_none hV
  have k0_ := h0
  have lt0 : ∀ x ∈ p0, x.block < W.heap.size := by obtain ⟨m, hm⟩ := k0_; exact DataW.trod_lt m _ _ _ hm
  clear hA0 hval0
  obtain ⟨l0, A0, c0, rfl, hc0, hr0, w0⟩ := arg_slice Tryz.underlying22 (Opens.slice (e := 5) Tryz.underlying22 (by kernel_rfl) (Opens.int Tryz.underlying5 (by kernel_rfl))) (hval 0 22 v0 rfl rfl) h0
  obtain ⟨k, hcall⟩ := Pure.FnSailAreas l0 w0
  refine (laws_FnSailAreas.calls k A0 c0 l0 true W hT hM hr0 hc0 hcall rfl).mono fun e W' ⟨he, bel0⟩ => ?_
  have bel : Below W.heap.size W W' := bel0
  subst he
  exact ⟨_, rfl, _, _, _, [], _, [], hW', trodAll_mk1 (shut_bool Tryz.underlying4 _), (trodAll_cons_mk (Below.trod laidOut (by kernel_rfl) (of_decide_eq_true (by kernel_rfl)) k0_ bel lt0) trodAll_mk0), rfl, bel.frame _, fun h => by cases h⟩
theorem over : Rows.fnSailAreasRow.holds Tryz.pinned (OpenSpec.ofChange Rows.fnSailAreasSpec) :=
  OpenClaim.holds_of_wide 3 Tryz.f3 rfl rfl rfl rfl rfl rfl rfl ⟨rfl, rfl, rfl, rfl, rfl⟩ rfl rfl rfl rfl rfl (by kernel_rfl) Tryz.func3 (by kernel_rfl)
    (of_decide_eq_true (by kernel_rfl)) (by unfold Func.isWrapper; first | (rw [if_pos (by decide +kernel)]; kernel_rfl) | (rw [if_neg (by decide +kernel)]; exact ⟨rfl, rfl⟩))
    (fun os started H enc _ => lifted os started H enc)
end Go.Proofs.YtchngbjpjbahiaaGreatDoor.fnSailAreas
namespace Go.Proofs.YtchngbjpjbahiaaGreatDoor
/-- The tied card. -/
theorem fnSailAreas_holds : Rows.FnSailAreasCardSaid :=
  Claim7.holds_tied_plain_at .later [] [.data, .data, .data, .data, .pinned] true (true, "c417135a87b6a4d757e1f75a603ea44f0a9c85b9120e53dc77e0e58d57d7754c") false
    fnSailAreas.over (fun _ h => by cases h) (by kernel_rfl) (fun _ h => by cases h) fnSailAreas_row_tie rfl ⟨rfl, rfl⟩ (by kernel_rfl) rfl
    (fun f fn hf hfn => by
      obtain rfl : f = 3 := Option.some.inj ((show Tryz.prog.funcNamed "loop.example/g01044/laws.FnSailAreas" = some 3 by kernel_rfl).symm.trans hf) |>.symm
      obtain rfl : fn = Tryz.f3 := (Option.some.inj (Tryz.func3.symm.trans hfn)).symm
      exact ⟨by kernel_rfl, fun j t ht => by
        rw [Tryz.params3] at ht
        have h3 : t = 22 := by
          rcases j with _ | j
          · simpa using ht.symm
          · simp at ht
        subst h3
        exact (show Tryz.prog.wantsStandIn 22 = false by kernel_rfl)⟩)
    (by kernel_rfl)
#print axioms fnSailAreas_holds
end Go.Proofs.YtchngbjpjbahiaaGreatDoor
