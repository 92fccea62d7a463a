/- The walks of the functions that the law reaches: each computes what its Lean function says. No condition beyond each contract's own. -/
import Derived.Test.YtchngbjpjbahiaaDoorHFnExactReadSailx0
import Derived.Test.YtchngbjpjbahiaaDoorHFnExactReadSailx4
import Derived.Test.YtchngbjpjbahiaaDoorHFnExactReadSailx5
namespace Go.Proofs.YtchngbjpjbahiaaDoor.PFnExactReadSail
open Go.RowKit Go.Proofs.YtchngbjpjbahiaaDoorW.PrintWords Go.Proofs.YtchngbjpjbahiaaDoorW.PrintLast Go.Proofs.YtchngbjpjbahiaaDoorW.PrintMore
attribute [local go_sem] max2_int min2_int max_two min_two max_three min_three max_four min_four   -- for this text's walks alone
set_option linter.unusedVariables false
set_option linter.unusedSimpArgs false

/-! ### spec_ReadSail: function 10 -/
def spec_ReadSail.l0 : Nat → List ByteArray → List (S35) → Int → Option ((List (S35)) × Bool)
 | 0, _, _, _ => none
 | k + 1, x4, x5, x6 => if x6 < (x4.length : Int) then (if 0 ≤ x6 then ((spec_l01Split.f k (rdOf ByteArray.empty x4 x6) 44).bind fun t192 => (if (t192.length : Int) = 2 then (if 0 < (t192.length : Int) then ((spec_l01Number.f k (rdOf ByteArray.empty t192 0)).bind fun bt196 => (if 1 < (t192.length : Int) then ((spec_l01Number.f k (rdOf ByteArray.empty t192 1)).bind fun bt199 => (if bt196.2 = true then (if bt199.2 = true then (if x5.length < 8796093022208 then (spec_ReadSail.l0 k x4 (x5 ++ [(⟨bt196.1, bt199.1⟩ : S35)]) (wrap64 (x6 + 1))) else (none)) else (some (([] : List (S35)), false))) else (some (([] : List (S35)), false)))) else (none))) else (none)) else (some (([] : List (S35)), false)))) else (none)) else ((spec_l13Ok.f k x5).bind fun t190 => (if t190 = true then (some (x5, true)) else (some (([] : List (S35)), false))))
def spec_ReadSail.f (k : Nat) (a0 : ByteArray) : Option ((List (S35)) × Bool) := (spec_l01Split.f k a0 32).bind fun t184 => (spec_ReadSail.l0 k t184 (([] : List (S35))) 0)
theorem spec_ReadSail.mono_l : ∀ k, (∀ y0 y1 y2, LeO (spec_ReadSail.l0 k y0 y1 y2) (spec_ReadSail.l0 (k + 1) y0 y1 y2))
 | 0 => fun _ _ _ r h => by simp [spec_ReadSail.l0] at h
 | k + 1 => by
  have ih0 := spec_ReadSail.mono_l k
  ·intro y0 y1 y2
   unfold spec_ReadSail.l0
   (with_reducible repeat' first | apply ih0 | apply spec_l01Number.mono | apply spec_l01Split.mono | apply spec_l13Ok.mono | apply LeO.refl | apply LeO.none | refine LeO.ite ?_ ?_ | refine LeO.bind ?_ (fun _ => ?_))
   repeat' first | apply ih0 | apply spec_l01Number.mono | apply spec_l01Split.mono | apply spec_l13Ok.mono | apply LeO.none | refine LeO.ite ?_ ?_ | refine LeO.bind ?_ (fun _ => ?_)
theorem spec_ReadSail.mono : ∀ a0 k, LeO (spec_ReadSail.f k a0) (spec_ReadSail.f (k + 1) a0) := by
 intro a0 k
 have ih0 := spec_ReadSail.mono_l k
 unfold spec_ReadSail.f
 (with_reducible repeat' first | apply ih0 | apply spec_l01Number.mono | apply spec_l01Split.mono | apply spec_l13Ok.mono | apply LeO.refl | apply LeO.none | refine LeO.ite ?_ ?_ | refine LeO.bind ?_ (fun _ => ?_))
 repeat' first | apply ih0 | apply spec_l01Number.mono | apply spec_l01Split.mono | apply spec_l13Ok.mono | apply LeO.none | refine LeO.ite ?_ ?_ | refine LeO.bind ?_ (fun _ => ?_)
set_option maxHeartbeats 8000000 in
set_option maxRecDepth 100000 in
theorem spec_ReadSail.calls (k : Nat) (a0 : ByteArray) (r1 : List (S35)) (r2 : Bool) (w : World) (h : spec_ReadSail.f k a0 = some (r1, r2)) :
  Calls Tryd.prog 10 #[.string a0] w fun e w' => ∃ v0_ : Value, e = .returned (.tuple #[v0_, .bool r2]) ∧ Kd.R k35 35 w' w.heap.size (fun _ => True) v0_ r1 ∧ Below w.heap.size w w' := by
 have hu35 := Tryd.underlying35
 have HB := zQ (Below.refl w.heap.size w)
 have H : ((spec_l01Split.f k a0 32).bind fun t184 => (spec_ReadSail.l0 k t184 (([] : List (S35))) 0)) = some (r1, r2) := h
 clear h
 replace H := Option.bind_eq_some_iff.mp H
 obtain ⟨t184, A20, H⟩ := H
 replace H : (spec_ReadSail.l0 k t184 (([] : List (S35))) 0) = some (r1, r2) := H
 have A2 := zQ A20
 clear A20
 obtain ⟨y187, hy187⟩ : ∃ y_ : List (S35), y_ = (([] : List (S35))) := ⟨_, rfl⟩
 replace H : (spec_ReadSail.l0 k t184 y187 0) = some (r1, r2) := zh H
 have Ny187 := zQ hy187
 clear hy187
 have H' := zQ H
 clear H
 go_enter Tryd.func10, Tryd.ntmps10
 go_wp2_with (first | ((with_reducible refine zgc 21 ?_); refine goesL_ (some 13) rfl rfl Tryd.func21 (by kernel_rfl) rfl #[.string a0, .int .u8 32] rfl zM ?_; (with_reducible refine (spec_l01Split.calls k a0 32 t184 _ A2.out).mono ?_); rintro e w3 ⟨v185, rfl, ho0, hb⟩; refine ⟨_, rfl, ?_⟩; have HO186 := zQ (Kd.R_lower ho0 (below_size (zB HB.out))); replace HB := zbs HB.out hb; (try clear hb); (try clear ho0)) | ((with_reducible refine zd 14 ?_); refine Kd.R_lit k35 _ 35 ?hg (N := 14) ?hd (xs := ([] : List (S35))) (inner := []) (ok := fun _ => True) (okp := fun _ => True) ?hr ?hp (fun _ hk => hk) trivial (Below.refl _ _) (Nat.le_refl _) (by simp) ?_; (case hd => rfl); (case hg => rfl); (case hr => first | (go_simp; done) | (go_simp; rfl)); (case hp => exact (Reps.none _ _)); intro v188 w4 ho5 hb hg_ hnew_; clear hg_ hnew_; (first | rw [← Ny187.out] at ho5 | (simp only [Int.reduceToNat] at ho5; rw [← Ny187.out] at ho5)); have HO189 := zQ (Kd.R_lower ho5 (below_size (zB HB.out))); replace HO186 := zQ (Kd.R_below (zR HO186.out) hb); replace HB := zbs HB.out hb; clear hb ho5))
 go_loopg [5, 6] k (fun kq v5 v6 w' => ∃ (x5_1 : List (S35)) (x6_1 : Int), v6 = .int .i64 x6_1 ∧ Aside0 (spec_ReadSail.l0 kq t184 x5_1 x6_1 = some (r1, r2)) ∧ Aside0 (kq ≤ k) ∧ Aside0 (Kd.R Kd.string 9 w' w.heap.size (fun _ => True) v185 t184) ∧ Aside0 (Kd.R k35 35 w' w.heap.size (fun _ => True) v5 x5_1) ∧ Aside0 (Below w.heap.size w w'))
 case atStart => exact ⟨(y187), (0), (zF), H', ⟨Nat.le_refl _⟩, ⟨zR HO186.out⟩, ⟨zR HO189.out⟩, ⟨zB HB.out⟩⟩
 case round =>
  clear H'; (try clear c1); (try clear c2); (try clear p2); obtain ⟨x5_1, x6_1, rfl, HA, HK1, HO_4, HO_5, HB⟩ := hrel
  cases gk with
  | zero => exact absurd HA.out (by simp [spec_ReadSail.l0])
  | succ k1 =>
   have H := HA.out; clear HA
   simp only [spec_ReadSail.l0] at H
   by_cases c6 : x6_1 < (t184.length : Int)
   ·rw [if_pos c6] at H
    have c6b0 : decide (x6_1 < (t184.length : Int)) = true := decide_eq_true c6; clear c6
    by_cases c7 : 0 ≤ x6_1
    ·rw [if_pos c7] at H
     have c7b0 : decide (0 ≤ x6_1) = true := decide_eq_true c7; clear c7; replace H := Option.bind_eq_some_iff.mp H; obtain ⟨t192, A80, H⟩ := H; replace H : (if (t192.length : Int) = 2 then (if 0 < (t192.length : Int) then ((spec_l01Number.f k1 (rdOf ByteArray.empty t192 0)).bind fun bt196 => (if 1 < (t192.length : Int) then ((spec_l01Number.f k1 (rdOf ByteArray.empty t192 1)).bind fun bt199 => (if bt196.2 = true then (if bt199.2 = true then (if x5_1.length < 8796093022208 then (spec_ReadSail.l0 k1 t184 (x5_1 ++ [(⟨bt196.1, bt199.1⟩ : S35)]) (wrap64 (x6_1 + 1))) else (none)) else (some (([] : List (S35)), false))) else (some (([] : List (S35)), false)))) else (none))) else (none)) else (some (([] : List (S35)), false))) = some (r1, r2) := H; have A8 := zQ A80; clear A80
     by_cases c9 : (t192.length : Int) = 2
     ·rw [if_pos c9] at H
      have c9b0 : ((t192.length : Int) == 2) = true := beq_iff_eq.mpr c9; have c9b1 : ((t192.length : Int) != 2) = false := bne_eq_false_iff_eq.mpr c9; clear c9
      by_cases c10 : 0 < (t192.length : Int)
      ·rw [if_pos c10] at H
       have c10b0 : decide (0 < (t192.length : Int)) = true := decide_eq_true c10; have c10b1 : decide (0 < t192.length) = true := decide_eq_true (by omega); clear c10; replace H := Option.bind_eq_some_iff.mp H; obtain ⟨⟨t196, t197⟩, A110, H⟩ := H; replace H : (if 1 < (t192.length : Int) then ((spec_l01Number.f k1 (rdOf ByteArray.empty t192 1)).bind fun bt199 => (if t197 = true then (if bt199.2 = true then (if x5_1.length < 8796093022208 then (spec_ReadSail.l0 k1 t184 (x5_1 ++ [(⟨t196, bt199.1⟩ : S35)]) (wrap64 (x6_1 + 1))) else (none)) else (some (([] : List (S35)), false))) else (some (([] : List (S35)), false)))) else (none)) = some (r1, r2) := H; have A11 := zQ A110; clear A110
       by_cases c12 : 1 < (t192.length : Int)
       ·rw [if_pos c12] at H
        have c12b0 : decide (1 < (t192.length : Int)) = true := decide_eq_true c12; have c12b1 : decide (1 < t192.length) = true := decide_eq_true (by omega); clear c12; replace H := Option.bind_eq_some_iff.mp H; obtain ⟨⟨t199, t200⟩, A130, H⟩ := H; replace H : (if t197 = true then (if t200 = true then (if x5_1.length < 8796093022208 then (spec_ReadSail.l0 k1 t184 (x5_1 ++ [(⟨t196, t199⟩ : S35)]) (wrap64 (x6_1 + 1))) else (none)) else (some (([] : List (S35)), false))) else (some (([] : List (S35)), false))) = some (r1, r2) := H; have A13 := zQ A130; clear A130
        by_cases c14 : t197 = true
        ·subst c14
         have H1 : (if t200 = true then (if x5_1.length < 8796093022208 then (spec_ReadSail.l0 k1 t184 (x5_1 ++ [(⟨t196, t199⟩ : S35)]) (wrap64 (x6_1 + 1))) else (none)) else (some (([] : List (S35)), false))) = some (r1, r2) := by rw [if_pos rfl] at H; exact H
         clear H; have H := H1; clear H1
         by_cases c15 : t200 = true
         ·subst c15
          have H1 : (if x5_1.length < 8796093022208 then (spec_ReadSail.l0 k1 t184 (x5_1 ++ [(⟨t196, t199⟩ : S35)]) (wrap64 (x6_1 + 1))) else (none)) = some (r1, r2) := by rw [if_pos rfl] at H; exact H
          clear H; have H := H1; clear H1
          by_cases c16 : x5_1.length < 8796093022208
          ·rw [if_pos c16] at H
           have LMc16 := zQ c16; clear c16; obtain ⟨y201, hy201⟩ : ∃ y_ : List (S35), y_ = (x5_1 ++ [(⟨t196, t199⟩ : S35)]) := ⟨_, rfl⟩; replace H : (spec_ReadSail.l0 k1 t184 y201 (wrap64 (x6_1 + 1))) = some (r1, r2) := zh H; have Ny201 := zQ hy201; clear hy201; have H' := zQ H; clear H; obtain ⟨Ao17, co17, eo17⟩ := Kd.R_slice HO_4.out; subst eo17; have p191 : 0 ≤ (x6_1 : Int) := of_decide_eq_true zA; have q191 : x6_1 < (t184.length : Int) := of_decide_eq_true zA; obtain ⟨ad191, e191, hx191_0⟩ := Kd.at_string (Kd.R_reads' HO_4.out).2.2 x6_1 p191 q191
           cases e191
           replace p191 := eq_true p191; replace q191 := eq_true q191
           go_wp2_with (first | ((with_reducible refine zgc 21 ?_); refine goesL_ (some 25) rfl rfl Tryd.func21 (by kernel_rfl) rfl #[.string (rdOf ByteArray.empty t184 x6_1), .int .u8 44] rfl zM ?_; (with_reducible refine (spec_l01Split.calls k1 (rdOf ByteArray.empty t184 x6_1) 44 t192 _ A8.out).mono ?_); rintro e w18 ⟨v193, rfl, ho0, hb⟩; refine ⟨_, rfl, ?_⟩; have HO194 := zQ (Kd.R_lower (Kd.R_new' ho0 (Kd.R_lt (zR HO_4.out))) (below_size (zB HB.out))); replace HO_4 := zQ (Kd.R_elder' (zR HO_4.out) (Kd.R_base ho0) hb); replace HO_5 := zQ (Kd.R_below (zR HO_5.out) hb); replace HB := zbs HB.out hb; (try clear hb); (try clear ho0); obtain ⟨Ao19, co19, eo19⟩ := Kd.R_slice HO194.out; subst eo19; have p195 : 0 ≤ (0 : Int) := (by omega); have q195 : 0 < (t192.length : Int) := of_decide_eq_true zA; obtain ⟨ad195, e195, hx195_0⟩ := Kd.at_string (Kd.R_reads' HO194.out).2.2 0 p195 q195; cases e195; have qi195 : (0 < t192.length) = True := eq_true (by omega); (try rw [show ((0 : Int)).toNat = 0 from rfl] at hx195_0); (try rw [Addr.add_zero'] at hx195_0); replace p195 := eq_true p195; replace q195 := eq_true q195) | ((with_reducible refine zgc 22 ?_); refine goesL_ (some 33) rfl rfl Tryd.func22 (by kernel_rfl) rfl #[.string (rdOf ByteArray.empty t192 0)] rfl zM ?_; (with_reducible refine (spec_l01Number.calls k1 (rdOf ByteArray.empty t192 0) t196 true _ A11.out).mono ?_); rintro e w20 ⟨rfl, hb⟩; refine ⟨_, rfl, ?_⟩; replace HO_4 := zQ (Kd.R_below (zR HO_4.out) hb); replace HO_5 := zQ (Kd.R_below (zR HO_5.out) hb); replace HO194 := zQ (Kd.R_below (zR HO194.out) hb); replace HB := zbs HB.out hb; (try clear hb); have p198 : 0 ≤ (1 : Int) := (by omega); have q198 : 1 < (t192.length : Int) := of_decide_eq_true zA; obtain ⟨ad198, e198, hx198_0⟩ := Kd.at_string (Kd.R_reads' HO194.out).2.2 1 p198 q198; obtain rfl : ad195 = ad198 := (by injection e198); (try simp only [show (1 : Int).toNat = 1 from rfl, Nat.reduceMul, Nat.reduceEqDiff, Go.Addr.add, ↓reduceIte] at hx198_0); have qi198 : (1 < t192.length) = True := eq_true (by omega); (try rw [show ((1 : Int)).toNat = 1 from rfl] at hx198_0); replace p198 := eq_true p198; replace q198 := eq_true q198) | ((with_reducible refine zgc 22 ?_); refine goesL_ (some 40) rfl rfl Tryd.func22 (by kernel_rfl) rfl #[.string (rdOf ByteArray.empty t192 1)] rfl zM ?_; (with_reducible refine (spec_l01Number.calls k1 (rdOf ByteArray.empty t192 1) t199 true _ A13.out).mono ?_); rintro e w21 ⟨rfl, hb⟩; refine ⟨_, rfl, ?_⟩; replace HO_4 := zQ (Kd.R_below (zR HO_4.out) hb); replace HO_5 := zQ (Kd.R_below (zR HO_5.out) hb); replace HO194 := zQ (Kd.R_below (zR HO194.out) hb); replace HB := zbs HB.out hb; (try clear hb)) | ((with_reducible refine gate_builtin (b := .append) (xs := #[.tmp 49, .tmp 53]) rfl ?_); at_builtin; refine Kd.R_append k35 (w0 := w) w.heap.size rfl (.tmp 49) (.tmp 53) 25 35 (.agg #[(.int .i64 0), (.int .i64 0)]) 16 rfl Tryd.underlying25 info35 rfl (by decide) (by omega) u5 x5_1 (⟨t196, t199⟩ : S35) [.int .i64 t196, .int .i64 t199] (fun _ => True) (fun _ => False) rfl rfl ?aP (fun _ hk => hk.elim) ?aF ?aO ?aB ?aS ?aL ?_; (case aP => exact k35_mkM _ _ _ (⟨t196, t199⟩ : S35)); (case aB => exact (zB HB.out)); (case aF => exact (fun _ _ => trivial)); (case aO => exact (zR HO_5.out)); (case aS => exact (below_size (zB HB.out))); (case aL => have := LMc16.out; omega); intro v202 w22 ho hb hg hat; rw [← Ny201.out] at ho; have HO203 := zQ (ho); replace HO_4 := zQ (Kd.R_over' (zR HO_4.out) (Kd.R_typed (zR HO_5.out)) (by decide) hg); replace HO194 := zQ (Kd.R_over' (zR HO194.out) (Kd.R_typed (zR HO_5.out)) (by decide) hg); replace HB := zQ (hb); clear HO_5 ho hb hg hat))
           go_roundg k1
           case measure => have := HK1.out; omega
           case rel => exact ⟨(y201), (wrap64 (x6_1 + 1)), (zF), H', ⟨by have := HK1.out; omega⟩, ⟨by (with_reducible repeat (first | apply Kd.R_alloc | apply Kd.R_drewN | apply Kd.R_drew)); exact Kd.R_mono HO_4.out (fun _ hk => trivial)⟩, ⟨zR HO203.out⟩, ⟨zB HB.out⟩⟩
          ·rw [if_neg c16] at H
           exact absurd H (by simp)
         ·replace c15 := Bool.eq_false_iff.mpr c15
          subst c15
          have H1 : (some (([] : List (S35)), false)) = some (r1, r2) := by rw [if_neg (show ¬ (false = true) by decide)] at H; exact H
          clear H; have H := H1; clear H1
          simp only [Option.some.injEq, Prod.mk.injEq] at H
          obtain ⟨rfl, rfl⟩ := H; obtain ⟨Ao23, co23, eo23⟩ := Kd.R_slice HO_4.out; subst eo23; have p191 : 0 ≤ (x6_1 : Int) := of_decide_eq_true zA; have q191 : x6_1 < (t184.length : Int) := of_decide_eq_true zA; obtain ⟨ad191, e191, hx191_0⟩ := Kd.at_string (Kd.R_reads' HO_4.out).2.2 x6_1 p191 q191
          cases e191
          replace p191 := eq_true p191; replace q191 := eq_true q191
          go_wp2_with (first | ((with_reducible refine zgc 21 ?_); refine goesL_ (some 25) rfl rfl Tryd.func21 (by kernel_rfl) rfl #[.string (rdOf ByteArray.empty t184 x6_1), .int .u8 44] rfl zM ?_; (with_reducible refine (spec_l01Split.calls k1 (rdOf ByteArray.empty t184 x6_1) 44 t192 _ A8.out).mono ?_); rintro e w24 ⟨v193, rfl, ho0, hb⟩; refine ⟨_, rfl, ?_⟩; have HO194 := zQ (Kd.R_lower (Kd.R_new' ho0 (Kd.R_lt (zR HO_4.out))) (below_size (zB HB.out))); replace HO_4 := zQ (Kd.R_elder' (zR HO_4.out) (Kd.R_base ho0) hb); replace HO_5 := zQ (Kd.R_below (zR HO_5.out) hb); replace HB := zbs HB.out hb; (try clear hb); (try clear ho0); obtain ⟨Ao25, co25, eo25⟩ := Kd.R_slice HO194.out; subst eo25; have p195 : 0 ≤ (0 : Int) := (by omega); have q195 : 0 < (t192.length : Int) := of_decide_eq_true zA; obtain ⟨ad195, e195, hx195_0⟩ := Kd.at_string (Kd.R_reads' HO194.out).2.2 0 p195 q195; cases e195; have qi195 : (0 < t192.length) = True := eq_true (by omega); (try rw [show ((0 : Int)).toNat = 0 from rfl] at hx195_0); (try rw [Addr.add_zero'] at hx195_0); replace p195 := eq_true p195; replace q195 := eq_true q195) | ((with_reducible refine zgc 22 ?_); refine goesL_ (some 33) rfl rfl Tryd.func22 (by kernel_rfl) rfl #[.string (rdOf ByteArray.empty t192 0)] rfl zM ?_; (with_reducible refine (spec_l01Number.calls k1 (rdOf ByteArray.empty t192 0) t196 true _ A11.out).mono ?_); rintro e w26 ⟨rfl, hb⟩; refine ⟨_, rfl, ?_⟩; replace HO_4 := zQ (Kd.R_below (zR HO_4.out) hb); replace HO_5 := zQ (Kd.R_below (zR HO_5.out) hb); replace HO194 := zQ (Kd.R_below (zR HO194.out) hb); replace HB := zbs HB.out hb; (try clear hb); have p198 : 0 ≤ (1 : Int) := (by omega); have q198 : 1 < (t192.length : Int) := of_decide_eq_true zA; obtain ⟨ad198, e198, hx198_0⟩ := Kd.at_string (Kd.R_reads' HO194.out).2.2 1 p198 q198; obtain rfl : ad195 = ad198 := (by injection e198); (try simp only [show (1 : Int).toNat = 1 from rfl, Nat.reduceMul, Nat.reduceEqDiff, Go.Addr.add, ↓reduceIte] at hx198_0); have qi198 : (1 < t192.length) = True := eq_true (by omega); (try rw [show ((1 : Int)).toNat = 1 from rfl] at hx198_0); replace p198 := eq_true p198; replace q198 := eq_true q198) | ((with_reducible refine zgc 22 ?_); refine goesL_ (some 40) rfl rfl Tryd.func22 (by kernel_rfl) rfl #[.string (rdOf ByteArray.empty t192 1)] rfl zM ?_; (with_reducible refine (spec_l01Number.calls k1 (rdOf ByteArray.empty t192 1) t199 false _ A13.out).mono ?_); rintro e w27 ⟨rfl, hb⟩; refine ⟨_, rfl, ?_⟩; replace HO_4 := zQ (Kd.R_below (zR HO_4.out) hb); replace HO_5 := zQ (Kd.R_below (zR HO_5.out) hb); replace HO194 := zQ (Kd.R_below (zR HO194.out) hb); replace HB := zbs HB.out hb; (try clear hb)))
          go_ret2
          exact ⟨_, zE, by first | exact Kd.R_nil _ _ _ _ _ | exact Kd.N_nil _ _ _ _ _ | exact Kd.V_nil _ _ _ _ _ | exact Kd.Q_nil _ _ _ _ _ | exact Kd.S_nil _ _ _ _ _, zB HB.out⟩
        ·replace c14 := Bool.eq_false_iff.mpr c14
         subst c14
         have H1 : (some (([] : List (S35)), false)) = some (r1, r2) := by rw [if_neg (show ¬ (false = true) by decide)] at H; exact H
         clear H; have H := H1; clear H1
         simp only [Option.some.injEq, Prod.mk.injEq] at H
         obtain ⟨rfl, rfl⟩ := H; obtain ⟨Ao28, co28, eo28⟩ := Kd.R_slice HO_4.out; subst eo28; have p191 : 0 ≤ (x6_1 : Int) := of_decide_eq_true zA; have q191 : x6_1 < (t184.length : Int) := of_decide_eq_true zA; obtain ⟨ad191, e191, hx191_0⟩ := Kd.at_string (Kd.R_reads' HO_4.out).2.2 x6_1 p191 q191
         cases e191
         replace p191 := eq_true p191; replace q191 := eq_true q191
         go_wp2_with (first | ((with_reducible refine zgc 21 ?_); refine goesL_ (some 25) rfl rfl Tryd.func21 (by kernel_rfl) rfl #[.string (rdOf ByteArray.empty t184 x6_1), .int .u8 44] rfl zM ?_; (with_reducible refine (spec_l01Split.calls k1 (rdOf ByteArray.empty t184 x6_1) 44 t192 _ A8.out).mono ?_); rintro e w29 ⟨v193, rfl, ho0, hb⟩; refine ⟨_, rfl, ?_⟩; have HO194 := zQ (Kd.R_lower (Kd.R_new' ho0 (Kd.R_lt (zR HO_4.out))) (below_size (zB HB.out))); replace HO_4 := zQ (Kd.R_elder' (zR HO_4.out) (Kd.R_base ho0) hb); replace HO_5 := zQ (Kd.R_below (zR HO_5.out) hb); replace HB := zbs HB.out hb; (try clear hb); (try clear ho0); obtain ⟨Ao30, co30, eo30⟩ := Kd.R_slice HO194.out; subst eo30; have p195 : 0 ≤ (0 : Int) := (by omega); have q195 : 0 < (t192.length : Int) := of_decide_eq_true zA; obtain ⟨ad195, e195, hx195_0⟩ := Kd.at_string (Kd.R_reads' HO194.out).2.2 0 p195 q195; cases e195; have qi195 : (0 < t192.length) = True := eq_true (by omega); (try rw [show ((0 : Int)).toNat = 0 from rfl] at hx195_0); (try rw [Addr.add_zero'] at hx195_0); replace p195 := eq_true p195; replace q195 := eq_true q195) | ((with_reducible refine zgc 22 ?_); refine goesL_ (some 33) rfl rfl Tryd.func22 (by kernel_rfl) rfl #[.string (rdOf ByteArray.empty t192 0)] rfl zM ?_; (with_reducible refine (spec_l01Number.calls k1 (rdOf ByteArray.empty t192 0) t196 false _ A11.out).mono ?_); rintro e w31 ⟨rfl, hb⟩; refine ⟨_, rfl, ?_⟩; replace HO_4 := zQ (Kd.R_below (zR HO_4.out) hb); replace HO_5 := zQ (Kd.R_below (zR HO_5.out) hb); replace HO194 := zQ (Kd.R_below (zR HO194.out) hb); replace HB := zbs HB.out hb; (try clear hb); have p198 : 0 ≤ (1 : Int) := (by omega); have q198 : 1 < (t192.length : Int) := of_decide_eq_true zA; obtain ⟨ad198, e198, hx198_0⟩ := Kd.at_string (Kd.R_reads' HO194.out).2.2 1 p198 q198; obtain rfl : ad195 = ad198 := (by injection e198); (try simp only [show (1 : Int).toNat = 1 from rfl, Nat.reduceMul, Nat.reduceEqDiff, Go.Addr.add, ↓reduceIte] at hx198_0); have qi198 : (1 < t192.length) = True := eq_true (by omega); (try rw [show ((1 : Int)).toNat = 1 from rfl] at hx198_0); replace p198 := eq_true p198; replace q198 := eq_true q198) | ((with_reducible refine zgc 22 ?_); refine goesL_ (some 40) rfl rfl Tryd.func22 (by kernel_rfl) rfl #[.string (rdOf ByteArray.empty t192 1)] rfl zM ?_; (with_reducible refine (spec_l01Number.calls k1 (rdOf ByteArray.empty t192 1) t199 t200 _ A13.out).mono ?_); rintro e w32 ⟨rfl, hb⟩; refine ⟨_, rfl, ?_⟩; replace HO_4 := zQ (Kd.R_below (zR HO_4.out) hb); replace HO_5 := zQ (Kd.R_below (zR HO_5.out) hb); replace HO194 := zQ (Kd.R_below (zR HO194.out) hb); replace HB := zbs HB.out hb; (try clear hb)))
         go_ret2
         exact ⟨_, zE, by first | exact Kd.R_nil _ _ _ _ _ | exact Kd.N_nil _ _ _ _ _ | exact Kd.V_nil _ _ _ _ _ | exact Kd.Q_nil _ _ _ _ _ | exact Kd.S_nil _ _ _ _ _, zB HB.out⟩
       ·rw [if_neg c12] at H
        exact absurd H (by simp)
      ·rw [if_neg c10] at H
       exact absurd H (by simp)
     ·rw [if_neg c9] at H
      have c9b0 : ((t192.length : Int) == 2) = false := beq_eq_false_iff_ne.mpr c9; have c9b1 : ((t192.length : Int) != 2) = true := bne_iff_ne.mpr c9
      simp only [Option.some.injEq, Prod.mk.injEq] at H
      obtain ⟨rfl, rfl⟩ := H; obtain ⟨Ao33, co33, eo33⟩ := Kd.R_slice HO_4.out; subst eo33; have p191 : 0 ≤ (x6_1 : Int) := of_decide_eq_true zA; have q191 : x6_1 < (t184.length : Int) := of_decide_eq_true zA; obtain ⟨ad191, e191, hx191_0⟩ := Kd.at_string (Kd.R_reads' HO_4.out).2.2 x6_1 p191 q191
      cases e191
      replace p191 := eq_true p191; replace q191 := eq_true q191
      go_wp2_with (first | ((with_reducible refine zgc 21 ?_); refine goesL_ (some 25) rfl rfl Tryd.func21 (by kernel_rfl) rfl #[.string (rdOf ByteArray.empty t184 x6_1), .int .u8 44] rfl zM ?_; (with_reducible refine (spec_l01Split.calls k1 (rdOf ByteArray.empty t184 x6_1) 44 t192 _ A8.out).mono ?_); rintro e w34 ⟨v193, rfl, ho0, hb⟩; refine ⟨_, rfl, ?_⟩; have HO194 := zQ (Kd.R_lower (Kd.R_new' ho0 (Kd.R_lt (zR HO_4.out))) (below_size (zB HB.out))); replace HO_4 := zQ (Kd.R_elder' (zR HO_4.out) (Kd.R_base ho0) hb); replace HO_5 := zQ (Kd.R_below (zR HO_5.out) hb); replace HB := zbs HB.out hb; (try clear hb); (try clear ho0); obtain ⟨Ao35, co35, eo35⟩ := Kd.R_slice HO194.out; subst eo35))
      go_ret2
      exact ⟨_, zE, by first | exact Kd.R_nil _ _ _ _ _ | exact Kd.N_nil _ _ _ _ _ | exact Kd.V_nil _ _ _ _ _ | exact Kd.Q_nil _ _ _ _ _ | exact Kd.S_nil _ _ _ _ _, zB HB.out⟩
    ·rw [if_neg c7] at H
     exact absurd H (by simp)
   ·rw [if_neg c6] at H
    have c6b0 : decide (x6_1 < (t184.length : Int)) = false := decide_eq_false c6; clear c6; replace H := Option.bind_eq_some_iff.mp H; obtain ⟨t190, A360, H⟩ := H; replace H : (if t190 = true then (some (x5_1, true)) else (some (([] : List (S35)), false))) = some (r1, r2) := H; have A36 := zQ A360; clear A360
    by_cases c37 : t190 = true
    ·subst c37
     have H1 : (some (x5_1, true)) = some (r1, r2) := by rw [if_pos rfl] at H; exact H
     clear H; have H := H1; clear H1
     simp only [Option.some.injEq, Prod.mk.injEq] at H
     obtain ⟨rfl, rfl⟩ := H; obtain ⟨Ao38, co38, eo38⟩ := Kd.R_slice HO_4.out; subst eo38; obtain ⟨Ao39, co39, eo39⟩ := Kd.R_slice HO_5.out; subst eo39
     go_wp2_with (first | ((with_reducible refine zgc 14 ?_); refine goesL_ (some 56) rfl rfl Tryd.func14 (by kernel_rfl) rfl #[.slice Ao39 x5_1.length co39] rfl zM ?_; (with_reducible refine (spec_l13Ok.calls k1 _ _ x5_1 true _ ?side1 ((Kd.R_reads' HO_5.out).2.1) A36.out).mono ?_); (case side1 => repeat (first | exact (Kd.R_reads' HO_5.out).2.2 | (with_reducible refine Kd.C_alloc ?_ _) | (with_reducible refine Kd.C_drewN ?_ _) | (with_reducible refine Kd.C_drew ?_))); rintro e w40 ⟨rfl, hb⟩; refine ⟨_, rfl, ?_⟩; replace HO_4 := zQ (Kd.R_below (zR HO_4.out) hb); replace HO_5 := zQ (Kd.R_below (zR HO_5.out) hb); replace HB := zbs HB.out hb; (try clear hb)))
     go_ret2
     exact ⟨_, zE, zR HO_5.out, zB HB.out⟩
    ·replace c37 := Bool.eq_false_iff.mpr c37
     subst c37
     have H1 : (some (([] : List (S35)), false)) = some (r1, r2) := by rw [if_neg (show ¬ (false = true) by decide)] at H; exact H
     clear H; have H := H1; clear H1
     simp only [Option.some.injEq, Prod.mk.injEq] at H
     obtain ⟨rfl, rfl⟩ := H; obtain ⟨Ao41, co41, eo41⟩ := Kd.R_slice HO_4.out; subst eo41; obtain ⟨Ao42, co42, eo42⟩ := Kd.R_slice HO_5.out; subst eo42
     go_wp2_with (first | ((with_reducible refine zgc 14 ?_); refine goesL_ (some 56) rfl rfl Tryd.func14 (by kernel_rfl) rfl #[.slice Ao42 x5_1.length co42] rfl zM ?_; (with_reducible refine (spec_l13Ok.calls k1 _ _ x5_1 false _ ?side1 ((Kd.R_reads' HO_5.out).2.1) A36.out).mono ?_); (case side1 => repeat (first | exact (Kd.R_reads' HO_5.out).2.2 | (with_reducible refine Kd.C_alloc ?_ _) | (with_reducible refine Kd.C_drewN ?_ _) | (with_reducible refine Kd.C_drew ?_))); rintro e w43 ⟨rfl, hb⟩; refine ⟨_, rfl, ?_⟩; replace HO_4 := zQ (Kd.R_below (zR HO_4.out) hb); replace HO_5 := zQ (Kd.R_below (zR HO_5.out) hb); replace HB := zbs HB.out hb; (try clear hb)))
     go_ret2
     exact ⟨_, zE, by first | exact Kd.R_nil _ _ _ _ _ | exact Kd.N_nil _ _ _ _ _ | exact Kd.V_nil _ _ _ _ _ | exact Kd.Q_nil _ _ _ _ _ | exact Kd.S_nil _ _ _ _ _, zB HB.out⟩

/-! ### impl_within: function 31 -/
def impl_within.f (a0 : Int) (a1 : Int) (a2 : Int) : Option (Bool) := if a0 ≥ a1 then (some (decide (a0 ≤ a2))) else (some false)
set_option maxHeartbeats 8000000 in
set_option maxRecDepth 100000 in
theorem impl_within.calls (a0 : Int) (a1 : Int) (a2 : Int) (r : Bool) (w : World) (h : impl_within.f a0 a1 a2 = some r) :
  Calls Tryd.prog 31 #[.int .i64 a0, .int .i64 a1, .int .i64 a2] w fun e w' => e = .returned (.bool r) ∧ Drawn0 w w' := by
 have H : (if a0 ≥ a1 then (some (decide (a0 ≤ a2))) else (some false)) = some r := h
 clear h
 by_cases c4 : a0 ≥ a1
 ·rw [if_pos c4] at H
  have c4b0 : decide (a1 ≤ a0) = true := decide_eq_true c4; clear c4; obtain rfl := Option.some.inj H
  go_enter Tryd.func31, Tryd.ntmps31
  go_wp2
  go_ret
  exact ⟨zF, by repeat (first | exact Drawn0.refl _ | apply Drawn0.step)⟩
 ·rw [if_neg c4] at H
  have c4b0 : decide (a1 ≤ a0) = false := decide_eq_false c4; clear c4; obtain rfl := Option.some.inj H
  go_enter Tryd.func31, Tryd.ntmps31
  go_wp2
  go_ret
  exact ⟨zF, by repeat (first | exact Drawn0.refl _ | apply Drawn0.step)⟩

/-! ### impl_turnAt: function 32 -/
def impl_turnAt.f (a0_0 : Int) (a0_1 : Int) (a1_0 : Int) (a1_1 : Int) (a2_0 : Int) (a2_1 : Int) : Option (Int) := some (wrap64 ((wrap64 ((wrap64 (a1_0 - a0_0)) * (wrap64 (a2_1 - a1_1)))) - (wrap64 ((wrap64 (a1_1 - a0_1)) * (wrap64 (a2_0 - a1_0))))))
set_option maxHeartbeats 8000000 in
set_option maxRecDepth 100000 in
theorem impl_turnAt.calls (a0_0 : Int) (a0_1 : Int) (a1_0 : Int) (a1_1 : Int) (a2_0 : Int) (a2_1 : Int) (r : Int) (w : World) (h : impl_turnAt.f a0_0 a0_1 a1_0 a1_1 a2_0 a2_1 = some r) :
  Calls Tryd.prog 32 #[.agg #[.int .i64 a0_0, .int .i64 a0_1], .agg #[.int .i64 a1_0, .int .i64 a1_1], .agg #[.int .i64 a2_0, .int .i64 a2_1]] w fun e w' => e = .returned (.int .i64 r) ∧ Below w.heap.size w w' := by
 have hu35 := Tryd.underlying35
 have HB := zQ (Below.refl w.heap.size w)
 have H : (some (wrap64 ((wrap64 ((wrap64 (a1_0 - a0_0)) * (wrap64 (a2_1 - a1_1)))) - (wrap64 ((wrap64 (a1_1 - a0_1)) * (wrap64 (a2_0 - a1_0))))))) = some r := h
 clear h
 obtain rfl := Option.some.inj H
 go_enter Tryd.func32, Tryd.ntmps32
 go_wp2_with (first | ((with_reducible refine zd 3 ?_); refine zbx (N := 3) (cs := #[.int .i64 a0_0, .int .i64 a0_1]) (t := 35) ?_; intro gb204 hg w4 hbox hb; have BK204 := zQ (hbox); have GW204 := zgz hg HB.out; have GE204 := GW204; replace HB := zbs HB.out hb; clear hb hbox hg) | ((with_reducible refine zd 4 ?_); refine zbx (N := 4) (cs := #[.int .i64 a1_0, .int .i64 a1_1]) (t := 35) ?_; intro gb205 hg w5 hbox hb; have BK205 := zQ (hbox); have GW205 := zgz2 hg HB.out GE204.out; have GE205 := GW205; have NB204_205 := zQ ((by rw [hg]; exact Nat.ne_of_lt (blk_lt (g := gb204) (o := .cells #[.int .i64 a0_0, .int .i64 a0_1] 35 (0, 0)) (zb BK204.out)) : gb204 ≠ gb205)); have NB205_204 := zQ ((by rw [hg]; exact Nat.ne_of_gt (blk_lt (g := gb204) (o := .cells #[.int .i64 a0_0, .int .i64 a0_1] 35 (0, 0)) (zb BK204.out)) : gb205 ≠ gb204)); replace BK204 := zbl BK204.out hb; replace HB := zbs2 HB.out GE204.out hb; clear hb hbox hg) | ((with_reducible refine zd 5 ?_); refine zbx (N := 5) (cs := #[.int .i64 a2_0, .int .i64 a2_1]) (t := 35) ?_; intro gb206 hg w6 hbox hb; have BK206 := zQ (hbox); have GW206 := zQ ((by rw [hg]; exact (below_size (zB3 HB.out GE204.out GE205.out)) : w.heap.size ≤ gb206)); have GE206 := zQ ((by rw [hg]; exact (below_size (zB3 HB.out GE204.out GE205.out)) : w.heap.size ≤ gb206)); have NB204_206 := zQ ((by rw [hg]; exact Nat.ne_of_lt (blk_lt (g := gb204) (o := .cells #[.int .i64 a0_0, .int .i64 a0_1] 35 (0, 0)) (zb BK204.out)) : gb204 ≠ gb206)); have NB206_204 := zQ ((by rw [hg]; exact Nat.ne_of_gt (blk_lt (g := gb204) (o := .cells #[.int .i64 a0_0, .int .i64 a0_1] 35 (0, 0)) (zb BK204.out)) : gb206 ≠ gb204)); have NB205_206 := zQ ((by rw [hg]; exact Nat.ne_of_lt (blk_lt (g := gb205) (o := .cells #[.int .i64 a1_0, .int .i64 a1_1] 35 (0, 0)) (zb BK205.out)) : gb205 ≠ gb206)); have NB206_205 := zQ ((by rw [hg]; exact Nat.ne_of_gt (blk_lt (g := gb205) (o := .cells #[.int .i64 a1_0, .int .i64 a1_1] 35 (0, 0)) (zb BK205.out)) : gb206 ≠ gb205)); replace BK204 := zbl BK204.out hb; replace BK205 := zbl BK205.out hb; replace HB := zQ (below_step (zB3 HB.out GE204.out GE205.out) hb); clear hb hbox hg; have hnb7 := NB205_204.out; have hnc7 := NB204_205.out; have hnb8 := NB205_206.out; have hnc8 := NB206_205.out; have hcz9_0 := zc0 BK205.out; have hcz9_1 := zc1 BK205.out; have hfz9_0 := zfz BK205.out 0; have hfz9_1 := zfz BK205.out 1; have hnb10 := NB204_206.out; have hnc10 := NB206_204.out; have hcz11_0 := zc0 BK204.out; have hcz11_1 := zc1 BK204.out; have hfz11_0 := zfz BK204.out 0; have hfz11_1 := zfz BK204.out 1; have hcz12_0 := zc0 BK206.out; have hcz12_1 := zc1 BK206.out; have hfz12_0 := zfz BK206.out 0; have hfz12_1 := zfz BK206.out 1))
 go_ret
 exact ⟨zE, by repeat (first | (with_reducible first | exact HB.out | apply below_alloc | apply pw_below_drewN | apply below_drew1 | refine below_set ?_ GE204.out | refine below_set ?_ GE205.out | refine below_set ?_ GE206.out) | exact HB.out)⟩

/-! ### impl_sign: function 45 -/
def impl_sign.f (a0 : Int) : Option (Int) := if a0 > 0 then (some 1) else (if a0 < 0 then (some (-1)) else (some 0))
set_option maxHeartbeats 8000000 in
set_option maxRecDepth 100000 in
theorem impl_sign.calls (a0 : Int) (r : Int) (w : World) (h : impl_sign.f a0 = some r) :
  Calls Tryd.prog 45 #[.int .i64 a0] w fun e w' => e = .returned (.int .i64 r) ∧ Drawn0 w w' := by
 have H : (if a0 > 0 then (some 1) else (if a0 < 0 then (some (-1)) else (some 0))) = some r := h
 clear h
 by_cases c2 : a0 > 0
 ·rw [if_pos c2] at H
  have c2b0 : decide (0 < a0) = true := decide_eq_true c2; clear c2; obtain rfl := Option.some.inj H
  go_enter Tryd.func45, Tryd.ntmps45
  go_wp2
  go_ret
  exact ⟨zF, by repeat (first | exact Drawn0.refl _ | apply Drawn0.step)⟩
 ·rw [if_neg c2] at H
  have c2b0 : decide (0 < a0) = false := decide_eq_false c2; clear c2
  by_cases c3 : a0 < 0
  ·rw [if_pos c3] at H
   have c3b0 : decide (a0 < 0) = true := decide_eq_true c3; clear c3; obtain rfl := Option.some.inj H
   go_enter Tryd.func45, Tryd.ntmps45
   go_wp2
   go_ret
   exact ⟨zF, by repeat (first | exact Drawn0.refl _ | apply Drawn0.step)⟩
  ·rw [if_neg c3] at H
   have c3b0 : decide (a0 < 0) = false := decide_eq_false c3; clear c3; obtain rfl := Option.some.inj H
   go_enter Tryd.func45, Tryd.ntmps45
   go_wp2
   go_ret
   exact ⟨zF, by repeat (first | exact Drawn0.refl _ | apply Drawn0.step)⟩

/-! ### impl_between: function 46 -/
def impl_between.f (a0_0 : Int) (a0_1 : Int) (a1_0 : Int) (a1_1 : Int) (a2_0 : Int) (a2_1 : Int) : Option (Bool) := (impl_within.f a2_0 (mn a0_0 a1_0) (mx a0_0 a1_0)).bind fun t210 => (if t210 = true then ((impl_within.f a2_1 (mn a0_1 a1_1) (mx a0_1 a1_1)).bind fun t211 => (some t211)) else (some false))
set_option maxHeartbeats 8000000 in
set_option maxRecDepth 100000 in
theorem impl_between.calls (a0_0 : Int) (a0_1 : Int) (a1_0 : Int) (a1_1 : Int) (a2_0 : Int) (a2_1 : Int) (r : Bool) (w : World) (h : impl_between.f a0_0 a0_1 a1_0 a1_1 a2_0 a2_1 = some r) :
  Calls Tryd.prog 46 #[.agg #[.int .i64 a0_0, .int .i64 a0_1], .agg #[.int .i64 a1_0, .int .i64 a1_1], .agg #[.int .i64 a2_0, .int .i64 a2_1]] w fun e w' => e = .returned (.bool r) ∧ Below w.heap.size w w' := by
 have hu35 := Tryd.underlying35
 have HB := zQ (Below.refl w.heap.size w)
 have H : ((impl_within.f a2_0 (mn a0_0 a1_0) (mx a0_0 a1_0)).bind fun t210 => (if t210 = true then ((impl_within.f a2_1 (mn a0_1 a1_1) (mx a0_1 a1_1)).bind fun t211 => (some t211)) else (some false))) = some r := h
 clear h
 obtain ⟨ji4, hji4⟩ : ∃ j_ : Int, (mn a0_0 a1_0) = j_ := ⟨_, rfl⟩
 replace H : ((impl_within.f a2_0 (ji4) (mx a0_0 a1_0)).bind fun t210 => (if t210 = true then ((impl_within.f a2_1 (mn a0_1 a1_1) (mx a0_1 a1_1)).bind fun t211 => (some t211)) else (some false))) = some r := by first | (rw [hji4] at H; exact H) | (simp only [hji4] at H ⊢; exact H)
 have hji4_ : (if a1_0 < a0_0 then a1_0 else a0_0) = ji4 := hji4
 obtain ⟨ji5, hji5⟩ : ∃ j_ : Int, (mx a0_0 a1_0) = j_ := ⟨_, rfl⟩
 replace H : ((impl_within.f a2_0 (ji4) (ji5)).bind fun t210 => (if t210 = true then ((impl_within.f a2_1 (mn a0_1 a1_1) (mx a0_1 a1_1)).bind fun t211 => (some t211)) else (some false))) = some r := by first | (rw [hji5] at H; exact H) | (simp only [hji5] at H ⊢; exact H)
 have hji5_ : (if a0_0 < a1_0 then a1_0 else a0_0) = ji5 := hji5
 replace H := Option.bind_eq_some_iff.mp H
 obtain ⟨t210, A60, H⟩ := H
 replace H : (if t210 = true then ((impl_within.f a2_1 (mn a0_1 a1_1) (mx a0_1 a1_1)).bind fun t211 => (some t211)) else (some false)) = some r := H
 have A6 := zQ A60
 clear A60
 by_cases c7 : t210 = true
 ·subst c7
  have H1 : ((impl_within.f a2_1 (mn a0_1 a1_1) (mx a0_1 a1_1)).bind fun t211 => (some t211)) = some r := by rw [if_pos rfl] at H; exact H
  clear H; have H := H1; clear H1; obtain ⟨ji8, hji8⟩ : ∃ j_ : Int, (mn a0_1 a1_1) = j_ := ⟨_, rfl⟩
  replace H : ((impl_within.f a2_1 (ji8) (mx a0_1 a1_1)).bind fun t211 => (some t211)) = some r := by first | (rw [hji8] at H; exact H) | (simp only [hji8] at H ⊢; exact H)
  (try rw [hji8] at A6)
  have hji8_ : (if a1_1 < a0_1 then a1_1 else a0_1) = ji8 := hji8; obtain ⟨ji9, hji9⟩ : ∃ j_ : Int, (mx a0_1 a1_1) = j_ := ⟨_, rfl⟩
  replace H : ((impl_within.f a2_1 (ji8) (ji9)).bind fun t211 => (some t211)) = some r := by first | (rw [hji9] at H; exact H) | (simp only [hji9] at H ⊢; exact H)
  (try rw [hji9] at A6)
  have hji9_ : (if a0_1 < a1_1 then a1_1 else a0_1) = ji9 := hji9; replace H := Option.bind_eq_some_iff.mp H; obtain ⟨t211, A100, H⟩ := H; replace H : (some t211) = some r := H; have A10 := zQ A100; clear A100; obtain rfl := Option.some.inj H
  go_enter Tryd.func46, Tryd.ntmps46
  go_wp2_with (first | ((with_reducible refine zd 3 ?_); (try (refine gate_guard (by rfl) ?_; dsimp only)); refine zbx (N := 3) (cs := #[.int .i64 a0_0, .int .i64 a0_1]) (t := 35) ?_; intro gb207 hg w11 hbox hb; have BK207 := zQ (hbox); have GW207 := zgz hg HB.out; have GE207 := GW207; replace HB := zbs HB.out hb; clear hb hbox hg) | ((with_reducible refine zd 4 ?_); (try (refine gate_guard (by rfl) ?_; dsimp only)); refine zbx (N := 4) (cs := #[.int .i64 a1_0, .int .i64 a1_1]) (t := 35) ?_; intro gb208 hg w12 hbox hb; have BK208 := zQ (hbox); have GW208 := zgz2 hg HB.out GE207.out; have GE208 := GW208; have NB207_208 := zQ ((by rw [hg]; exact Nat.ne_of_lt (blk_lt (g := gb207) (o := .cells #[.int .i64 a0_0, .int .i64 a0_1] 35 (0, 0)) (zb BK207.out)) : gb207 ≠ gb208)); have NB208_207 := zQ ((by rw [hg]; exact Nat.ne_of_gt (blk_lt (g := gb207) (o := .cells #[.int .i64 a0_0, .int .i64 a0_1] 35 (0, 0)) (zb BK207.out)) : gb208 ≠ gb207)); replace BK207 := zbl BK207.out hb; replace HB := zbs2 HB.out GE207.out hb; clear hb hbox hg) | ((with_reducible refine zd 5 ?_); (try (refine gate_guard (by rfl) ?_; dsimp only)); refine zbx (N := 5) (cs := #[.int .i64 a2_0, .int .i64 a2_1]) (t := 35) ?_; intro gb209 hg w13 hbox hb; have BK209 := zQ (hbox); have GW209 := zQ ((by rw [hg]; exact (below_size (zB3 HB.out GE207.out GE208.out)) : w.heap.size ≤ gb209)); have GE209 := zQ ((by rw [hg]; exact (below_size (zB3 HB.out GE207.out GE208.out)) : w.heap.size ≤ gb209)); have NB207_209 := zQ ((by rw [hg]; exact Nat.ne_of_lt (blk_lt (g := gb207) (o := .cells #[.int .i64 a0_0, .int .i64 a0_1] 35 (0, 0)) (zb BK207.out)) : gb207 ≠ gb209)); have NB209_207 := zQ ((by rw [hg]; exact Nat.ne_of_gt (blk_lt (g := gb207) (o := .cells #[.int .i64 a0_0, .int .i64 a0_1] 35 (0, 0)) (zb BK207.out)) : gb209 ≠ gb207)); have NB208_209 := zQ ((by rw [hg]; exact Nat.ne_of_lt (blk_lt (g := gb208) (o := .cells #[.int .i64 a1_0, .int .i64 a1_1] 35 (0, 0)) (zb BK208.out)) : gb208 ≠ gb209)); have NB209_208 := zQ ((by rw [hg]; exact Nat.ne_of_gt (blk_lt (g := gb208) (o := .cells #[.int .i64 a1_0, .int .i64 a1_1] 35 (0, 0)) (zb BK208.out)) : gb209 ≠ gb208)); replace BK207 := zbl BK207.out hb; replace BK208 := zbl BK208.out hb; replace HB := zQ (below_step (zB3 HB.out GE207.out GE208.out) hb); clear hb hbox hg; have hnb14 := NB209_207.out; have hnc14 := NB207_209.out; have hnb15 := NB209_208.out; have hnc15 := NB208_209.out; have hcz16_0 := zc0 BK209.out; have hcz16_1 := zc1 BK209.out; have hfz16_0 := zfz BK209.out 0; have hfz16_1 := zfz BK209.out 1; have hnb17 := NB207_208.out; have hnc17 := NB208_207.out; have hcz18_0 := zc0 BK207.out; have hcz18_1 := zc1 BK207.out; have hfz18_0 := zfz BK207.out 0; have hfz18_1 := zfz BK207.out 1; have hcz19_0 := zc0 BK208.out; have hcz19_1 := zc1 BK208.out; have hfz19_0 := zfz BK208.out 0; have hfz19_1 := zfz BK208.out 1) | ((with_reducible refine zgc 31 ?_); refine goesL_ (some 19) rfl rfl Tryd.func31 (by kernel_rfl) rfl #[.int .i64 a2_0, .int .i64 ji4, .int .i64 ji5] rfl (by (try simp only [List.map_toArray, List.map_cons, List.map_nil]); first | done | (simp only [hji4, hji5]; rfl) | rfl | (simp only [List.length_drop, List.length_take]; rfl)) ?_; (with_reducible refine (impl_within.calls a2_0 ji4 ji5 true _ A6.out).mono ?_); rintro e w' ⟨rfl, ⟨nd, rfl⟩⟩; refine ⟨_, rfl, ?_⟩) | (go_at_call 31; (with_reducible refine (impl_within.calls a2_1 ji8 ji9 t211 _ A10.out).mono ?_); rintro e w' ⟨rfl, ⟨nd, rfl⟩⟩))
  go_ret
  exact ⟨by first | rfl | (simp [errW_none, errW_some] <;> rfl) | (simp only [← hji4, ← hji5, ← hji8, ← hji9]; first | rfl | (simp [errW_none, errW_some] <;> rfl)) | (simp [*, errW_none, errW_some] <;> rfl), by repeat (first | (with_reducible first | exact HB.out | apply below_alloc | apply pw_below_drewN | apply below_drew1 | refine below_set ?_ GE207.out | refine below_set ?_ GE208.out | refine below_set ?_ GE209.out) | exact HB.out)⟩
 ·replace c7 := Bool.eq_false_iff.mpr c7
  subst c7
  have H1 : (some false) = some r := by rw [if_neg (show ¬ (false = true) by decide)] at H; exact H
  clear H; have H := H1; clear H1; obtain rfl := Option.some.inj H
  go_enter Tryd.func46, Tryd.ntmps46
  go_wp2_with (first | ((with_reducible refine zd 3 ?_); (try (refine gate_guard (by rfl) ?_; dsimp only)); refine zbx (N := 3) (cs := #[.int .i64 a0_0, .int .i64 a0_1]) (t := 35) ?_; intro gb207 hg w20 hbox hb; have BK207 := zQ (hbox); have GW207 := zgz hg HB.out; have GE207 := GW207; replace HB := zbs HB.out hb; clear hb hbox hg) | ((with_reducible refine zd 4 ?_); (try (refine gate_guard (by rfl) ?_; dsimp only)); refine zbx (N := 4) (cs := #[.int .i64 a1_0, .int .i64 a1_1]) (t := 35) ?_; intro gb208 hg w21 hbox hb; have BK208 := zQ (hbox); have GW208 := zgz2 hg HB.out GE207.out; have GE208 := GW208; have NB207_208 := zQ ((by rw [hg]; exact Nat.ne_of_lt (blk_lt (g := gb207) (o := .cells #[.int .i64 a0_0, .int .i64 a0_1] 35 (0, 0)) (zb BK207.out)) : gb207 ≠ gb208)); have NB208_207 := zQ ((by rw [hg]; exact Nat.ne_of_gt (blk_lt (g := gb207) (o := .cells #[.int .i64 a0_0, .int .i64 a0_1] 35 (0, 0)) (zb BK207.out)) : gb208 ≠ gb207)); replace BK207 := zbl BK207.out hb; replace HB := zbs2 HB.out GE207.out hb; clear hb hbox hg) | ((with_reducible refine zd 5 ?_); (try (refine gate_guard (by rfl) ?_; dsimp only)); refine zbx (N := 5) (cs := #[.int .i64 a2_0, .int .i64 a2_1]) (t := 35) ?_; intro gb209 hg w22 hbox hb; have BK209 := zQ (hbox); have GW209 := zQ ((by rw [hg]; exact (below_size (zB3 HB.out GE207.out GE208.out)) : w.heap.size ≤ gb209)); have GE209 := zQ ((by rw [hg]; exact (below_size (zB3 HB.out GE207.out GE208.out)) : w.heap.size ≤ gb209)); have NB207_209 := zQ ((by rw [hg]; exact Nat.ne_of_lt (blk_lt (g := gb207) (o := .cells #[.int .i64 a0_0, .int .i64 a0_1] 35 (0, 0)) (zb BK207.out)) : gb207 ≠ gb209)); have NB209_207 := zQ ((by rw [hg]; exact Nat.ne_of_gt (blk_lt (g := gb207) (o := .cells #[.int .i64 a0_0, .int .i64 a0_1] 35 (0, 0)) (zb BK207.out)) : gb209 ≠ gb207)); have NB208_209 := zQ ((by rw [hg]; exact Nat.ne_of_lt (blk_lt (g := gb208) (o := .cells #[.int .i64 a1_0, .int .i64 a1_1] 35 (0, 0)) (zb BK208.out)) : gb208 ≠ gb209)); have NB209_208 := zQ ((by rw [hg]; exact Nat.ne_of_gt (blk_lt (g := gb208) (o := .cells #[.int .i64 a1_0, .int .i64 a1_1] 35 (0, 0)) (zb BK208.out)) : gb209 ≠ gb208)); replace BK207 := zbl BK207.out hb; replace BK208 := zbl BK208.out hb; replace HB := zQ (below_step (zB3 HB.out GE207.out GE208.out) hb); clear hb hbox hg; have hnb23 := NB209_207.out; have hnc23 := NB207_209.out; have hnb24 := NB209_208.out; have hnc24 := NB208_209.out; have hcz25_0 := zc0 BK209.out; have hcz25_1 := zc1 BK209.out; have hfz25_0 := zfz BK209.out 0; have hfz25_1 := zfz BK209.out 1; have hnb26 := NB207_208.out; have hnc26 := NB208_207.out; have hcz27_0 := zc0 BK207.out; have hcz27_1 := zc1 BK207.out; have hfz27_0 := zfz BK207.out 0; have hfz27_1 := zfz BK207.out 1; have hcz28_0 := zc0 BK208.out; have hcz28_1 := zc1 BK208.out; have hfz28_0 := zfz BK208.out 0; have hfz28_1 := zfz BK208.out 1) | ((with_reducible refine zgc 31 ?_); refine goesL_ (some 19) rfl rfl Tryd.func31 (by kernel_rfl) rfl #[.int .i64 a2_0, .int .i64 ji4, .int .i64 ji5] rfl (by (try simp only [List.map_toArray, List.map_cons, List.map_nil]); first | done | (simp only [hji4, hji5]; rfl) | rfl | (simp only [List.length_drop, List.length_take]; rfl)) ?_; (with_reducible refine (impl_within.calls a2_0 ji4 ji5 false _ A6.out).mono ?_); rintro e w' ⟨rfl, ⟨nd, rfl⟩⟩; refine ⟨_, rfl, ?_⟩))
  go_ret
  exact ⟨by first | rfl | (simp [errW_none, errW_some] <;> rfl) | (simp only [← hji4, ← hji5]; first | rfl | (simp [errW_none, errW_some] <;> rfl)) | (simp [*, errW_none, errW_some] <;> rfl), by repeat (first | (with_reducible first | exact HB.out | apply below_alloc | apply pw_below_drewN | apply below_drew1 | refine below_set ?_ GE207.out | refine below_set ?_ GE208.out | refine below_set ?_ GE209.out) | exact HB.out)⟩

end Go.Proofs.YtchngbjpjbahiaaDoor.PFnExactReadSail
