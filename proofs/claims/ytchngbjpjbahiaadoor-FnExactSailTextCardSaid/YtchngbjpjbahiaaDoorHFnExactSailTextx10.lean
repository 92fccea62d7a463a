/- The walks of the functions that the law reaches: each computes what its Lean function says. No condition beyond each contract's own. -/
import Derived.Lib.AppendIntMem
import Derived.Lib.ItoaLen
import Derived.Lib.Join
import Derived.Test.YtchngbjpjbahiaaDoorShelf
import Derived.Test.YtchngbjpjbahiaaDoorHFnExactSailTextx0
import Derived.Test.YtchngbjpjbahiaaDoorHFnExactSailTextx9
namespace Go.Proofs.YtchngbjpjbahiaaDoor.PFnExactSailText
noncomputable section
open Go.RowKit Go.Proofs.YtchngbjpjbahiaaDoorW.PrintWords Go.Proofs.YtchngbjpjbahiaaDoorW.PrintLast Go.Proofs.YtchngbjpjbahiaaDoorW.PrintMore
attribute [local go_sem] max2_int min2_int max_two min_two max_three min_three max_four min_four   -- for this text's walks alone
set_option linter.unusedVariables false
set_option linter.unusedSimpArgs false

/-! ### impl_Decimal: function 18 -/
/-! by hand: impl.Decimal, by the library's contract -/
def TabW (w : World) : Prop := Lib.TabBelow Tryd.prog w.heap.size w "internal/strconv.uint64pow10" .u64 Lib.pow10Tab
theorem TabW.at_ {w w' : World} (h : TabW w) (hb : Below w.heap.size w w') : Lib.TabIs Tryd.prog w' "internal/strconv.uint64pow10" .u64 Lib.pow10Tab := h w' hb
theorem TabW.on_ {w w' : World} (h : TabW w) (hb : Below w.heap.size w w') : TabW w' := Lib.tabBelow_of_tabIs (h w' hb)
def impl_Decimal.f (k : Nat) (a0 : Int) : Option ByteArray := if -9223372036854775808 ≤ a0 ∧ a0 ≤ 9223372036854775807 then some ⟨(Lib.itoa a0).toArray⟩ else none
theorem impl_Decimal.mono : ∀ a0 k, LeO (impl_Decimal.f k a0) (impl_Decimal.f (k + 1) a0) := fun _ _ => LeO.refl _
set_option maxHeartbeats 8000000 in
set_option maxRecDepth 100000 in
theorem impl_Decimal.calls (k : Nat) (a0 : Int) (r : ByteArray) (w : World) (hT : Lib.TabIs Tryd.prog w "internal/strconv.uint64pow10" .u64 Lib.pow10Tab) (h : impl_Decimal.f k a0 = some r) :
  Calls Tryd.prog 18 #[.int .i64 a0] w fun e w' => e = .returned (.string r) ∧ Below w.heap.size w w' := by
 unfold impl_Decimal.f at h
 by_cases hg : -9223372036854775808 ≤ a0 ∧ a0 ≤ 9223372036854775807
 ·rw [if_pos hg] at h
  obtain rfl := Option.some.inj h; have HT := zQ hT; have HG := zQ hg; clear h hT hg
  go_enter Tryd.func18, Tryd.ntmps18
  go_wp2_with (first
   | (go_at_call 35; refine (Tryd.strconv_FormatInt_10 a0 HG.out.1 HG.out.2 _ HT.out).mono ?_; rintro e w1 ⟨rfl, kk, os, hw1⟩; have HB := zQ (show Below w.heap.size w w1 from by rw [hw1]; exact Lib.below_grow _ _ (Nat.le_refl _) _ _); clear hw1))
  go_ret
  exact ⟨by first | rfl | (simp; done), HB.out⟩
 ·rw [if_neg hg] at h
  cases h

/-! ### strings_Join: function 19 -/
/-! by hand: strings.Join, by the library's contract -/
def strings_Join.f (k : Nat) (l0 : List ByteArray) (a1 : ByteArray) : Option ByteArray := if l0.length ≤ 140737488355328 ∧ (Lib.join (l0.map (·.data.toList)) a1.data.toList).length ≤ 140737488355328 then some ⟨(Lib.join (l0.map (·.data.toList)) a1.data.toList).toArray⟩ else none
theorem strings_Join.mono : ∀ a0 a1 k, LeO (strings_Join.f k a0 a1) (strings_Join.f (k + 1) a0 a1) := fun _ _ _ => LeO.refl _
theorem strings_Join.calls (k : Nat) (A0 : Option Addr) (c0 : Nat) (l0 : List ByteArray) (a1 : ByteArray) (r : ByteArray) (w : World) (hr0 : ∃ base ok, Kd.R Kd.string 9 w base ok (.slice A0 l0.length c0) l0) (hc0 : l0.length ≤ c0) (h : strings_Join.f k l0 a1 = some r) :
  Calls Tryd.prog 19 #[.slice A0 l0.length c0, .string a1] w fun e w' => e = .returned (.string r) ∧ Below w.heap.size w w' := by
 unfold strings_Join.f at h
 by_cases hg : l0.length ≤ 140737488355328 ∧ (Lib.join (l0.map (·.data.toList)) a1.data.toList).length ≤ 140737488355328
 ·rw [if_pos hg] at h
  obtain rfl := Option.some.inj h; obtain ⟨base, ok, hR⟩ := hr0
  cases l0 with
  | nil => exact (Tryd.strings_Join_none A0 c0 a1 w).mono fun e w' ⟨he, hw⟩ => ⟨he, hw ▸ Below.refl _ _⟩
  | cons x l =>
   obtain ⟨g, rfl⟩ : ∃ g, A0 = some ⟨g, 0, none⟩ := by
    obtain ⟨h0, inner, ho, hr⟩ := hR
    rcases ho.2 with ⟨hv, h2⟩ | ⟨g, cap', cur, hv, _⟩
    ·injection hv with _ hn _; cases hn
    ·injection hv with ha _ _; exact ⟨g, ha⟩
   refine Tryd.strings_Join g 0 c0 (x :: l) a1 w (fun j y hj => ?_) (Kd.R_lt hR g rfl) hg.1 hc0 hg.2
   have hj2 : j < (x :: l).length := by
    rcases Nat.lt_or_ge j (x :: l).length with q | q
    ·exact q
    ·rw [List.getElem?_eq_none q] at hj; cases hj
   have := (Kd.R_celln (ByteArray.empty) hR (j : Int) (by omega) (by omega)).1; rw [Int.toNat_natCast] at this; rw [Nat.zero_add, this]
   unfold rdOf
   rw [Int.toNat_natCast, List.getD_eq_getElem?_getD, hj]
   rfl
 ·rw [if_neg hg] at h
  cases h

/-! ### impl_SailText: function 8 -/
def impl_SailText.l0 : Nat → List ByteArray → List (S35) → Int → Int → Option (ByteArray)
 | 0, _, _, _, _ => none
 | k + 1, x3, x10, x11, x12 => if x12 < x11 then (if 0 ≤ x12 then (if x12 < (x10.length : Int) then ((impl_Decimal.f k ((rd_T35 x10 x12).f0)).bind fun t246 => (if t246.size + 1 ≤ 9223372036854775807 then ((impl_Decimal.f k ((rd_T35 x10 x12).f1)).bind fun t247 => (if (t246 ++ (⟨#[44]⟩ : ByteArray)).size + t247.size ≤ 9223372036854775807 then (if x3.length < 8796093022208 then (impl_SailText.l0 k (x3 ++ [(t246 ++ (⟨#[44]⟩ : ByteArray)) ++ t247]) x10 x11 (wrap64 (x12 + 1))) else (none)) else (none))) else (none))) else (none)) else (none)) else ((strings_Join.f k x3 (⟨#[32]⟩ : ByteArray)).bind fun t251 => (some t251))
def impl_SailText.f (k : Nat) (l0 : List (S35)) : Option (ByteArray) := (impl_ValidSail.f k l0).bind fun t240 => (if t240 = true then (impl_SailText.l0 k (([] : List ByteArray)) l0 (l0.length : Int) 0) else (some (⟨#[]⟩ : ByteArray)))
theorem impl_SailText.mono_l : ∀ k, (∀ y0 y1 y2 y3, LeO (impl_SailText.l0 k y0 y1 y2 y3) (impl_SailText.l0 (k + 1) y0 y1 y2 y3))
 | 0 => fun _ _ _ _ r h => by simp [impl_SailText.l0] at h
 | k + 1 => by
  have ih0 := impl_SailText.mono_l k
  ·intro y0 y1 y2 y3
   unfold impl_SailText.l0
   (with_reducible repeat' first | apply ih0 | apply impl_Decimal.mono | apply impl_ValidSail.mono | apply strings_Join.mono | apply LeO.refl | apply LeO.none | refine LeO.ite ?_ ?_ | refine LeO.bind ?_ (fun _ => ?_))
   repeat' first | apply ih0 | apply impl_Decimal.mono | apply impl_ValidSail.mono | apply strings_Join.mono | apply LeO.none | refine LeO.ite ?_ ?_ | refine LeO.bind ?_ (fun _ => ?_)
theorem impl_SailText.mono : ∀ a0 k, LeO (impl_SailText.f k a0) (impl_SailText.f (k + 1) a0) := by
 intro a0 k
 have ih0 := impl_SailText.mono_l k
 unfold impl_SailText.f
 (with_reducible repeat' first | apply ih0 | apply impl_Decimal.mono | apply impl_ValidSail.mono | apply strings_Join.mono | apply LeO.refl | apply LeO.none | refine LeO.ite ?_ ?_ | refine LeO.bind ?_ (fun _ => ?_))
 repeat' first | apply ih0 | apply impl_Decimal.mono | apply impl_ValidSail.mono | apply strings_Join.mono | apply LeO.none | refine LeO.ite ?_ ?_ | refine LeO.bind ?_ (fun _ => ?_)
def impl_SailText.T7 : Bool × List (List Nat × List Nat) := (true, [([], []), ([], []), ([1], [1]), ([2], [2]), ([3], [3]), ([], []), ([5], [5]), ([6, 3], [6]), ([4, 7], [4, 7]), ([8], [8]), ([0, 9, 7], [0, 9]), ([10, 10, 0, 1, 2, 3, 4, 5, 6, 7, 8, 9, 10], [0, 10])])
def impl_SailText.B7 : List Nat := [0, 0, 2, 6, 14, 0, 32, 110, 254, 510, 1023, 2047]
theorem impl_SailText.tab7 : rtab .any (opsOf Tryd.f8 7) = impl_SailText.T7 := by kernel_rfl
theorem impl_SailText.bits7 : waitsOk impl_SailText.T7.2 impl_SailText.B7 = true := by kernel_rfl
set_option maxHeartbeats 8000000 in
set_option maxRecDepth 100000 in
theorem impl_SailText.calls (k : Nat) (A0 : Option Addr) (c0 : Nat) (l0 : List (S35)) (r : ByteArray) (w : World) (hT : TabW w) (hr0 : Kd.C k35 w A0 l0.length l0) (hc0 : l0.length ≤ c0) (h : impl_SailText.f k l0 = some r) :
  Calls Tryd.prog 8 #[.slice A0 l0.length c0] w fun e w' => e = .returned (.string r) ∧ Below w.heap.size w w' := by
 have HT := zQ hT
 clear hT
 have hu35 := Tryd.underlying35
 have HR0 := zQ hr0
 have HC0 := zQ hc0
 clear hr0 hc0
 have HB := zQ (Below.refl w.heap.size w)
 have H : ((impl_ValidSail.f k l0).bind fun t240 => (if t240 = true then (impl_SailText.l0 k (([] : List ByteArray)) l0 (l0.length : Int) 0) else (some (⟨#[]⟩ : ByteArray)))) = some r := h
 clear h
 replace H := Option.bind_eq_some_iff.mp H
 obtain ⟨t240, A20, H⟩ := H
 replace H : (if t240 = true then (impl_SailText.l0 k (([] : List ByteArray)) l0 (l0.length : Int) 0) else (some (⟨#[]⟩ : ByteArray))) = some r := H
 have A2 := zQ A20
 clear A20
 by_cases c3 : t240 = true
 ·subst c3
  have H1 : (impl_SailText.l0 k (([] : List ByteArray)) l0 (l0.length : Int) 0) = some r := by rw [if_pos rfl] at H; exact H
  clear H; have H := H1; clear H1; obtain ⟨y241, hy241⟩ : ∃ y_ : List ByteArray, y_ = (([] : List ByteArray)) := ⟨_, rfl⟩; replace H : (impl_SailText.l0 k y241 l0 (l0.length : Int) 0) = some r := zh H; have Ny241 := zQ hy241; clear hy241; have H' := zQ H; clear H
  go_enter Tryd.func8, Tryd.ntmps8
  go_wp2_with (first | ((with_reducible refine zgc 17 ?_); refine goesL_ (some 7) rfl rfl Tryd.func17 (by kernel_rfl) rfl #[.slice A0 l0.length c0] rfl zM ?_; (with_reducible refine (impl_ValidSail.calls k _ _ l0 true _ ?side1 HC0.out A2.out).mono ?_); (case side1 => repeat (first | exact HR0.out | (with_reducible refine Kd.C_alloc ?_ _) | (with_reducible refine Kd.C_drewN ?_ _) | (with_reducible refine Kd.C_drew ?_))); rintro e w4 ⟨rfl, hb⟩; refine ⟨_, rfl, ?_⟩; replace HB := zbs HB.out hb; (try clear hb)) | ((with_reducible refine zd 9 ?_); refine Kd.R_lit Kd.string _ 9 ?hg (N := 9) ?hd (xs := ([] : List ByteArray)) (inner := []) (ok := fun _ => True) (okp := fun _ => True) ?hr ?hp (fun _ hk => hk) trivial (Below.refl _ _) (Nat.le_refl _) (by simp) ?_; (case hd => rfl); (case hg => rfl); (case hr => first | (go_simp; done) | (go_simp; rfl)); (case hp => exact (Reps.none _ _)); intro v242 w5 ho6 hb hg_ hnew_; clear hg_ hnew_; (first | rw [← Ny241.out] at ho6 | (simp only [Int.reduceToNat] at ho6; rw [← Ny241.out] at ho6)); have HO243 := zQ (Kd.R_lower ho6 (below_size (zB HB.out))); replace HB := zbs HB.out hb; clear hb ho6))
  go_loopg [3, 12] k (fun kq v3 v12 w' => ∃ (x3_1 : List ByteArray) (x12_1 : Int), v12 = .int .i64 x12_1 ∧ Aside0 (impl_SailText.l0 kq x3_1 l0 (l0.length : Int) x12_1 = some r) ∧ Aside0 (kq ≤ k) ∧ Aside0 (Kd.R Kd.string 9 w' w.heap.size (fun _ => True) v3 x3_1) ∧ Aside0 (Below w.heap.size w w'))
  case atStart => exact ⟨(y241), (0), (zF), H', ⟨Nat.le_refl _⟩, ⟨zR HO243.out⟩, ⟨zB HB.out⟩⟩
  case round =>
   clear H'; (try clear c1); (try clear p2); (try clear c3); obtain ⟨x3_1, x12_1, rfl, HA, HK1, HO_3, HB⟩ := hrel
   cases gk with
   | zero => exact absurd HA.out (by simp [impl_SailText.l0])
   | succ k1 =>
    have H := HA.out; clear HA
    simp only [impl_SailText.l0] at H
    by_cases c7 : x12_1 < (l0.length : Int)
    ·rw [if_pos c7] at H
     have c7b0 : decide (x12_1 < (l0.length : Int)) = true := decide_eq_true c7; clear c7
     by_cases c8 : 0 ≤ x12_1
     ·rw [if_pos c8] at H
      have c8b0 : decide (0 ≤ x12_1) = true := decide_eq_true c8; clear c8
      by_cases c9 : x12_1 < (l0.length : Int)
      ·rw [if_pos c9] at H
       have c9b0 : decide (x12_1 < (l0.length : Int)) = true := decide_eq_true c9; clear c9; replace H := Option.bind_eq_some_iff.mp H; obtain ⟨t246, A100, H⟩ := H; replace H : (if t246.size + 1 ≤ 9223372036854775807 then ((impl_Decimal.f k1 ((rd_T35 l0 x12_1).f1)).bind fun t247 => (if (t246 ++ (⟨#[44]⟩ : ByteArray)).size + t247.size ≤ 9223372036854775807 then (if x3_1.length < 8796093022208 then (impl_SailText.l0 k1 (x3_1 ++ [(t246 ++ (⟨#[44]⟩ : ByteArray)) ++ t247]) l0 (l0.length : Int) (wrap64 (x12_1 + 1))) else (none)) else (none))) else (none)) = some r := H; have A10 := zQ A100; clear A100
       by_cases c11 : t246.size + 1 ≤ 9223372036854775807
       ·rw [if_pos c11] at H
        have c11b0 := eq_true c11; have c11b1 : decide (t246.size + 1 ≤ 9223372036854775807) = true := decide_eq_true c11
        try have c11b2 : (9223372036854775807 < t246.size + 1) = False := eq_false (Nat.not_lt.2 c11)
        replace H := Option.bind_eq_some_iff.mp H; obtain ⟨t247, A120, H⟩ := H; replace H : (if (t246 ++ (⟨#[44]⟩ : ByteArray)).size + t247.size ≤ 9223372036854775807 then (if x3_1.length < 8796093022208 then (impl_SailText.l0 k1 (x3_1 ++ [(t246 ++ (⟨#[44]⟩ : ByteArray)) ++ t247]) l0 (l0.length : Int) (wrap64 (x12_1 + 1))) else (none)) else (none)) = some r := H; have A12 := zQ A120; clear A120
        by_cases c13 : (t246 ++ (⟨#[44]⟩ : ByteArray)).size + t247.size ≤ 9223372036854775807
        ·rw [if_pos c13] at H
         have c13b0 := eq_true c13; have c13b1 : decide ((t246 ++ (⟨#[44]⟩ : ByteArray)).size + t247.size ≤ 9223372036854775807) = true := decide_eq_true c13
         try have c13b2 : (9223372036854775807 < (t246 ++ (⟨#[44]⟩ : ByteArray)).size + t247.size) = False := eq_false (Nat.not_lt.2 c13)
         try have c13b3 := c13b2
         try simp only [ByteArray.size_append, show ((⟨#[44]⟩ : ByteArray)).size = 1 from rfl, show ((⟨#[32]⟩ : ByteArray)).size = 1 from rfl] at c13b3
         by_cases c14 : x3_1.length < 8796093022208
         ·rw [if_pos c14] at H
          have LMc14 := zQ c14; clear c14; obtain ⟨y248, hy248⟩ : ∃ y_ : List ByteArray, y_ = (x3_1 ++ [(t246 ++ (⟨#[44]⟩ : ByteArray)) ++ t247]) := ⟨_, rfl⟩; replace H : (impl_SailText.l0 k1 y248 l0 (l0.length : Int) (wrap64 (x12_1 + 1))) = some r := zh H; have Ny248 := zQ hy248; clear hy248; have H' := zQ H; clear H; have p244 : 0 ≤ (x12_1 : Int) := of_decide_eq_true zA; have q244 : x12_1 < (l0.length : Int) := of_decide_eq_true zA; obtain ⟨ad244, e244, hx244_0, hx244_1⟩ := at_T35 HR0.out x12_1 p244 q244
          cases e244
          replace hx244_0 := zw HB.out hx244_0; replace hx244_1 := zw HB.out hx244_1; replace p244 := eq_true p244; replace q244 := eq_true q244
          try go_wp2_with (first | ((with_reducible refine zd 5 ?_); refine zbx (N := 5) (cs := #[.int .i64 0, .int .i64 0]) (t := 35) ?_; intro gb245 hg w15 hbox hb; have BK245 := zQ (hbox); have GW245 := zgz hg HB.out; have GE245 := GW245; replace HO_3 := zQ (Kd.R_below (zR HO_3.out) hb); replace HB := zbs HB.out hb; clear hb hbox hg; have hcz16_0 := zc0 BK245.out; have hcz16_1 := zc1 BK245.out; have hfz16_0 := zfz BK245.out 0; have hfz16_1 := zfz BK245.out 1))
          have n0_ : Aside0 (Kd.R Kd.string 9 ((w15.setCell ⟨gb245, 0, none⟩ (.int .i64 ((rd_T35 l0 x12_1).f0))).setCell ⟨gb245, 1, none⟩ (.int .i64 ((rd_T35 l0 x12_1).f1))) w.heap.size (fun _ => True) u3 x3_1) := ⟨by (with_reducible repeat (first | apply Kd.R_alloc | apply Kd.R_drewN | apply Kd.R_drew)); exact Kd.R_mono (Kd.R_far (p := ⟨gb245, 1, none⟩) (Kd.R_far (p := ⟨gb245, 0, none⟩) (Kd.R_types HO_3.out BK245.out (by decide)) (fun _ hk => hk.2) (.int .i64 ((rd_T35 l0 x12_1).f0))) (fun _ hk => hk.2) (.int .i64 ((rd_T35 l0 x12_1).f1))) (fun _ hk => trivial)⟩; have n1_ : Aside0 (((w15.setCell ⟨gb245, 0, none⟩ (.int .i64 ((rd_T35 l0 x12_1).f0))).setCell ⟨gb245, 1, none⟩ (.int .i64 ((rd_T35 l0 x12_1).f1))).heap[gb245]? = some (.cells #[.int .i64 ((rd_T35 l0 x12_1).f0), .int .i64 ((rd_T35 l0 x12_1).f1)] 35 (0, 0))) := ⟨by refine zb ?_; refine blk_put (cs := #[.int .i64 ((rd_T35 l0 x12_1).f0), .int .i64 0]) ?_ 1 _ rfl; refine zb ?_; refine blk_put (cs := #[.int .i64 0, .int .i64 0]) ?_ 0 _ rfl; refine zb ?_; exact BK245.out⟩; have n2_ : Aside0 (Below w.heap.size w ((w15.setCell ⟨gb245, 0, none⟩ (.int .i64 ((rd_T35 l0 x12_1).f0))).setCell ⟨gb245, 1, none⟩ (.int .i64 ((rd_T35 l0 x12_1).f1)))) := ⟨zB2 HB.out GE245.out⟩
          (try clear HO_3)
          (try clear BK245)
          (try clear HB)
          generalize ((w15.setCell ⟨gb245, 0, none⟩ (.int .i64 ((rd_T35 l0 x12_1).f0))).setCell ⟨gb245, 1, none⟩ (.int .i64 ((rd_T35 l0 x12_1).f1))) = w17 at n0_ n1_ n2_ ⊢
          have HO_3 := n0_; have BK245 := n1_; have HB := n2_; clear n0_ n1_ n2_; have n0_ := zQ (Kd.R_drew HO_3.out); have n1_ := zQ (blk_drew BK245.out); have n2_ := zQ (below_drew1 HB.out); clear HO_3; clear BK245; clear HB; have HO_3 := n0_; have BK245 := n1_; have HB := n2_; clear n0_ n1_ n2_
          refine zs (fun w' => w'.cell? ⟨gb245, 0, none⟩ = some (.int .i64 ((rd_T35 l0 x12_1).f0)) ∧ w'.cell? ⟨gb245, 1, none⟩ = some (.int .i64 ((rd_T35 l0 x12_1).f1))) [] 12 ⟨(blk_cell BK245.out 0).trans rfl, (blk_cell BK245.out 1).trans rfl⟩ (fun hHeld => ?_); refine with_tabW impl_SailText.tab7 impl_SailText.bits7 (fun HT_ HW_ => ?_)
          generalize w17.drew = w18 at HO_3 BK245 HB hHeld ⊢
          refine zp 0 16 ?_
          refine zp 1 17 ?_
          refine zp 5 21 ?_
          refine zt 2 18 hHeld ?_
          refine zt 6 22 hHeld ?_
          refine zo 3 (some 19) (fun K hK => ?_)
          refine goes_ Tryd.func18 (by kernel_rfl) rfl #[.int .i64 ((rd_T35 l0 x12_1).f0)] (by rfl) rfl rfl zM ?_
          with_reducible refine (impl_Decimal.calls k1 ((rd_T35 l0 x12_1).f0) t246 _ (HT.out.at_ HB.out) A10.out).mono ?_
          rintro e w19 ⟨rfl, hb⟩
          refine ⟨_, rfl, ?_⟩
          have n0_ := zQ (Kd.R_below (zR HO_3.out) hb); have n1_ := zbl BK245.out hb; have n2_ := zbs2 HB.out GE245.out hb; clear HO_3; clear BK245; clear HB; have HO_3 := n0_; have BK245 := n1_; have HB := n2_; clear n0_ n1_ n2_
          (try clear hb)
          (try clear hb2)
          (try clear hk)
          (try clear hi)
          refine hK.out _ _ ⟨(blk_cell BK245.out 0).trans rfl, (blk_cell BK245.out 1).trans rfl⟩ (fun hHeld => ?_)
          clear hK K
          refine zn 19 ?_
          refine zp 4 20 ?_
          refine zo 7 (some 23) (fun K hK => ?_)
          refine goes_ Tryd.func18 (by kernel_rfl) rfl #[.int .i64 ((rd_T35 l0 x12_1).f1)] (by rfl) rfl rfl zM ?_
          with_reducible refine (impl_Decimal.calls k1 ((rd_T35 l0 x12_1).f1) t247 _ (HT.out.at_ HB.out) A12.out).mono ?_
          rintro e w20 ⟨rfl, hb⟩
          refine ⟨_, rfl, ?_⟩
          have n0_ := zQ (Kd.R_below (zR HO_3.out) hb); have n1_ := zbl BK245.out hb; have n2_ := zbs2 HB.out GE245.out hb; clear HO_3; clear BK245; clear HB; have HO_3 := n0_; have BK245 := n1_; have HB := n2_; clear n0_ n1_ n2_
          (try clear hb)
          (try clear hb2)
          (try clear hk)
          (try clear hi)
          refine hK.out _ _ ⟨(blk_cell BK245.out 0).trans rfl, (blk_cell BK245.out 1).trans rfl⟩ (fun hHeld => ?_)
          clear hK K
          refine zn 23 ?_
          refine zp 8 24 ?_
          refine zo 9 (some 25) (fun K hK => ?_)
          refine value_ (w1 := ?_) (v := ?_) (by rfl) rfl ?_ ?_
          rotate_left 2
          ·go_simp
           constructor
           ·rfl
           ·rfl
          refine hK.out _ _ ⟨(blk_cell (blk_alloc BK245.out _) 0).trans rfl, (blk_cell (blk_alloc BK245.out _) 1).trans rfl⟩ (fun hHeld => ?_)
          clear hK K
          refine zn 25 ?_
          refine zo 10 (some 26) (fun K hK => ?_)
          refine Kd.R_append_step Kd.string (w0 := w) w.heap.size (by rfl) (.tmp 16) (.tmp 25) 38 9 (.string ⟨#[]⟩) 16 rfl Tryd.underlying38 info9 rfl (by decide) (by omega) u3 x3_1 ((t246 ++ (⟨#[44]⟩ : ByteArray)) ++ t247) [.string ((t246 ++ (⟨#[44]⟩ : ByteArray)) ++ t247)] (fun _ => True) (fun _ => False) rfl rfl ?aP (fun _ hk => hk.elim) ?aF ?aO ?aB ?aS ?aL ?_
          (case aP => exact rfl)
          (case aB => exact (zB2 HB.out GE245.out))
          (case aF => exact (fun _ _ => trivial))
          (case aO => exact (zR HO_3.out))
          (case aS => exact (below_size (zB2 HB.out GE245.out)))
          (case aL => have := LMc14.out; omega)
          intro v249 w21 ho hb hg hat
          rw [← Ny248.out] at ho; have n0_ := zQ (blk_grown (g := gb245) (o := .cells #[.int .i64 ((rd_T35 l0 x12_1).f0), .int .i64 ((rd_T35 l0 x12_1).f1)] 35 (0, 0)) (zb BK245.out) hg (Kd.R_ne HO_3.out BK245.out (by decide))); have n1_ := zQ (hb); have n2_ := zQ (ho); clear BK245; clear HB; clear HO_3; have BK245 := n0_; have HB := n1_; have HO250 := n2_; clear n0_ n1_ n2_; clear ho hb hg hat
          refine hK.out _ _ ⟨(blk_cell BK245.out 0).trans rfl, (blk_cell BK245.out 1).trans rfl⟩ (fun hHeld => ?_)
          clear hK K
          refine zn 26 ?_
          refine zp 11 3 ?_
          refine done_ (done_of HT_.out (by kernel_rfl)) ?_
          try go_wp2
          go_roundg k1
          case measure => have := HK1.out; omega
          case rel => exact ⟨(y248), (wrap64 (x12_1 + 1)), (zF), H', ⟨by have := HK1.out; omega⟩, ⟨zR HO250.out⟩, ⟨zB2 HB.out GE245.out⟩⟩
         ·rw [if_neg c14] at H
          exact absurd H (by simp)
        ·rw [if_neg c13] at H
         exact absurd H (by simp)
       ·rw [if_neg c11] at H
        exact absurd H (by simp)
      ·rw [if_neg c9] at H
       exact absurd H (by simp)
     ·rw [if_neg c8] at H
      exact absurd H (by simp)
    ·rw [if_neg c7] at H
     have c7b0 : decide (x12_1 < (l0.length : Int)) = false := decide_eq_false c7; clear c7; replace H := Option.bind_eq_some_iff.mp H; obtain ⟨t251, A220, H⟩ := H; replace H : (some t251) = some r := H; have A22 := zQ A220; clear A220; obtain rfl := Option.some.inj H; obtain ⟨Ao23, co23, eo23⟩ := Kd.R_slice HO_3.out; subst eo23
     go_wp2_with (first | ((with_reducible refine zgc 19 ?_); refine goesL_ (some 29) rfl rfl Tryd.func19 (by kernel_rfl) rfl #[.slice Ao23 x3_1.length co23, .string (⟨#[32]⟩ : ByteArray)] rfl zM ?_; (with_reducible refine (strings_Join.calls k1 _ _ x3_1 (⟨#[32]⟩ : ByteArray) t251 _ ?side1 ((Kd.R_reads' HO_3.out).2.1) A22.out).mono ?_); (case side1 => repeat (first | exact ⟨_, _, HO_3.out⟩ | exact ⟨_, _, (by (with_reducible repeat (first | apply Kd.R_alloc | apply Kd.R_drewN | apply Kd.R_drew)); exact HO_3.out)⟩ | (with_reducible refine Kd.C_alloc ?_ _) | (with_reducible refine Kd.C_drewN ?_ _) | (with_reducible refine Kd.C_drew ?_))); rintro e w24 ⟨rfl, hb⟩; refine ⟨_, rfl, ?_⟩; replace HO_3 := zQ (Kd.R_below (zR HO_3.out) hb); replace HB := zbs HB.out hb; (try clear hb)))
     go_ret
     exact ⟨zE, zB HB.out⟩
 ·replace c3 := Bool.eq_false_iff.mpr c3
  subst c3
  have H1 : (some (⟨#[]⟩ : ByteArray)) = some r := by rw [if_neg (show ¬ (false = true) by decide)] at H; exact H
  clear H; have H := H1; clear H1; obtain rfl := Option.some.inj H
  go_enter Tryd.func8, Tryd.ntmps8
  go_wp2_with (first | ((with_reducible refine zgc 17 ?_); refine goesL_ (some 7) rfl rfl Tryd.func17 (by kernel_rfl) rfl #[.slice A0 l0.length c0] rfl zM ?_; (with_reducible refine (impl_ValidSail.calls k _ _ l0 false _ ?side1 HC0.out A2.out).mono ?_); (case side1 => repeat (first | exact HR0.out | (with_reducible refine Kd.C_alloc ?_ _) | (with_reducible refine Kd.C_drewN ?_ _) | (with_reducible refine Kd.C_drew ?_))); rintro e w25 ⟨rfl, hb⟩; refine ⟨_, rfl, ?_⟩; replace HB := zbs HB.out hb; (try clear hb)))
  go_ret
  exact ⟨zE, zB HB.out⟩

/-! ### laws_eqSpot: function 20 -/
def laws_eqSpot.f (a0_0 : Int) (a0_1 : Int) (a1_0 : Int) (a1_1 : Int) : Option (Bool) := if a0_0 = a1_0 then (if a0_1 = a1_1 then (some true) else (some false)) else (some false)
set_option maxHeartbeats 8000000 in
set_option maxRecDepth 100000 in
theorem laws_eqSpot.calls (a0_0 : Int) (a0_1 : Int) (a1_0 : Int) (a1_1 : Int) (r : Bool) (w : World) (h : laws_eqSpot.f a0_0 a0_1 a1_0 a1_1 = some r) :
  Calls Tryd.prog 20 #[.agg #[.int .i64 a0_0, .int .i64 a0_1], .agg #[.int .i64 a1_0, .int .i64 a1_1]] w fun e w' => e = .returned (.bool r) ∧ Below w.heap.size w w' := by
 have hu35 := Tryd.underlying35
 have HB := zQ (Below.refl w.heap.size w)
 have H : (if a0_0 = a1_0 then (if a0_1 = a1_1 then (some true) else (some false)) else (some false)) = some r := h
 clear h
 by_cases c3 : a0_0 = a1_0
 ·rw [if_pos c3] at H
  have c3b0 : (a0_0 == a1_0) = true := beq_iff_eq.mpr c3; have c3b1 : (a0_0 != a1_0) = false := bne_eq_false_iff_eq.mpr c3; clear c3
  by_cases c4 : a0_1 = a1_1
  ·rw [if_pos c4] at H
   have c4b0 : (a0_1 == a1_1) = true := beq_iff_eq.mpr c4; have c4b1 : (a0_1 != a1_1) = false := bne_eq_false_iff_eq.mpr c4; clear c4; obtain rfl := Option.some.inj H
   go_enter Tryd.func20, Tryd.ntmps20
   go_wp2_with (first | ((with_reducible refine zd 2 ?_); refine zbx (N := 2) (cs := #[.int .i64 a0_0, .int .i64 a0_1]) (t := 35) ?_; intro gb252 hg w5 hbox hb; have BK252 := zQ (hbox); have GW252 := zgz hg HB.out; have GE252 := GW252; replace HB := zbs HB.out hb; clear hb hbox hg) | ((with_reducible refine zd 3 ?_); refine zbx (N := 3) (cs := #[.int .i64 a1_0, .int .i64 a1_1]) (t := 35) ?_; intro gb253 hg w6 hbox hb; have BK253 := zQ (hbox); have GW253 := zgz2 hg HB.out GE252.out; have GE253 := GW253; have NB252_253 := zQ ((by rw [hg]; exact Nat.ne_of_lt (blk_lt (g := gb252) (o := .cells #[.int .i64 a0_0, .int .i64 a0_1] 35 (0, 0)) (zb BK252.out)) : gb252 ≠ gb253)); have NB253_252 := zQ ((by rw [hg]; exact Nat.ne_of_gt (blk_lt (g := gb252) (o := .cells #[.int .i64 a0_0, .int .i64 a0_1] 35 (0, 0)) (zb BK252.out)) : gb253 ≠ gb252)); replace BK252 := zbl BK252.out hb; replace HB := zbs2 HB.out GE252.out hb; clear hb hbox hg; have hnb7 := NB252_253.out; have hnc7 := NB253_252.out; have hcz8_0 := zc0 BK252.out; have hcz8_1 := zc1 BK252.out; have hfz8_0 := zfz BK252.out 0; have hfz8_1 := zfz BK252.out 1; have hcz9_0 := zc0 BK253.out; have hcz9_1 := zc1 BK253.out; have hfz9_0 := zfz BK253.out 0; have hfz9_1 := zfz BK253.out 1))
   go_ret
   exact ⟨zE, zB3 HB.out GE252.out GE253.out⟩
  ·rw [if_neg c4] at H
   have c4b0 : (a0_1 == a1_1) = false := beq_eq_false_iff_ne.mpr c4; have c4b1 : (a0_1 != a1_1) = true := bne_iff_ne.mpr c4; obtain rfl := Option.some.inj H
   go_enter Tryd.func20, Tryd.ntmps20
   go_wp2_with (first | ((with_reducible refine zd 2 ?_); refine zbx (N := 2) (cs := #[.int .i64 a0_0, .int .i64 a0_1]) (t := 35) ?_; intro gb252 hg w10 hbox hb; have BK252 := zQ (hbox); have GW252 := zgz hg HB.out; have GE252 := GW252; replace HB := zbs HB.out hb; clear hb hbox hg) | ((with_reducible refine zd 3 ?_); refine zbx (N := 3) (cs := #[.int .i64 a1_0, .int .i64 a1_1]) (t := 35) ?_; intro gb253 hg w11 hbox hb; have BK253 := zQ (hbox); have GW253 := zgz2 hg HB.out GE252.out; have GE253 := GW253; have NB252_253 := zQ ((by rw [hg]; exact Nat.ne_of_lt (blk_lt (g := gb252) (o := .cells #[.int .i64 a0_0, .int .i64 a0_1] 35 (0, 0)) (zb BK252.out)) : gb252 ≠ gb253)); have NB253_252 := zQ ((by rw [hg]; exact Nat.ne_of_gt (blk_lt (g := gb252) (o := .cells #[.int .i64 a0_0, .int .i64 a0_1] 35 (0, 0)) (zb BK252.out)) : gb253 ≠ gb252)); replace BK252 := zbl BK252.out hb; replace HB := zbs2 HB.out GE252.out hb; clear hb hbox hg; have hnb12 := NB252_253.out; have hnc12 := NB253_252.out; have hcz13_0 := zc0 BK252.out; have hcz13_1 := zc1 BK252.out; have hfz13_0 := zfz BK252.out 0; have hfz13_1 := zfz BK252.out 1; have hcz14_0 := zc0 BK253.out; have hcz14_1 := zc1 BK253.out; have hfz14_0 := zfz BK253.out 0; have hfz14_1 := zfz BK253.out 1))
   go_ret
   exact ⟨zE, zB3 HB.out GE252.out GE253.out⟩
 ·rw [if_neg c3] at H
  have c3b0 : (a0_0 == a1_0) = false := beq_eq_false_iff_ne.mpr c3; have c3b1 : (a0_0 != a1_0) = true := bne_iff_ne.mpr c3; obtain rfl := Option.some.inj H
  go_enter Tryd.func20, Tryd.ntmps20
  go_wp2_with (first | ((with_reducible refine zd 2 ?_); refine zbx (N := 2) (cs := #[.int .i64 a0_0, .int .i64 a0_1]) (t := 35) ?_; intro gb252 hg w15 hbox hb; have BK252 := zQ (hbox); have GW252 := zgz hg HB.out; have GE252 := GW252; replace HB := zbs HB.out hb; clear hb hbox hg) | ((with_reducible refine zd 3 ?_); refine zbx (N := 3) (cs := #[.int .i64 a1_0, .int .i64 a1_1]) (t := 35) ?_; intro gb253 hg w16 hbox hb; have BK253 := zQ (hbox); have GW253 := zgz2 hg HB.out GE252.out; have GE253 := GW253; have NB252_253 := zQ ((by rw [hg]; exact Nat.ne_of_lt (blk_lt (g := gb252) (o := .cells #[.int .i64 a0_0, .int .i64 a0_1] 35 (0, 0)) (zb BK252.out)) : gb252 ≠ gb253)); have NB253_252 := zQ ((by rw [hg]; exact Nat.ne_of_gt (blk_lt (g := gb252) (o := .cells #[.int .i64 a0_0, .int .i64 a0_1] 35 (0, 0)) (zb BK252.out)) : gb253 ≠ gb252)); replace BK252 := zbl BK252.out hb; replace HB := zbs2 HB.out GE252.out hb; clear hb hbox hg; have hnb17 := NB252_253.out; have hnc17 := NB253_252.out; have hcz18_0 := zc0 BK252.out; have hcz18_1 := zc1 BK252.out; have hfz18_0 := zfz BK252.out 0; have hfz18_1 := zfz BK252.out 1; have hcz19_0 := zc0 BK253.out; have hcz19_1 := zc1 BK253.out; have hfz19_0 := zfz BK253.out 0; have hfz19_1 := zfz BK253.out 1))
  go_ret
  exact ⟨zE, zB3 HB.out GE252.out GE253.out⟩

/-! ### laws_eqSpotS: function 9 -/
def laws_eqSpotS.l0 : Nat → List (S35) → List (S35) → Int → Option (Bool)
 | 0, _, _, _ => none
 | k + 1, x0, x1, x5 => if x5 < (x0.length : Int) then (if 0 ≤ x5 then (if x5 < (x1.length : Int) then ((laws_eqSpot.f ((rd_T35 x0 x5).f0) ((rd_T35 x0 x5).f1) ((rd_T35 x1 x5).f0) ((rd_T35 x1 x5).f1)).bind fun t256 => (if t256 = true then (laws_eqSpotS.l0 k x0 x1 (wrap64 (x5 + 1))) else (some false))) else (none)) else (none)) else (some true)
def laws_eqSpotS.f (k : Nat) (l0 : List (S35)) (l1 : List (S35)) : Option (Bool) := if (l0.length : Int) = (l1.length : Int) then (laws_eqSpotS.l0 k l0 l1 0) else (some false)
theorem laws_eqSpotS.mono_l : ∀ k, (∀ y0 y1 y2, LeO (laws_eqSpotS.l0 k y0 y1 y2) (laws_eqSpotS.l0 (k + 1) y0 y1 y2))
 | 0 => fun _ _ _ r h => by simp [laws_eqSpotS.l0] at h
 | k + 1 => by
  have ih0 := laws_eqSpotS.mono_l k
  ·intro y0 y1 y2
   unfold laws_eqSpotS.l0
   (with_reducible repeat' first | apply ih0 | apply LeO.refl | apply LeO.none | refine LeO.ite ?_ ?_ | refine LeO.bind ?_ (fun _ => ?_))
   repeat' first | apply ih0 | apply LeO.none | refine LeO.ite ?_ ?_ | refine LeO.bind ?_ (fun _ => ?_)
theorem laws_eqSpotS.mono : ∀ a0 a1 k, LeO (laws_eqSpotS.f k a0 a1) (laws_eqSpotS.f (k + 1) a0 a1) := by
 intro a0 a1 k
 have ih0 := laws_eqSpotS.mono_l k
 unfold laws_eqSpotS.f
 (with_reducible repeat' first | apply ih0 | apply LeO.refl | apply LeO.none | refine LeO.ite ?_ ?_ | refine LeO.bind ?_ (fun _ => ?_))
 repeat' first | apply ih0 | apply LeO.none | refine LeO.ite ?_ ?_ | refine LeO.bind ?_ (fun _ => ?_)
def laws_eqSpotS.T6 : Bool × List (List Nat × List Nat) := (true, [([], []), ([], []), ([0, 1], [0, 1]), ([2], [2]), ([], []), ([], []), ([4, 5], [4, 5]), ([6], [6]), ([3, 7], [3, 7]), ([8], [8])])
def laws_eqSpotS.B6 : List Nat := [0, 0, 3, 7, 0, 0, 48, 112, 255, 511]
theorem laws_eqSpotS.tab6 : rtab .any (opsOf Tryd.f9 6) = laws_eqSpotS.T6 := by kernel_rfl
theorem laws_eqSpotS.bits6 : waitsOk laws_eqSpotS.T6.2 laws_eqSpotS.B6 = true := by kernel_rfl
set_option maxHeartbeats 8000000 in
set_option maxRecDepth 100000 in
theorem laws_eqSpotS.calls (k : Nat) (A0 : Option Addr) (c0 : Nat) (l0 : List (S35)) (A1 : Option Addr) (c1 : Nat) (l1 : List (S35)) (r : Bool) (w : World) (hr0 : Kd.C k35 w A0 l0.length l0) (hc0 : l0.length ≤ c0) (hr1 : Kd.C k35 w A1 l1.length l1) (hc1 : l1.length ≤ c1) (h : laws_eqSpotS.f k l0 l1 = some r) :
  Calls Tryd.prog 9 #[.slice A0 l0.length c0, .slice A1 l1.length c1] w fun e w' => e = .returned (.bool r) ∧ Below w.heap.size w w' := by
 have hu35 := Tryd.underlying35
 have HR0 := zQ hr0
 have HC0 := zQ hc0
 clear hr0 hc0
 have HR1 := zQ hr1
 have HC1 := zQ hc1
 clear hr1 hc1
 have HB := zQ (Below.refl w.heap.size w)
 have H : (if (l0.length : Int) = (l1.length : Int) then (laws_eqSpotS.l0 k l0 l1 0) else (some false)) = some r := h
 clear h
 by_cases c3 : (l0.length : Int) = (l1.length : Int)
 ·rw [if_pos c3] at H
  have c3b0 : ((l0.length : Int) == (l1.length : Int)) = true := beq_iff_eq.mpr c3; have c3b1 : ((l0.length : Int) != (l1.length : Int)) = false := bne_eq_false_iff_eq.mpr c3
  have c3b2 : (l0.length == l1.length) = true := by first | simpa using c3 | (simp at c3 ⊢; omega)
  clear c3; have H' := zQ H; clear H
  go_enter Tryd.func9, Tryd.ntmps9
  go_wp2
  go_loopg [5] k (fun kq v5 w' => ∃ (x5_1 : Int), v5 = .int .i64 x5_1 ∧ Aside0 (laws_eqSpotS.l0 kq l0 l1 x5_1 = some r) ∧ Aside0 (kq ≤ k) ∧ Aside0 (Below w.heap.size w w'))
  case atStart => exact ⟨(0), (zF), H', ⟨Nat.le_refl _⟩, ⟨zB HB.out⟩⟩
  case round =>
   clear H'; (try clear c1); (try clear p2); (try clear c3); (try clear c3b0); (try clear c3b1); (try clear c3b2); obtain ⟨x5_1, rfl, HA, HK1, HB⟩ := hrel
   cases gk with
   | zero => exact absurd HA.out (by simp [laws_eqSpotS.l0])
   | succ k1 =>
    have H := HA.out; clear HA
    simp only [laws_eqSpotS.l0] at H
    by_cases c4 : x5_1 < (l0.length : Int)
    ·rw [if_pos c4] at H
     have c4b0 : decide (x5_1 < (l0.length : Int)) = true := decide_eq_true c4; clear c4
     by_cases c5 : 0 ≤ x5_1
     ·rw [if_pos c5] at H
      have c5b0 : decide (0 ≤ x5_1) = true := decide_eq_true c5; clear c5
      by_cases c6 : x5_1 < (l1.length : Int)
      ·rw [if_pos c6] at H
       have c6b0 : decide (x5_1 < (l1.length : Int)) = true := decide_eq_true c6; clear c6; replace H := Option.bind_eq_some_iff.mp H; obtain ⟨t256, A70, H⟩ := H; replace H : (if t256 = true then (laws_eqSpotS.l0 k1 l0 l1 (wrap64 (x5_1 + 1))) else (some false)) = some r := H; have A7 := zQ A70; clear A70
       by_cases c8 : t256 = true
       ·subst c8
        have H1 : (laws_eqSpotS.l0 k1 l0 l1 (wrap64 (x5_1 + 1))) = some r := by rw [if_pos rfl] at H; exact H
        clear H; have H := H1; clear H1; have H' := zQ H; clear H
        try go_wp2
        have n0_ := zQ (below_drew1 HB.out); clear HB; have HB := n0_; clear n0_; have p254 : 0 ≤ (x5_1 : Int) := of_decide_eq_true zA; have q254 : x5_1 < (l0.length : Int) := of_decide_eq_true zA; obtain ⟨ad254, e254, hx254_0, hx254_1⟩ := at_T35 HR0.out x5_1 p254 q254; have hw254_1 := hx254_1; have hw254_0 := hx254_0
        cases e254
        replace hx254_0 := zw HB.out hx254_0; replace hx254_1 := zw HB.out hx254_1; replace p254 := eq_true p254; replace q254 := eq_true q254; have p255 : 0 ≤ (x5_1 : Int) := of_decide_eq_true zA; have q255 : x5_1 < (l1.length : Int) := of_decide_eq_true zA; obtain ⟨ad255, e255, hx255_0, hx255_1⟩ := at_T35 HR1.out x5_1 p255 q255; have hw255_1 := hx255_1; have hw255_0 := hx255_0
        cases e255
        replace hx255_0 := zw HB.out hx255_0; replace hx255_1 := zw HB.out hx255_1; replace p255 := eq_true p255; replace q255 := eq_true q255
        refine zs (fun w' => w'.cell? (ad254.add ((x5_1).toNat * 2)) = some (.int .i64 ((rd_T35 l0 x5_1).f0)) ∧ w'.cell? ⟨(ad254.add ((x5_1).toNat * 2)).block, (ad254.add ((x5_1).toNat * 2)).off + 1, none⟩ = some (.int .i64 ((rd_T35 l0 x5_1).f1)) ∧ w'.cell? (ad255.add ((x5_1).toNat * 2)) = some (.int .i64 ((rd_T35 l1 x5_1).f0)) ∧ w'.cell? ⟨(ad255.add ((x5_1).toNat * 2)).block, (ad255.add ((x5_1).toNat * 2)).off + 1, none⟩ = some (.int .i64 ((rd_T35 l1 x5_1).f1))) [] 10 ⟨((HB.out.cell (World.block_lt_of_cell? w _ hw254_0)).trans hw254_0), ((HB.out.cell (World.block_lt_of_cell? w _ hw254_1)).trans hw254_1), ((HB.out.cell (World.block_lt_of_cell? w _ hw255_0)).trans hw255_0), ((HB.out.cell (World.block_lt_of_cell? w _ hw255_1)).trans hw255_1)⟩ (fun hHeld => ?_); refine with_tabW laws_eqSpotS.tab6 laws_eqSpotS.bits6 (fun HT_ HW_ => ?_)
        generalize wr.drew = w9 at HB hx254_0 hx254_1 hx255_0 hx255_1 hHeld ⊢
        refine zp 0 17 ?_
        refine zp 1 18 ?_
        refine zp 2 19 ?_
        refine zp 4 21 ?_
        refine zp 5 22 ?_
        refine zp 6 23 ?_
        refine zt 3 20 hHeld ?_
        refine zt 7 24 hHeld ?_
        refine zo 8 (some 25) (fun K hK => ?_)
        refine goes_ Tryd.func20 (by kernel_rfl) rfl #[.agg #[.int .i64 ((rd_T35 l0 x5_1).f0), .int .i64 ((rd_T35 l0 x5_1).f1)], .agg #[.int .i64 ((rd_T35 l1 x5_1).f0), .int .i64 ((rd_T35 l1 x5_1).f1)]] (by rfl) rfl rfl zM ?_
        with_reducible refine (laws_eqSpot.calls ((rd_T35 l0 x5_1).f0) ((rd_T35 l0 x5_1).f1) ((rd_T35 l1 x5_1).f0) ((rd_T35 l1 x5_1).f1) true _ A7.out).mono ?_
        rintro e w10 ⟨rfl, hb⟩
        refine ⟨_, rfl, ?_⟩
        have n0_ := zbs HB.out hb; clear HB; have HB := n0_; clear n0_
        (try clear hb)
        (try clear hb2)
        (try clear hk)
        (try clear hi)
        refine hK.out _ _ ⟨((HB.out.cell (World.block_lt_of_cell? w _ hw254_0)).trans hw254_0), ((HB.out.cell (World.block_lt_of_cell? w _ hw254_1)).trans hw254_1), ((HB.out.cell (World.block_lt_of_cell? w _ hw255_0)).trans hw255_0), ((HB.out.cell (World.block_lt_of_cell? w _ hw255_1)).trans hw255_1)⟩ (fun hHeld => ?_)
        clear hK K
        refine zn 25 ?_
        refine zp 9 26 ?_
        refine done_ (done_of HT_.out (by kernel_rfl)) ?_
        try go_wp2
        go_roundg k1
        case measure => have := HK1.out; omega
        case rel => exact ⟨(wrap64 (x5_1 + 1)), (zF), H', ⟨by have := HK1.out; omega⟩, ⟨zB HB.out⟩⟩
       ·replace c8 := Bool.eq_false_iff.mpr c8
        subst c8
        have H1 : (some false) = some r := by rw [if_neg (show ¬ (false = true) by decide)] at H; exact H
        clear H; have H := H1; clear H1; obtain rfl := Option.some.inj H
        try go_wp2
        have n0_ := zQ (below_drew1 HB.out); clear HB; have HB := n0_; clear n0_; have p254 : 0 ≤ (x5_1 : Int) := of_decide_eq_true zA; have q254 : x5_1 < (l0.length : Int) := of_decide_eq_true zA; obtain ⟨ad254, e254, hx254_0, hx254_1⟩ := at_T35 HR0.out x5_1 p254 q254; have hw254_1 := hx254_1; have hw254_0 := hx254_0
        cases e254
        replace hx254_0 := zw HB.out hx254_0; replace hx254_1 := zw HB.out hx254_1; replace p254 := eq_true p254; replace q254 := eq_true q254; have p255 : 0 ≤ (x5_1 : Int) := of_decide_eq_true zA; have q255 : x5_1 < (l1.length : Int) := of_decide_eq_true zA; obtain ⟨ad255, e255, hx255_0, hx255_1⟩ := at_T35 HR1.out x5_1 p255 q255; have hw255_1 := hx255_1; have hw255_0 := hx255_0
        cases e255
        replace hx255_0 := zw HB.out hx255_0; replace hx255_1 := zw HB.out hx255_1; replace p255 := eq_true p255; replace q255 := eq_true q255
        refine zs (fun w' => w'.cell? (ad254.add ((x5_1).toNat * 2)) = some (.int .i64 ((rd_T35 l0 x5_1).f0)) ∧ w'.cell? ⟨(ad254.add ((x5_1).toNat * 2)).block, (ad254.add ((x5_1).toNat * 2)).off + 1, none⟩ = some (.int .i64 ((rd_T35 l0 x5_1).f1)) ∧ w'.cell? (ad255.add ((x5_1).toNat * 2)) = some (.int .i64 ((rd_T35 l1 x5_1).f0)) ∧ w'.cell? ⟨(ad255.add ((x5_1).toNat * 2)).block, (ad255.add ((x5_1).toNat * 2)).off + 1, none⟩ = some (.int .i64 ((rd_T35 l1 x5_1).f1))) [] 10 ⟨((HB.out.cell (World.block_lt_of_cell? w _ hw254_0)).trans hw254_0), ((HB.out.cell (World.block_lt_of_cell? w _ hw254_1)).trans hw254_1), ((HB.out.cell (World.block_lt_of_cell? w _ hw255_0)).trans hw255_0), ((HB.out.cell (World.block_lt_of_cell? w _ hw255_1)).trans hw255_1)⟩ (fun hHeld => ?_); refine with_tabW laws_eqSpotS.tab6 laws_eqSpotS.bits6 (fun HT_ HW_ => ?_)
        generalize wr.drew = w11 at HB hx254_0 hx254_1 hx255_0 hx255_1 hHeld ⊢
        refine zp 0 17 ?_
        refine zp 1 18 ?_
        refine zp 2 19 ?_
        refine zp 4 21 ?_
        refine zp 5 22 ?_
        refine zp 6 23 ?_
        refine zt 3 20 hHeld ?_
        refine zt 7 24 hHeld ?_
        refine zo 8 (some 25) (fun K hK => ?_)
        refine goes_ Tryd.func20 (by kernel_rfl) rfl #[.agg #[.int .i64 ((rd_T35 l0 x5_1).f0), .int .i64 ((rd_T35 l0 x5_1).f1)], .agg #[.int .i64 ((rd_T35 l1 x5_1).f0), .int .i64 ((rd_T35 l1 x5_1).f1)]] (by rfl) rfl rfl zM ?_
        with_reducible refine (laws_eqSpot.calls ((rd_T35 l0 x5_1).f0) ((rd_T35 l0 x5_1).f1) ((rd_T35 l1 x5_1).f0) ((rd_T35 l1 x5_1).f1) false _ A7.out).mono ?_
        rintro e w12 ⟨rfl, hb⟩
        refine ⟨_, rfl, ?_⟩
        have n0_ := zbs HB.out hb; clear HB; have HB := n0_; clear n0_
        (try clear hb)
        (try clear hb2)
        (try clear hk)
        (try clear hi)
        refine hK.out _ _ ⟨((HB.out.cell (World.block_lt_of_cell? w _ hw254_0)).trans hw254_0), ((HB.out.cell (World.block_lt_of_cell? w _ hw254_1)).trans hw254_1), ((HB.out.cell (World.block_lt_of_cell? w _ hw255_0)).trans hw255_0), ((HB.out.cell (World.block_lt_of_cell? w _ hw255_1)).trans hw255_1)⟩ (fun hHeld => ?_)
        clear hK K
        refine zn 25 ?_
        refine zp 9 26 ?_
        refine done_ (done_of HT_.out (by kernel_rfl)) ?_
        try go_wp2
        go_ret
        exact ⟨zE, zB HB.out⟩
      ·rw [if_neg c6] at H
       exact absurd H (by simp)
     ·rw [if_neg c5] at H
      exact absurd H (by simp)
    ·rw [if_neg c4] at H
     have c4b0 : decide (x5_1 < (l0.length : Int)) = false := decide_eq_false c4; clear c4; obtain rfl := Option.some.inj H
     go_wp2
     go_ret
     exact ⟨zE, zB HB.out⟩
 ·rw [if_neg c3] at H
  have c3b0 : ((l0.length : Int) == (l1.length : Int)) = false := beq_eq_false_iff_ne.mpr c3; have c3b1 : ((l0.length : Int) != (l1.length : Int)) = true := bne_iff_ne.mpr c3
  have c3b2 : (l0.length == l1.length) = false := by first | simpa using c3 | (simp at c3 ⊢; omega)
  obtain rfl := Option.some.inj H
  go_enter Tryd.func9, Tryd.ntmps9
  go_wp2
  go_ret
  exact ⟨zE, zB HB.out⟩

end
end Go.Proofs.YtchngbjpjbahiaaDoor.PFnExactSailText
