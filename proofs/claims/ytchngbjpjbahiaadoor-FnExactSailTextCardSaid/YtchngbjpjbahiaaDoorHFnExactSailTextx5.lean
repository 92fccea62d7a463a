/- The walks of the functions that the law reaches: each computes what its Lean function says. No condition beyond each contract's own. -/
import Derived.Test.YtchngbjpjbahiaaDoorHFnExactSailTextx0
import Derived.Test.YtchngbjpjbahiaaDoorHFnExactSailTextx4
namespace Go.Proofs.YtchngbjpjbahiaaDoor.PFnExactSailText
open Go.RowKit Go.Proofs.YtchngbjpjbahiaaDoorW.PrintWords Go.Proofs.YtchngbjpjbahiaaDoorW.PrintLast Go.Proofs.YtchngbjpjbahiaaDoorW.PrintMore
attribute [local go_sem] max2_int min2_int max_two min_two max_three min_three max_four min_four   -- for this text's walks alone
set_option linter.unusedVariables false
set_option linter.unusedSimpArgs false

/-! ### spec_l01Dec: function 30 -/
def spec_l01Dec.l0 : Nat → Int → List Int → Int → Option (ByteArray)
 | 0, _, _, _ => none
 | k + 1, x0, x3, x4 => if x4 = 0 then (if (x3.length : Int) = 0 then (some (⟨#[48]⟩ : ByteArray)) else (if x0 < 0 then (if 1 + (strOfNums x3).size ≤ 9223372036854775807 then (some ((⟨#[45]⟩ : ByteArray) ++ (strOfNums x3))) else (none)) else (some (strOfNums x3)))) else (if (Int.tmod x4 10) < 0 then ((some (([(wrap64 (48 + (wrap64 (-(Int.tmod x4 10))))) % 256] : List Int) : List Int)).bind fun y155 => (if y155.length + x3.length < 140737488355328 then (spec_l01Dec.l0 k x0 (y155 ++ x3) (wrap64 (Int.tdiv x4 10))) else (none))) else ((some (([(wrap64 (48 + (Int.tmod x4 10))) % 256] : List Int) : List Int)).bind fun y161 => (if y161.length + x3.length < 140737488355328 then (spec_l01Dec.l0 k x0 (y161 ++ x3) (wrap64 (Int.tdiv x4 10))) else (none))))
def spec_l01Dec.f (k : Nat) (a0 : Int) : Option (ByteArray) := spec_l01Dec.l0 k a0 (([] : List Int)) a0
theorem spec_l01Dec.mono_l : ∀ k, (∀ y0 y1 y2, LeO (spec_l01Dec.l0 k y0 y1 y2) (spec_l01Dec.l0 (k + 1) y0 y1 y2))
 | 0 => fun _ _ _ r h => by simp [spec_l01Dec.l0] at h
 | k + 1 => by
  have ih0 := spec_l01Dec.mono_l k
  ·intro y0 y1 y2
   unfold spec_l01Dec.l0
   (with_reducible repeat' first | apply ih0 | apply LeO.refl | apply LeO.none | refine LeO.ite ?_ ?_ | refine LeO.bind ?_ (fun _ => ?_))
   repeat' first | apply ih0 | apply LeO.none | refine LeO.ite ?_ ?_ | refine LeO.bind ?_ (fun _ => ?_)
theorem spec_l01Dec.mono : ∀ a0 k, LeO (spec_l01Dec.f k a0) (spec_l01Dec.f (k + 1) a0) := by
 intro a0 k
 have ih0 := spec_l01Dec.mono_l k
 unfold spec_l01Dec.f
 (with_reducible repeat' first | apply ih0 | apply LeO.refl | apply LeO.none | refine LeO.ite ?_ ?_ | refine LeO.bind ?_ (fun _ => ?_))
 repeat' first | apply ih0 | apply LeO.none | refine LeO.ite ?_ ?_ | refine LeO.bind ?_ (fun _ => ?_)
set_option maxHeartbeats 8000000 in
set_option maxRecDepth 100000 in
theorem spec_l01Dec.calls (k : Nat) (a0 : Int) (r : ByteArray) (w : World) (h : spec_l01Dec.f k a0 = some r) :
  Calls Tryd.prog 30 #[.int .i64 a0] w fun e w' => e = .returned (.string r) ∧ Below w.heap.size w w' := by
 have HB := zQ (Below.refl w.heap.size w)
 have H : (spec_l01Dec.l0 k a0 (([] : List Int)) a0) = some r := h
 clear h
 obtain ⟨y152, hy152⟩ : ∃ y_ : List Int, y_ = (([] : List Int)) := ⟨_, rfl⟩
 replace H : (spec_l01Dec.l0 k a0 y152 a0) = some r := zh H
 have Ny152 := zQ hy152
 clear hy152
 have H' := zQ H
 clear H
 go_enter Tryd.func30, Tryd.ntmps30
 go_wp2_with (first | ((with_reducible refine zd 6 ?_); refine Kd.R_lit (Kd.int .u8) _ 5 ?hg (N := 6) ?hd (xs := ([] : List Int)) (inner := []) (ok := fun _ => True) (okp := fun _ => True) ?hr ?hp (fun _ hk => hk) trivial (Below.refl _ _) (Nat.le_refl _) (by simp) ?_; (case hd => rfl); (case hg => rfl); (case hr => first | (go_simp; done) | (go_simp; rfl)); (case hp => exact (Reps.none _ _)); intro v153 w2 ho3 hb hg_ hnew_; clear hg_ hnew_; (first | rw [← Ny152.out] at ho3 | (simp only [Int.reduceToNat] at ho3; rw [← Ny152.out] at ho3)); have HO154 := zQ (Kd.R_lower ho3 (below_size (zB HB.out))); replace HB := zbs HB.out hb; clear hb ho3))
 go_loopg [3, 4] k (fun kq v3 v4 w' => ∃ (x3_1 : List Int) (x4_1 : Int), v4 = .int .i64 x4_1 ∧ Aside0 (spec_l01Dec.l0 kq a0 x3_1 x4_1 = some r) ∧ Aside0 (kq ≤ k) ∧ Aside0 (Kd.R (Kd.int .u8) 5 w' w.heap.size (fun _ => True) v3 x3_1) ∧ Aside0 (Below w.heap.size w w'))
 case atStart => exact ⟨(y152), (a0), (zF), H', ⟨Nat.le_refl _⟩, ⟨zR HO154.out⟩, ⟨zB HB.out⟩⟩
 case round =>
  clear H'; (try clear p2); (try clear c3); obtain ⟨x3_1, x4_1, rfl, HA, HK1, HO_3, HB⟩ := hrel
  cases gk with
  | zero => exact absurd HA.out (by simp [spec_l01Dec.l0])
  | succ k1 =>
   have H := HA.out; clear HA
   simp only [spec_l01Dec.l0] at H
   by_cases c4 : x4_1 = 0
   ·rw [if_pos c4] at H
    have c4b0 : (x4_1 == 0) = true := beq_iff_eq.mpr c4; have c4b1 : (x4_1 != 0) = false := bne_eq_false_iff_eq.mpr c4; clear c4
    by_cases c5 : (x3_1.length : Int) = 0
    ·rw [if_pos c5] at H
     have c5b0 : ((x3_1.length : Int) == 0) = true := beq_iff_eq.mpr c5; have c5b1 : ((x3_1.length : Int) != 0) = false := bne_eq_false_iff_eq.mpr c5; clear c5; obtain rfl := Option.some.inj H; obtain ⟨Ao6, co6, eo6⟩ := Kd.R_slice HO_3.out; subst eo6
     go_wp2
     go_ret
     exact ⟨zE, zB HB.out⟩
    ·rw [if_neg c5] at H
     have c5b0 : ((x3_1.length : Int) == 0) = false := beq_eq_false_iff_ne.mpr c5; have c5b1 : ((x3_1.length : Int) != 0) = true := bne_iff_ne.mpr c5
     have c5b2 : ¬ (x3_1 = []) := fun h_ => c5 (by rw [h_]; rfl)
     by_cases c7 : a0 < 0
     ·rw [if_pos c7] at H
      have c7b0 : decide (a0 < 0) = true := decide_eq_true c7; clear c7
      by_cases c8 : 1 + (strOfNums x3_1).size ≤ 9223372036854775807
      ·rw [if_pos c8] at H
       have c8b0 := eq_true c8; have c8b1 : decide (1 + (strOfNums x3_1).size ≤ 9223372036854775807) = true := decide_eq_true c8
       try have c8b2 : (9223372036854775807 < 1 + (strOfNums x3_1).size) = False := eq_false (Nat.not_lt.2 c8)
       obtain rfl := Option.some.inj H; obtain ⟨Ao9, co9, eo9⟩ := Kd.R_slice HO_3.out; subst eo9; have hcv10 := own_string (P := Tryd.prog) Tryd.underlying54 Tryd.underlying5 Tryd.underlying9 (Kd.own_of_R HO_3.out)
       go_wp2
       go_ret
       exact ⟨zE, zB HB.out⟩
      ·rw [if_neg c8] at H
       exact absurd H (by simp)
     ·rw [if_neg c7] at H
      have c7b0 : decide (a0 < 0) = false := decide_eq_false c7; clear c7; obtain rfl := Option.some.inj H; obtain ⟨Ao11, co11, eo11⟩ := Kd.R_slice HO_3.out; subst eo11; have hcv12 := own_string (P := Tryd.prog) Tryd.underlying54 Tryd.underlying5 Tryd.underlying9 (Kd.own_of_R HO_3.out)
      go_wp2
      go_ret
      exact ⟨zE, zB HB.out⟩
   ·rw [if_neg c4] at H
    have c4b0 : (x4_1 == 0) = false := beq_eq_false_iff_ne.mpr c4; have c4b1 : (x4_1 != 0) = true := bne_iff_ne.mpr c4
    by_cases c13 : (Int.tmod x4_1 10) < 0
    ·rw [if_pos c13] at H
     have c13b0 : decide ((Int.tmod x4_1 10) < 0) = true := decide_eq_true c13; clear c13; obtain ⟨y155, hy155⟩ : ∃ y_ : List Int, y_ = (([(wrap64 (48 + (wrap64 (-(Int.tmod x4_1 10))))) % 256] : List Int)) := ⟨_, rfl⟩; replace H : (if y155.length + x3_1.length < 140737488355328 then (spec_l01Dec.l0 k1 a0 (y155 ++ x3_1) (wrap64 (Int.tdiv x4_1 10))) else (none)) = some r := zh H; have Ny155 := zQ hy155; clear hy155
     by_cases c14 : y155.length + x3_1.length < 140737488355328
     ·rw [if_pos c14] at H
      have LMc14 := zQ c14; clear c14; obtain ⟨y158, hy158⟩ : ∃ y_ : List Int, y_ = (y155 ++ x3_1) := ⟨_, rfl⟩; replace H : (spec_l01Dec.l0 k1 a0 y158 (wrap64 (Int.tdiv x4_1 10))) = some r := zh H; have Ny158 := zQ hy158; clear hy158; have H' := zQ H; clear H
      go_wp2_with (first | ((with_reducible refine zd 21 ?_); refine Kd.R_lit (Kd.int .u8) _ 5 ?hg (N := 21) ?hd (xs := ([(wrap64 (48 + (wrap64 (-(Int.tmod x4_1 10))))) % 256] : List Int)) (inner := [.int .u8 ((wrap64 (48 + (wrap64 (-(Int.tmod x4_1 10))))) % 256)]) (ok := fun _ => True) (okp := fun _ => True) ?hr ?hp (fun _ hk => hk) trivial (Below.refl _ _) (Nat.le_refl _) (by simp) ?_; (case hd => rfl); (case hg => rfl); (case hr => first | (go_simp; done) | (go_simp; rfl)); (case hp => exact (Reps.one (show Kd.M (Kd.int .u8) _ _ _ ((wrap64 (48 + (wrap64 (-(Int.tmod x4_1 10))))) % 256) [.int .u8 ((wrap64 (48 + (wrap64 (-(Int.tmod x4_1 10))))) % 256)] from rfl) (Reps.none _ _))); intro v156 w15 ho16 hb hg_ hnew_; clear hg_ hnew_; (first | rw [← Ny155.out] at ho16 | (simp only [Int.reduceToNat] at ho16; rw [← Ny155.out] at ho16)); have HO157 := zQ (Kd.R_lower (Kd.R_new' ho16 (Kd.R_lt (zR HO_3.out))) (below_size (zB HB.out))); replace HO_3 := zQ (Kd.R_elder' (zR HO_3.out) (Kd.R_base ho16) hb); replace HB := zbs HB.out hb; clear hb ho16; obtain ⟨Ao18, co18, eo18⟩ := Kd.R_slice HO_3.out; subst eo18) | ((with_reducible refine gate_builtin (b := .append) (xs := #[.tmp 21, .tmp 22]) rfl ?_); at_builtin; refine Kd.R_append_rows (Kd.int .u8) (w0 := w) w.heap.size rfl (.tmp 21) (.tmp 22) 54 5 (.int .u8 0) 1 rfl Tryd.underlying54 info5 rfl (by decide) (by omega) v156 y155 x3_1 _ _ _ (fun k_ => some k_ ≠ (.slice Ao18 x3_1.length co18 : Value).ownBlock) (fun _ => False) rfl rfl ?aO ?aR (fun _ _ h => h) (fun _ h => h.elim) ?aF ?aB ?aS ?aL ?_; (case aR => repeat (first | exact (Kd.R_reads' HO_3.out).2.2 | (with_reducible refine Kd.C_alloc ?_ _) | (with_reducible refine Kd.C_drewN ?_ _) | (with_reducible refine Kd.C_drew ?_))); (case aB => exact (zB HB.out)); (case aF => exact (fun k_ hk => Kd.fresh' (Kd.R_lt (zR HO_3.out)) k_ hk)); (case aO => exact (by (with_reducible repeat (first | apply Kd.R_alloc | apply Kd.R_drewN | apply Kd.R_drew)); exact Kd.R_mono HO157.out (fun _ hk => hk.2))); (case aS => exact (below_size (zB HB.out))); (case aL => have := LMc14.out; omega); intro v159 w17 ho hb hg hat; rw [← Ny158.out] at ho; have HO160 := zQ (ho); replace HO_3 := zQ (Kd.R_after (ok := (fun _ => True)) (zR HO_3.out) hg hat); replace HB := zQ (hb); clear HO157 ho hb hg hat))
      go_roundg k1
      case measure => have := HK1.out; omega
      case rel => exact ⟨(y158), (wrap64 (Int.tdiv x4_1 10)), (zF), H', ⟨by have := HK1.out; omega⟩, ⟨by (with_reducible repeat (first | apply Kd.R_alloc | apply Kd.R_drewN | apply Kd.R_drew)); exact Kd.R_mono HO160.out (fun _ hk => trivial)⟩, ⟨zB HB.out⟩⟩
     ·rw [if_neg c14] at H
      exact absurd H (by simp)
    ·rw [if_neg c13] at H
     have c13b0 : decide ((Int.tmod x4_1 10) < 0) = false := decide_eq_false c13; clear c13; obtain ⟨y161, hy161⟩ : ∃ y_ : List Int, y_ = (([(wrap64 (48 + (Int.tmod x4_1 10))) % 256] : List Int)) := ⟨_, rfl⟩; replace H : (if y161.length + x3_1.length < 140737488355328 then (spec_l01Dec.l0 k1 a0 (y161 ++ x3_1) (wrap64 (Int.tdiv x4_1 10))) else (none)) = some r := zh H; have Ny161 := zQ hy161; clear hy161
     by_cases c19 : y161.length + x3_1.length < 140737488355328
     ·rw [if_pos c19] at H
      have LMc19 := zQ c19; clear c19; obtain ⟨y164, hy164⟩ : ∃ y_ : List Int, y_ = (y161 ++ x3_1) := ⟨_, rfl⟩; replace H : (spec_l01Dec.l0 k1 a0 y164 (wrap64 (Int.tdiv x4_1 10))) = some r := zh H; have Ny164 := zQ hy164; clear hy164; have H' := zQ H; clear H
      go_wp2_with (first | ((with_reducible refine zd 21 ?_); refine Kd.R_lit (Kd.int .u8) _ 5 ?hg (N := 21) ?hd (xs := ([(wrap64 (48 + (Int.tmod x4_1 10))) % 256] : List Int)) (inner := [.int .u8 ((wrap64 (48 + (Int.tmod x4_1 10))) % 256)]) (ok := fun _ => True) (okp := fun _ => True) ?hr ?hp (fun _ hk => hk) trivial (Below.refl _ _) (Nat.le_refl _) (by simp) ?_; (case hd => rfl); (case hg => rfl); (case hr => first | (go_simp; done) | (go_simp; rfl)); (case hp => exact (Reps.one (show Kd.M (Kd.int .u8) _ _ _ ((wrap64 (48 + (Int.tmod x4_1 10))) % 256) [.int .u8 ((wrap64 (48 + (Int.tmod x4_1 10))) % 256)] from rfl) (Reps.none _ _))); intro v162 w20 ho21 hb hg_ hnew_; clear hg_ hnew_; (first | rw [← Ny161.out] at ho21 | (simp only [Int.reduceToNat] at ho21; rw [← Ny161.out] at ho21)); have HO163 := zQ (Kd.R_lower (Kd.R_new' ho21 (Kd.R_lt (zR HO_3.out))) (below_size (zB HB.out))); replace HO_3 := zQ (Kd.R_elder' (zR HO_3.out) (Kd.R_base ho21) hb); replace HB := zbs HB.out hb; clear hb ho21; obtain ⟨Ao23, co23, eo23⟩ := Kd.R_slice HO_3.out; subst eo23) | ((with_reducible refine gate_builtin (b := .append) (xs := #[.tmp 21, .tmp 22]) rfl ?_); at_builtin; refine Kd.R_append_rows (Kd.int .u8) (w0 := w) w.heap.size rfl (.tmp 21) (.tmp 22) 54 5 (.int .u8 0) 1 rfl Tryd.underlying54 info5 rfl (by decide) (by omega) v162 y161 x3_1 _ _ _ (fun k_ => some k_ ≠ (.slice Ao23 x3_1.length co23 : Value).ownBlock) (fun _ => False) rfl rfl ?aO ?aR (fun _ _ h => h) (fun _ h => h.elim) ?aF ?aB ?aS ?aL ?_; (case aR => repeat (first | exact (Kd.R_reads' HO_3.out).2.2 | (with_reducible refine Kd.C_alloc ?_ _) | (with_reducible refine Kd.C_drewN ?_ _) | (with_reducible refine Kd.C_drew ?_))); (case aB => exact (zB HB.out)); (case aF => exact (fun k_ hk => Kd.fresh' (Kd.R_lt (zR HO_3.out)) k_ hk)); (case aO => exact (by (with_reducible repeat (first | apply Kd.R_alloc | apply Kd.R_drewN | apply Kd.R_drew)); exact Kd.R_mono HO163.out (fun _ hk => hk.2))); (case aS => exact (below_size (zB HB.out))); (case aL => have := LMc19.out; omega); intro v165 w22 ho hb hg hat; rw [← Ny164.out] at ho; have HO166 := zQ (ho); replace HO_3 := zQ (Kd.R_after (ok := (fun _ => True)) (zR HO_3.out) hg hat); replace HB := zQ (hb); clear HO163 ho hb hg hat))
      go_roundg k1
      case measure => have := HK1.out; omega
      case rel => exact ⟨(y164), (wrap64 (Int.tdiv x4_1 10)), (zF), H', ⟨by have := HK1.out; omega⟩, ⟨by (with_reducible repeat (first | apply Kd.R_alloc | apply Kd.R_drewN | apply Kd.R_drew)); exact Kd.R_mono HO166.out (fun _ hk => trivial)⟩, ⟨zB HB.out⟩⟩
     ·rw [if_neg c19] at H
      exact absurd H (by simp)

/-! ### spec_l13Text: function 15 -/
def spec_l13Text.l0 : Nat → List (S35) → ByteArray → Int → Option (ByteArray)
 | 0, _, _, _ => none
 | k + 1, x0, x3, x4 => if x4 < (x0.length : Int) then (if x4 > 0 then (if x3.size + 1 ≤ 9223372036854775807 then (if 0 ≤ x4 then ((spec_l01Dec.f k ((rd_T35 x0 x4).f0)).bind fun t168 => (if t168.size + 1 ≤ 9223372036854775807 then ((spec_l01Dec.f k ((rd_T35 x0 x4).f1)).bind fun t170 => (if (t168 ++ (⟨#[44]⟩ : ByteArray)).size + t170.size ≤ 9223372036854775807 then (if (x3 ++ (⟨#[32]⟩ : ByteArray)).size + ((t168 ++ (⟨#[44]⟩ : ByteArray)) ++ t170).size ≤ 9223372036854775807 then (spec_l13Text.l0 k x0 ((x3 ++ (⟨#[32]⟩ : ByteArray)) ++ ((t168 ++ (⟨#[44]⟩ : ByteArray)) ++ t170)) (wrap64 (x4 + 1))) else (none)) else (none))) else (none))) else (none)) else (none)) else (if 0 ≤ x4 then ((spec_l01Dec.f k ((rd_T35 x0 x4).f0)).bind fun t172 => (if t172.size + 1 ≤ 9223372036854775807 then ((spec_l01Dec.f k ((rd_T35 x0 x4).f1)).bind fun t174 => (if (t172 ++ (⟨#[44]⟩ : ByteArray)).size + t174.size ≤ 9223372036854775807 then (if x3.size + ((t172 ++ (⟨#[44]⟩ : ByteArray)) ++ t174).size ≤ 9223372036854775807 then (spec_l13Text.l0 k x0 (x3 ++ ((t172 ++ (⟨#[44]⟩ : ByteArray)) ++ t174)) (wrap64 (x4 + 1))) else (none)) else (none))) else (none))) else (none))) else (some x3)
def spec_l13Text.f (k : Nat) (l0 : List (S35)) : Option (ByteArray) := spec_l13Text.l0 k l0 (⟨#[]⟩ : ByteArray) 0
theorem spec_l13Text.mono_l : ∀ k, (∀ y0 y1 y2, LeO (spec_l13Text.l0 k y0 y1 y2) (spec_l13Text.l0 (k + 1) y0 y1 y2))
 | 0 => fun _ _ _ r h => by simp [spec_l13Text.l0] at h
 | k + 1 => by
  have ih0 := spec_l13Text.mono_l k
  ·intro y0 y1 y2
   unfold spec_l13Text.l0
   (with_reducible repeat' first | apply ih0 | apply spec_l01Dec.mono | apply LeO.refl | apply LeO.none | refine LeO.ite ?_ ?_ | refine LeO.bind ?_ (fun _ => ?_))
   repeat' first | apply ih0 | apply spec_l01Dec.mono | apply LeO.none | refine LeO.ite ?_ ?_ | refine LeO.bind ?_ (fun _ => ?_)
theorem spec_l13Text.mono : ∀ a0 k, LeO (spec_l13Text.f k a0) (spec_l13Text.f (k + 1) a0) := by
 intro a0 k
 have ih0 := spec_l13Text.mono_l k
 unfold spec_l13Text.f
 (with_reducible repeat' first | apply ih0 | apply spec_l01Dec.mono | apply LeO.refl | apply LeO.none | refine LeO.ite ?_ ?_ | refine LeO.bind ?_ (fun _ => ?_))
 repeat' first | apply ih0 | apply spec_l01Dec.mono | apply LeO.none | refine LeO.ite ?_ ?_ | refine LeO.bind ?_ (fun _ => ?_)
def spec_l13Text.T7 : Bool × List (List Nat × List Nat) := (true, [([], []), ([], []), ([], []), ([1, 2], [1, 2]), ([3], [3]), ([4], [4]), ([5], [5]), ([6], [6]), ([], []), ([], []), ([8, 9], [8, 9]), ([10], [10]), ([11], [11]), ([12, 6], [12]), ([7, 13], [7, 13]), ([0, 14], [0, 14]), ([15, 13, 0, 1, 2, 3, 4, 5, 6, 7, 8, 9, 10, 11, 12, 13, 14, 15], [0, 15])])
def spec_l13Text.B7 : List Nat := [0, 0, 0, 6, 14, 30, 62, 126, 0, 0, 768, 1792, 3840, 8062, 16382, 32767, 65535]
theorem spec_l13Text.tab7 : rtab .any (opsOf Tryd.f15 7) = spec_l13Text.T7 := by kernel_rfl
theorem spec_l13Text.bits7 : waitsOk spec_l13Text.T7.2 spec_l13Text.B7 = true := by kernel_rfl
set_option maxHeartbeats 8000000 in
set_option maxRecDepth 100000 in
theorem spec_l13Text.calls (k : Nat) (A0 : Option Addr) (c0 : Nat) (l0 : List (S35)) (r : ByteArray) (w : World) (hr0 : Kd.C k35 w A0 l0.length l0) (hc0 : l0.length ≤ c0) (h : spec_l13Text.f k l0 = some r) :
  Calls Tryd.prog 15 #[.slice A0 l0.length c0] w fun e w' => e = .returned (.string r) ∧ Below w.heap.size w w' := by
 have HR0 := zQ hr0
 have HC0 := zQ hc0
 clear hr0 hc0
 have HB := zQ (Below.refl w.heap.size w)
 have H : (spec_l13Text.l0 k l0 (⟨#[]⟩ : ByteArray) 0) = some r := h
 clear h
 have H' := zQ H
 clear H
 go_enter Tryd.func15, Tryd.ntmps15
 go_wp2
 go_loopg [3, 4] k (fun kq v3 v4 w' => ∃ (x3_1 : ByteArray) (x4_1 : Int), v3 = .string x3_1 ∧ v4 = .int .i64 x4_1 ∧ Aside0 (spec_l13Text.l0 kq l0 x3_1 x4_1 = some r) ∧ Aside0 (kq ≤ k) ∧ Aside0 (Below w.heap.size w w'))
 case atStart => exact ⟨((⟨#[]⟩ : ByteArray)), (0), (zF), (zF), H', ⟨Nat.le_refl _⟩, ⟨zB HB.out⟩⟩
 case round =>
  clear H'; (try clear c1); obtain ⟨x3_1, x4_1, rfl, rfl, HA, HK1, HB⟩ := hrel
  cases gk with
  | zero => exact absurd HA.out (by simp [spec_l13Text.l0])
  | succ k1 =>
   have H := HA.out; clear HA
   simp only [spec_l13Text.l0] at H
   by_cases c2 : x4_1 < (l0.length : Int)
   ·rw [if_pos c2] at H
    have c2b0 : decide (x4_1 < (l0.length : Int)) = true := decide_eq_true c2; clear c2
    by_cases c3 : x4_1 > 0
    ·rw [if_pos c3] at H
     have c3b0 : decide (0 < x4_1) = true := decide_eq_true c3; clear c3
     by_cases c4 : x3_1.size + 1 ≤ 9223372036854775807
     ·rw [if_pos c4] at H
      have c4b0 := eq_true c4; have c4b1 : decide (x3_1.size + 1 ≤ 9223372036854775807) = true := decide_eq_true c4
      try have c4b2 : (9223372036854775807 < x3_1.size + 1) = False := eq_false (Nat.not_lt.2 c4)
      by_cases c5 : 0 ≤ x4_1
      ·rw [if_pos c5] at H
       have c5b0 : decide (0 ≤ x4_1) = true := decide_eq_true c5; clear c5; replace H := Option.bind_eq_some_iff.mp H; obtain ⟨t168, A60, H⟩ := H; replace H : (if t168.size + 1 ≤ 9223372036854775807 then ((spec_l01Dec.f k1 ((rd_T35 l0 x4_1).f1)).bind fun t170 => (if (t168 ++ (⟨#[44]⟩ : ByteArray)).size + t170.size ≤ 9223372036854775807 then (if (x3_1 ++ (⟨#[32]⟩ : ByteArray)).size + ((t168 ++ (⟨#[44]⟩ : ByteArray)) ++ t170).size ≤ 9223372036854775807 then (spec_l13Text.l0 k1 l0 ((x3_1 ++ (⟨#[32]⟩ : ByteArray)) ++ ((t168 ++ (⟨#[44]⟩ : ByteArray)) ++ t170)) (wrap64 (x4_1 + 1))) else (none)) else (none))) else (none)) = some r := H; have A6 := zQ A60; clear A60
       by_cases c7 : t168.size + 1 ≤ 9223372036854775807
       ·rw [if_pos c7] at H
        have c7b0 := eq_true c7; have c7b1 : decide (t168.size + 1 ≤ 9223372036854775807) = true := decide_eq_true c7
        try have c7b2 : (9223372036854775807 < t168.size + 1) = False := eq_false (Nat.not_lt.2 c7)
        replace H := Option.bind_eq_some_iff.mp H; obtain ⟨t170, A80, H⟩ := H; replace H : (if (t168 ++ (⟨#[44]⟩ : ByteArray)).size + t170.size ≤ 9223372036854775807 then (if (x3_1 ++ (⟨#[32]⟩ : ByteArray)).size + ((t168 ++ (⟨#[44]⟩ : ByteArray)) ++ t170).size ≤ 9223372036854775807 then (spec_l13Text.l0 k1 l0 ((x3_1 ++ (⟨#[32]⟩ : ByteArray)) ++ ((t168 ++ (⟨#[44]⟩ : ByteArray)) ++ t170)) (wrap64 (x4_1 + 1))) else (none)) else (none)) = some r := H; have A8 := zQ A80; clear A80
        by_cases c9 : (t168 ++ (⟨#[44]⟩ : ByteArray)).size + t170.size ≤ 9223372036854775807
        ·rw [if_pos c9] at H
         have c9b0 := eq_true c9; have c9b1 : decide ((t168 ++ (⟨#[44]⟩ : ByteArray)).size + t170.size ≤ 9223372036854775807) = true := decide_eq_true c9
         try have c9b2 : (9223372036854775807 < (t168 ++ (⟨#[44]⟩ : ByteArray)).size + t170.size) = False := eq_false (Nat.not_lt.2 c9)
         try have c9b3 := c9b2
         try simp only [ByteArray.size_append, show ((⟨#[44]⟩ : ByteArray)).size = 1 from rfl, show ((⟨#[32]⟩ : ByteArray)).size = 1 from rfl] at c9b3
         by_cases c10 : (x3_1 ++ (⟨#[32]⟩ : ByteArray)).size + ((t168 ++ (⟨#[44]⟩ : ByteArray)) ++ t170).size ≤ 9223372036854775807
         ·rw [if_pos c10] at H
          have c10b0 := eq_true c10; have c10b1 : decide ((x3_1 ++ (⟨#[32]⟩ : ByteArray)).size + ((t168 ++ (⟨#[44]⟩ : ByteArray)) ++ t170).size ≤ 9223372036854775807) = true := decide_eq_true c10
          try have c10b2 : (9223372036854775807 < (x3_1 ++ (⟨#[32]⟩ : ByteArray)).size + ((t168 ++ (⟨#[44]⟩ : ByteArray)) ++ t170).size) = False := eq_false (Nat.not_lt.2 c10)
          try have c10b3 := c10b2
          try simp only [ByteArray.size_append, show ((⟨#[44]⟩ : ByteArray)).size = 1 from rfl, show ((⟨#[32]⟩ : ByteArray)).size = 1 from rfl] at c10b3
          have H' := zQ H; clear H
          try go_wp2
          have n0_ := zQ (below_drew1 HB.out); clear HB; have HB := n0_; clear n0_; have p167 : 0 ≤ (x4_1 : Int) := of_decide_eq_true zA; have q167 : x4_1 < (l0.length : Int) := of_decide_eq_true zA; obtain ⟨ad167, e167, hx167_0, hx167_1⟩ := at_T35 HR0.out x4_1 p167 q167; have hw167_1 := hx167_1; have hw167_0 := hx167_0
          cases e167
          replace hx167_0 := zw HB.out hx167_0; replace hx167_1 := zw HB.out hx167_1; replace p167 := eq_true p167; replace q167 := eq_true q167; have p169 : 0 ≤ (x4_1 : Int) := of_decide_eq_true zA; have q169 : x4_1 < (l0.length : Int) := of_decide_eq_true zA; obtain ⟨ad169, e169, hx169_0, hx169_1⟩ := at_T35 HR0.out x4_1 p169 q169; have hw169_1 := hx169_1; have hw169_0 := hx169_0; obtain rfl : ad167 = ad169 := (by injection e169); replace hx169_0 := zw HB.out hx169_0; replace hx169_1 := zw HB.out hx169_1; replace p169 := eq_true p169; replace q169 := eq_true q169
          refine zs (fun w' => w'.cell? (ad167.add ((x4_1).toNat * 2)) = some (.int .i64 ((rd_T35 l0 x4_1).f0)) ∧ w'.cell? ⟨(ad167.add ((x4_1).toNat * 2)).block, (ad167.add ((x4_1).toNat * 2)).off + 1, none⟩ = some (.int .i64 ((rd_T35 l0 x4_1).f1)) ∧ w'.cell? (ad167.add ((x4_1).toNat * 2)) = some (.int .i64 ((rd_T35 l0 x4_1).f0)) ∧ w'.cell? ⟨(ad167.add ((x4_1).toNat * 2)).block, (ad167.add ((x4_1).toNat * 2)).off + 1, none⟩ = some (.int .i64 ((rd_T35 l0 x4_1).f1))) [] 17 ⟨((HB.out.cell (World.block_lt_of_cell? w _ hw167_0)).trans hw167_0), ((HB.out.cell (World.block_lt_of_cell? w _ hw167_1)).trans hw167_1), ((HB.out.cell (World.block_lt_of_cell? w _ hw169_0)).trans hw169_0), ((HB.out.cell (World.block_lt_of_cell? w _ hw169_1)).trans hw169_1)⟩ (fun hHeld => ?_); refine with_tabW spec_l13Text.tab7 spec_l13Text.bits7 (fun HT_ HW_ => ?_)
          generalize wr.drew = w11 at HB hx167_0 hx167_1 hx169_0 hx169_1 hHeld ⊢
          refine zp 0 15 ?_
          refine zp 1 16 ?_
          refine zp 2 17 ?_
          refine zp 3 18 ?_
          refine zp 4 19 ?_
          refine zp 8 23 ?_
          refine zp 9 24 ?_
          refine zp 10 25 ?_
          refine zp 11 26 ?_
          refine zt 5 20 hHeld ?_
          refine zt 12 27 hHeld ?_
          refine zo 6 (some 21) (fun K hK => ?_)
          refine goes_ Tryd.func30 (by kernel_rfl) rfl #[.int .i64 ((rd_T35 l0 x4_1).f0)] (by rfl) rfl rfl zM ?_
          with_reducible refine (spec_l01Dec.calls k1 ((rd_T35 l0 x4_1).f0) t168 _ A6.out).mono ?_
          rintro e w12 ⟨rfl, hb⟩
          refine ⟨_, rfl, ?_⟩
          have n0_ := zbs HB.out hb; clear HB; have HB := n0_; clear n0_
          (try clear hb)
          (try clear hb2)
          (try clear hk)
          (try clear hi)
          refine hK.out _ _ ⟨((HB.out.cell (World.block_lt_of_cell? w _ hw167_0)).trans hw167_0), ((HB.out.cell (World.block_lt_of_cell? w _ hw167_1)).trans hw167_1), ((HB.out.cell (World.block_lt_of_cell? w _ hw169_0)).trans hw169_0), ((HB.out.cell (World.block_lt_of_cell? w _ hw169_1)).trans hw169_1)⟩ (fun hHeld => ?_)
          clear hK K
          refine zn 21 ?_
          refine zp 7 22 ?_
          refine zo 13 (some 28) (fun K hK => ?_)
          refine goes_ Tryd.func30 (by kernel_rfl) rfl #[.int .i64 ((rd_T35 l0 x4_1).f1)] (by rfl) rfl rfl zM ?_
          with_reducible refine (spec_l01Dec.calls k1 ((rd_T35 l0 x4_1).f1) t170 _ A8.out).mono ?_
          rintro e w13 ⟨rfl, hb⟩
          refine ⟨_, rfl, ?_⟩
          have n0_ := zbs HB.out hb; clear HB; have HB := n0_; clear n0_
          (try clear hb)
          (try clear hb2)
          (try clear hk)
          (try clear hi)
          refine hK.out _ _ ⟨((HB.out.cell (World.block_lt_of_cell? w _ hw167_0)).trans hw167_0), ((HB.out.cell (World.block_lt_of_cell? w _ hw167_1)).trans hw167_1), ((HB.out.cell (World.block_lt_of_cell? w _ hw169_0)).trans hw169_0), ((HB.out.cell (World.block_lt_of_cell? w _ hw169_1)).trans hw169_1)⟩ (fun hHeld => ?_)
          clear hK K
          refine zn 28 ?_
          refine zp 14 29 ?_
          refine zp 15 30 ?_
          refine zp 16 3 ?_
          refine done_ (done_of HT_.out (by kernel_rfl)) ?_
          try go_wp2
          go_roundg k1
          case measure => have := HK1.out; omega
          case rel => exact ⟨((x3_1 ++ (⟨#[32]⟩ : ByteArray)) ++ ((t168 ++ (⟨#[44]⟩ : ByteArray)) ++ t170)), (wrap64 (x4_1 + 1)), (zF), (zF), H', ⟨by have := HK1.out; omega⟩, ⟨zB HB.out⟩⟩
         ·rw [if_neg c10] at H
          exact absurd H (by simp)
        ·rw [if_neg c9] at H
         exact absurd H (by simp)
       ·rw [if_neg c7] at H
        exact absurd H (by simp)
      ·rw [if_neg c5] at H
       exact absurd H (by simp)
     ·rw [if_neg c4] at H
      exact absurd H (by simp)
    ·rw [if_neg c3] at H
     have c3b0 : decide (0 < x4_1) = false := decide_eq_false c3; clear c3
     by_cases c14 : 0 ≤ x4_1
     ·rw [if_pos c14] at H
      have c14b0 : decide (0 ≤ x4_1) = true := decide_eq_true c14; clear c14; replace H := Option.bind_eq_some_iff.mp H; obtain ⟨t172, A150, H⟩ := H; replace H : (if t172.size + 1 ≤ 9223372036854775807 then ((spec_l01Dec.f k1 ((rd_T35 l0 x4_1).f1)).bind fun t174 => (if (t172 ++ (⟨#[44]⟩ : ByteArray)).size + t174.size ≤ 9223372036854775807 then (if x3_1.size + ((t172 ++ (⟨#[44]⟩ : ByteArray)) ++ t174).size ≤ 9223372036854775807 then (spec_l13Text.l0 k1 l0 (x3_1 ++ ((t172 ++ (⟨#[44]⟩ : ByteArray)) ++ t174)) (wrap64 (x4_1 + 1))) else (none)) else (none))) else (none)) = some r := H; have A15 := zQ A150; clear A150
      by_cases c16 : t172.size + 1 ≤ 9223372036854775807
      ·rw [if_pos c16] at H
       have c16b0 := eq_true c16; have c16b1 : decide (t172.size + 1 ≤ 9223372036854775807) = true := decide_eq_true c16
       try have c16b2 : (9223372036854775807 < t172.size + 1) = False := eq_false (Nat.not_lt.2 c16)
       replace H := Option.bind_eq_some_iff.mp H; obtain ⟨t174, A170, H⟩ := H; replace H : (if (t172 ++ (⟨#[44]⟩ : ByteArray)).size + t174.size ≤ 9223372036854775807 then (if x3_1.size + ((t172 ++ (⟨#[44]⟩ : ByteArray)) ++ t174).size ≤ 9223372036854775807 then (spec_l13Text.l0 k1 l0 (x3_1 ++ ((t172 ++ (⟨#[44]⟩ : ByteArray)) ++ t174)) (wrap64 (x4_1 + 1))) else (none)) else (none)) = some r := H; have A17 := zQ A170; clear A170
       by_cases c18 : (t172 ++ (⟨#[44]⟩ : ByteArray)).size + t174.size ≤ 9223372036854775807
       ·rw [if_pos c18] at H
        have c18b0 := eq_true c18; have c18b1 : decide ((t172 ++ (⟨#[44]⟩ : ByteArray)).size + t174.size ≤ 9223372036854775807) = true := decide_eq_true c18
        try have c18b2 : (9223372036854775807 < (t172 ++ (⟨#[44]⟩ : ByteArray)).size + t174.size) = False := eq_false (Nat.not_lt.2 c18)
        try have c18b3 := c18b2
        try simp only [ByteArray.size_append, show ((⟨#[44]⟩ : ByteArray)).size = 1 from rfl, show ((⟨#[32]⟩ : ByteArray)).size = 1 from rfl] at c18b3
        by_cases c19 : x3_1.size + ((t172 ++ (⟨#[44]⟩ : ByteArray)) ++ t174).size ≤ 9223372036854775807
        ·rw [if_pos c19] at H
         have c19b0 := eq_true c19; have c19b1 : decide (x3_1.size + ((t172 ++ (⟨#[44]⟩ : ByteArray)) ++ t174).size ≤ 9223372036854775807) = true := decide_eq_true c19
         try have c19b2 : (9223372036854775807 < x3_1.size + ((t172 ++ (⟨#[44]⟩ : ByteArray)) ++ t174).size) = False := eq_false (Nat.not_lt.2 c19)
         try have c19b3 := c19b2
         try simp only [ByteArray.size_append, show ((⟨#[44]⟩ : ByteArray)).size = 1 from rfl, show ((⟨#[32]⟩ : ByteArray)).size = 1 from rfl] at c19b3
         have H' := zQ H; clear H
         try go_wp2
         have n0_ := zQ (below_drew1 HB.out); clear HB; have HB := n0_; clear n0_; have p171 : 0 ≤ (x4_1 : Int) := of_decide_eq_true zA; have q171 : x4_1 < (l0.length : Int) := of_decide_eq_true zA; obtain ⟨ad171, e171, hx171_0, hx171_1⟩ := at_T35 HR0.out x4_1 p171 q171; have hw171_1 := hx171_1; have hw171_0 := hx171_0
         cases e171
         replace hx171_0 := zw HB.out hx171_0; replace hx171_1 := zw HB.out hx171_1; replace p171 := eq_true p171; replace q171 := eq_true q171; have p173 : 0 ≤ (x4_1 : Int) := of_decide_eq_true zA; have q173 : x4_1 < (l0.length : Int) := of_decide_eq_true zA; obtain ⟨ad173, e173, hx173_0, hx173_1⟩ := at_T35 HR0.out x4_1 p173 q173; have hw173_1 := hx173_1; have hw173_0 := hx173_0; obtain rfl : ad171 = ad173 := (by injection e173); replace hx173_0 := zw HB.out hx173_0; replace hx173_1 := zw HB.out hx173_1; replace p173 := eq_true p173; replace q173 := eq_true q173
         refine zs (fun w' => w'.cell? (ad171.add ((x4_1).toNat * 2)) = some (.int .i64 ((rd_T35 l0 x4_1).f0)) ∧ w'.cell? ⟨(ad171.add ((x4_1).toNat * 2)).block, (ad171.add ((x4_1).toNat * 2)).off + 1, none⟩ = some (.int .i64 ((rd_T35 l0 x4_1).f1)) ∧ w'.cell? (ad171.add ((x4_1).toNat * 2)) = some (.int .i64 ((rd_T35 l0 x4_1).f0)) ∧ w'.cell? ⟨(ad171.add ((x4_1).toNat * 2)).block, (ad171.add ((x4_1).toNat * 2)).off + 1, none⟩ = some (.int .i64 ((rd_T35 l0 x4_1).f1))) [] 17 ⟨((HB.out.cell (World.block_lt_of_cell? w _ hw171_0)).trans hw171_0), ((HB.out.cell (World.block_lt_of_cell? w _ hw171_1)).trans hw171_1), ((HB.out.cell (World.block_lt_of_cell? w _ hw173_0)).trans hw173_0), ((HB.out.cell (World.block_lt_of_cell? w _ hw173_1)).trans hw173_1)⟩ (fun hHeld => ?_); refine with_tabW spec_l13Text.tab7 spec_l13Text.bits7 (fun HT_ HW_ => ?_)
         generalize wr.drew = w20 at HB hx171_0 hx171_1 hx173_0 hx173_1 hHeld ⊢
         refine zp 0 15 ?_
         refine zp 1 16 ?_
         refine zp 2 17 ?_
         refine zp 3 18 ?_
         refine zp 4 19 ?_
         refine zp 8 23 ?_
         refine zp 9 24 ?_
         refine zp 10 25 ?_
         refine zp 11 26 ?_
         refine zt 5 20 hHeld ?_
         refine zt 12 27 hHeld ?_
         refine zo 6 (some 21) (fun K hK => ?_)
         refine goes_ Tryd.func30 (by kernel_rfl) rfl #[.int .i64 ((rd_T35 l0 x4_1).f0)] (by rfl) rfl rfl zM ?_
         with_reducible refine (spec_l01Dec.calls k1 ((rd_T35 l0 x4_1).f0) t172 _ A15.out).mono ?_
         rintro e w21 ⟨rfl, hb⟩
         refine ⟨_, rfl, ?_⟩
         have n0_ := zbs HB.out hb; clear HB; have HB := n0_; clear n0_
         (try clear hb)
         (try clear hb2)
         (try clear hk)
         (try clear hi)
         refine hK.out _ _ ⟨((HB.out.cell (World.block_lt_of_cell? w _ hw171_0)).trans hw171_0), ((HB.out.cell (World.block_lt_of_cell? w _ hw171_1)).trans hw171_1), ((HB.out.cell (World.block_lt_of_cell? w _ hw173_0)).trans hw173_0), ((HB.out.cell (World.block_lt_of_cell? w _ hw173_1)).trans hw173_1)⟩ (fun hHeld => ?_)
         clear hK K
         refine zn 21 ?_
         refine zp 7 22 ?_
         refine zo 13 (some 28) (fun K hK => ?_)
         refine goes_ Tryd.func30 (by kernel_rfl) rfl #[.int .i64 ((rd_T35 l0 x4_1).f1)] (by rfl) rfl rfl zM ?_
         with_reducible refine (spec_l01Dec.calls k1 ((rd_T35 l0 x4_1).f1) t174 _ A17.out).mono ?_
         rintro e w22 ⟨rfl, hb⟩
         refine ⟨_, rfl, ?_⟩
         have n0_ := zbs HB.out hb; clear HB; have HB := n0_; clear n0_
         (try clear hb)
         (try clear hb2)
         (try clear hk)
         (try clear hi)
         refine hK.out _ _ ⟨((HB.out.cell (World.block_lt_of_cell? w _ hw171_0)).trans hw171_0), ((HB.out.cell (World.block_lt_of_cell? w _ hw171_1)).trans hw171_1), ((HB.out.cell (World.block_lt_of_cell? w _ hw173_0)).trans hw173_0), ((HB.out.cell (World.block_lt_of_cell? w _ hw173_1)).trans hw173_1)⟩ (fun hHeld => ?_)
         clear hK K
         refine zn 28 ?_
         refine zp 14 29 ?_
         refine zp 15 30 ?_
         refine zp 16 3 ?_
         refine done_ (done_of HT_.out (by kernel_rfl)) ?_
         try go_wp2
         go_roundg k1
         case measure => have := HK1.out; omega
         case rel => exact ⟨(x3_1 ++ ((t172 ++ (⟨#[44]⟩ : ByteArray)) ++ t174)), (wrap64 (x4_1 + 1)), (zF), (zF), H', ⟨by have := HK1.out; omega⟩, ⟨zB HB.out⟩⟩
        ·rw [if_neg c19] at H
         exact absurd H (by simp)
       ·rw [if_neg c18] at H
        exact absurd H (by simp)
      ·rw [if_neg c16] at H
       exact absurd H (by simp)
     ·rw [if_neg c14] at H
      exact absurd H (by simp)
   ·rw [if_neg c2] at H
    have c2b0 : decide (x4_1 < (l0.length : Int)) = false := decide_eq_false c2; clear c2; obtain rfl := Option.some.inj H
    go_wp2
    go_ret
    exact ⟨zE, zB HB.out⟩

/-! ### spec_SailText: function 6 -/
def spec_SailText.f (k : Nat) (l0 : List (S35)) : Option (ByteArray) := (spec_l13Ok.f k l0).bind fun t175 => (if t175 = true then ((spec_l13Text.f k l0).bind fun t176 => (some t176)) else (some (⟨#[]⟩ : ByteArray)))
theorem spec_SailText.mono : ∀ a0 k, LeO (spec_SailText.f k a0) (spec_SailText.f (k + 1) a0) := by
 intro a0 k
 unfold spec_SailText.f
 (with_reducible repeat' first | apply spec_l13Ok.mono | apply spec_l13Text.mono | apply LeO.refl | apply LeO.none | refine LeO.ite ?_ ?_ | refine LeO.bind ?_ (fun _ => ?_))
 repeat' first | apply spec_l13Ok.mono | apply spec_l13Text.mono | apply LeO.none | refine LeO.ite ?_ ?_ | refine LeO.bind ?_ (fun _ => ?_)
set_option maxHeartbeats 8000000 in
set_option maxRecDepth 100000 in
theorem spec_SailText.calls (k : Nat) (A0 : Option Addr) (c0 : Nat) (l0 : List (S35)) (r : ByteArray) (w : World) (hr0 : Kd.C k35 w A0 l0.length l0) (hc0 : l0.length ≤ c0) (h : spec_SailText.f k l0 = some r) :
  Calls Tryd.prog 6 #[.slice A0 l0.length c0] w fun e w' => e = .returned (.string r) ∧ Below w.heap.size w w' := by
 have HR0 := zQ hr0
 have HC0 := zQ hc0
 clear hr0 hc0
 have HB := zQ (Below.refl w.heap.size w)
 have H : ((spec_l13Ok.f k l0).bind fun t175 => (if t175 = true then ((spec_l13Text.f k l0).bind fun t176 => (some t176)) else (some (⟨#[]⟩ : ByteArray)))) = some r := h
 clear h
 replace H := Option.bind_eq_some_iff.mp H
 obtain ⟨t175, A20, H⟩ := H
 replace H : (if t175 = true then ((spec_l13Text.f k l0).bind fun t176 => (some t176)) else (some (⟨#[]⟩ : ByteArray))) = some r := H
 have A2 := zQ A20
 clear A20
 by_cases c3 : t175 = true
 ·subst c3
  have H1 : ((spec_l13Text.f k l0).bind fun t176 => (some t176)) = some r := by rw [if_pos rfl] at H; exact H
  clear H; have H := H1; clear H1; replace H := Option.bind_eq_some_iff.mp H; obtain ⟨t176, A40, H⟩ := H; replace H : (some t176) = some r := H; have A4 := zQ A40; clear A40; obtain rfl := Option.some.inj H
  go_enter Tryd.func6, Tryd.ntmps6
  go_wp2_with (first | ((with_reducible refine zgc 14 ?_); refine goesL_ (some 4) rfl rfl Tryd.func14 (by kernel_rfl) rfl #[.slice A0 l0.length c0] rfl zM ?_; (with_reducible refine (spec_l13Ok.calls k _ _ l0 true _ ?side1 HC0.out A2.out).mono ?_); (case side1 => repeat (first | exact HR0.out | (with_reducible refine Kd.C_alloc ?_ _) | (with_reducible refine Kd.C_drewN ?_ _) | (with_reducible refine Kd.C_drew ?_))); rintro e w5 ⟨rfl, hb⟩; refine ⟨_, rfl, ?_⟩; replace HB := zbs HB.out hb; (try clear hb)) | ((with_reducible refine zgc 15 ?_); refine goesL_ (some 7) rfl rfl Tryd.func15 (by kernel_rfl) rfl #[.slice A0 l0.length c0] rfl zM ?_; (with_reducible refine (spec_l13Text.calls k _ _ l0 t176 _ (zC HR0.out HB.out) HC0.out A4.out).mono ?_); rintro e w6 ⟨rfl, hb⟩; refine ⟨_, rfl, ?_⟩; replace HB := zbs HB.out hb; (try clear hb)))
  go_ret
  exact ⟨zE, zB HB.out⟩
 ·replace c3 := Bool.eq_false_iff.mpr c3
  subst c3
  have H1 : (some (⟨#[]⟩ : ByteArray)) = some r := by rw [if_neg (show ¬ (false = true) by decide)] at H; exact H
  clear H; have H := H1; clear H1; obtain rfl := Option.some.inj H
  go_enter Tryd.func6, Tryd.ntmps6
  go_wp2_with (first | ((with_reducible refine zgc 14 ?_); refine goesL_ (some 4) rfl rfl Tryd.func14 (by kernel_rfl) rfl #[.slice A0 l0.length c0] rfl zM ?_; (with_reducible refine (spec_l13Ok.calls k _ _ l0 false _ ?side1 HC0.out A2.out).mono ?_); (case side1 => repeat (first | exact HR0.out | (with_reducible refine Kd.C_alloc ?_ _) | (with_reducible refine Kd.C_drewN ?_ _) | (with_reducible refine Kd.C_drew ?_))); rintro e w7 ⟨rfl, hb⟩; refine ⟨_, rfl, ?_⟩; replace HB := zbs HB.out hb; (try clear hb)))
  go_ret
  exact ⟨zE, zB HB.out⟩

/-! ### laws_toSpot: function 16 -/
def laws_toSpot.f (a0_0 : Int) (a0_1 : Int) : Option (Int × Int) := some (a0_0, a0_1)
set_option maxHeartbeats 8000000 in
set_option maxRecDepth 100000 in
theorem laws_toSpot.calls (a0_0 : Int) (a0_1 : Int) (r1 : Int) (r2 : Int) (w : World) (h : laws_toSpot.f a0_0 a0_1 = some (r1, r2)) :
  Calls Tryd.prog 16 #[.agg #[.int .i64 a0_0, .int .i64 a0_1]] w fun e w' => e = .returned (.agg #[.int .i64 r1, .int .i64 r2]) ∧ Below w.heap.size w w' := by
 have hu37 := Tryd.underlying37
 have hu35 := Tryd.underlying35
 have HB := zQ (Below.refl w.heap.size w)
 have H : (some (a0_0, a0_1)) = some (r1, r2) := h
 clear h
 simp only [Option.some.injEq, Prod.mk.injEq] at H
 obtain ⟨rfl, rfl⟩ := H
 go_enter Tryd.func16, Tryd.ntmps16
 go_wp2_with (first | ((with_reducible refine zd 1 ?_); refine zbx (N := 1) (cs := #[.int .i64 a0_0, .int .i64 a0_1]) (t := 37) ?_; intro gb177 hg w2 hbox hb; have BK177 := zQ (hbox); have GW177 := zgz hg HB.out; have GE177 := GW177; replace HB := zbs HB.out hb; clear hb hbox hg) | ((with_reducible refine zd 2 ?_); refine zbx (N := 2) (cs := #[.int .i64 0, .int .i64 0]) (t := 35) ?_; intro gb178 hg w3 hbox hb; have BK178 := zQ (hbox); have GW178 := zgz2 hg HB.out GE177.out; have GE178 := GW178; have NB177_178 := zQ ((by rw [hg]; exact Nat.ne_of_lt (blk_lt (g := gb177) (o := .cells #[.int .i64 a0_0, .int .i64 a0_1] 37 (0, 0)) (zb BK177.out)) : gb177 ≠ gb178)); have NB178_177 := zQ ((by rw [hg]; exact Nat.ne_of_gt (blk_lt (g := gb177) (o := .cells #[.int .i64 a0_0, .int .i64 a0_1] 37 (0, 0)) (zb BK177.out)) : gb178 ≠ gb177)); replace BK177 := zbl BK177.out hb; replace HB := zbs2 HB.out GE177.out hb; clear hb hbox hg) | ((with_reducible refine zd 3 ?_); refine zbx (N := 3) (cs := #[.int .i64 0, .int .i64 0]) (t := 35) ?_; intro gb179 hg w4 hbox hb; have BK179 := zQ (hbox); have GW179 := zQ ((by rw [hg]; exact (below_size (zB3 HB.out GE177.out GE178.out)) : w.heap.size ≤ gb179)); have GE179 := zQ ((by rw [hg]; exact (below_size (zB3 HB.out GE177.out GE178.out)) : w.heap.size ≤ gb179)); have NB177_179 := zQ ((by rw [hg]; exact Nat.ne_of_lt (blk_lt (g := gb177) (o := .cells #[.int .i64 a0_0, .int .i64 a0_1] 37 (0, 0)) (zb BK177.out)) : gb177 ≠ gb179)); have NB179_177 := zQ ((by rw [hg]; exact Nat.ne_of_gt (blk_lt (g := gb177) (o := .cells #[.int .i64 a0_0, .int .i64 a0_1] 37 (0, 0)) (zb BK177.out)) : gb179 ≠ gb177)); have NB178_179 := zQ ((by rw [hg]; exact Nat.ne_of_lt (blk_lt (g := gb178) (o := .cells #[.int .i64 0, .int .i64 0] 35 (0, 0)) (zb BK178.out)) : gb178 ≠ gb179)); have NB179_178 := zQ ((by rw [hg]; exact Nat.ne_of_gt (blk_lt (g := gb178) (o := .cells #[.int .i64 0, .int .i64 0] 35 (0, 0)) (zb BK178.out)) : gb179 ≠ gb178)); replace BK177 := zbl BK177.out hb; replace BK178 := zbl BK178.out hb; replace HB := zQ (below_step (zB3 HB.out GE177.out GE178.out) hb); clear hb hbox hg; have hnb5 := NB177_178.out; have hnc5 := NB178_177.out; have hnb6 := NB177_179.out; have hnc6 := NB179_177.out; have hcz7_0 := zc0 BK177.out; have hcz7_1 := zc1 BK177.out; have hfz7_0 := zfz BK177.out 0; have hfz7_1 := zfz BK177.out 1; have hnb8 := NB179_178.out; have hnc8 := NB178_179.out; have hcz9_0 := zc0 BK179.out; have hcz9_1 := zc1 BK179.out; have hfz9_0 := zfz BK179.out 0; have hfz9_1 := zfz BK179.out 1; have hcz10_0 := zc0 BK178.out; have hcz10_1 := zc1 BK178.out; have hfz10_0 := zfz BK178.out 0; have hfz10_1 := zfz BK178.out 1))
 refine bodyPost_ret (results_cell_row rfl _ _ gb178 35 #[.int .i64 a0_0, .int .i64 a0_1] (0, 0) _ rfl (by refine zb ?_; refine blk_put (cs := #[.int .i64 a0_0, .int .i64 0]) ?_ 1 _ rfl; refine zb ?_; refine blk_put (cs := #[.int .i64 0, .int .i64 0]) ?_ 0 _ rfl; refine zb ?_; refine blk_far ?_ NB178_179.out _; refine zb ?_; refine blk_far ?_ NB178_179.out _; refine zb ?_; exact BK178.out) Tryd.underlying35 rfl (by kernel_rfl)) rfl ?_
 exact ⟨zE, by repeat (first | (with_reducible first | exact HB.out | apply below_alloc | apply pw_below_drewN | apply below_drew1 | refine below_set ?_ GE177.out | refine below_set ?_ GE178.out | refine below_set ?_ GE179.out) | exact HB.out)⟩

end Go.Proofs.YtchngbjpjbahiaaDoor.PFnExactSailText
