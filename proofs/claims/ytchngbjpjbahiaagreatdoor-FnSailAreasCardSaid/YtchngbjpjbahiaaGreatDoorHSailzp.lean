import Derived.Test.YtchngbjpjbahiaaGreatDoorHSailz0
import Derived.Test.YtchngbjpjbahiaaGreatDoorHSailza
import Derived.Test.YtchngbjpjbahiaaGreatDoorHSailzi
namespace Go.Proofs.YtchngbjpjbahiaaGreatDoor.PSailz
noncomputable section
open Go.RowKit Go.Proofs.YtchngbjpjbahiaaGreatDoorW.PrintWords Go.Proofs.YtchngbjpjbahiaaGreatDoorW.PrintLast Go.Proofs.YtchngbjpjbahiaaGreatDoorW.PrintMore
attribute [local go_sem] max2_int min2_int max_two min_two max_three min_three max_four min_four   -- for this text's walks alone
set_option linter.unusedVariables false
set_option linter.unusedSimpArgs false
set_option maxHeartbeats 8000000
set_option maxRecDepth 100000
attribute [local go_sem high] eqA47

def spec_l01Dec.l0 : Nat → Int → List Int → Int → Option (ByteArray)
 | 0, _, _, _ => none
 | k + 1, x0, x3, x4 => if x4 = 0 then (if (x3.length : Int) = 0 then (some (⟨#[48]⟩ : ByteArray)) else (if x0 < 0 then (if 1 + (strOfNums x3).size ≤ 9223372036854775807 then (some ((⟨#[45]⟩ : ByteArray) ++ (strOfNums x3))) else (none)) else (some (strOfNums x3)))) else (if (Int.tmod x4 10) < 0 then ((some (([(wrap64 (48 + (wrap64 (-(Int.tmod x4 10))))) % 256] : List Int) : List Int)).bind fun y441 => (if y441.length + x3.length < 140737488355328 then (spec_l01Dec.l0 k x0 (y441 ++ x3) (wrap64 (Int.tdiv x4 10))) else (none))) else ((some (([(wrap64 (48 + (Int.tmod x4 10))) % 256] : List Int) : List Int)).bind fun y447 => (if y447.length + x3.length < 140737488355328 then (spec_l01Dec.l0 k x0 (y447 ++ x3) (wrap64 (Int.tdiv x4 10))) else (none))))
def spec_l01Dec.f (k : Nat) (a0 : Int) : Option (ByteArray) := spec_l01Dec.l0 k a0 (([] : List Int)) a0
theorem spec_l01Dec.calls (k : Nat) (a0 : Int) (r : ByteArray) (w : World) (h : spec_l01Dec.f k a0 = some r) :
  Calls Tryz.prog 64 #[.int .i64 a0] w fun e w' => e = .returned (.string r) ∧ Below w.heap.size w w' := by
 have HB := zQ (Below.refl w.heap.size w)
 have H : (spec_l01Dec.l0 k a0 (([] : List Int)) a0) = some r := h
 clear h
 obtain ⟨y438, hy438⟩ : ∃ y_ : List Int, y_ = (([] : List Int)) := ⟨_, rfl⟩
 replace H : (spec_l01Dec.l0 k a0 y438 a0) = some r := zh H
 have Ny438 := zQ hy438
 clear hy438
 have H' := zQ H
 clear H
 go_enter Tryz.func64, Tryz.ntmps64
 go_wp2_with (first | ((with_reducible refine zd 6 ?_); refine Kd.R_lit (Kd.int .u8) _ 5 ?hg (N := 6) ?hd (xs := ([] : List Int)) (inner := []) (ok := fun _ => True) (okp := fun _ => True) ?hr ?hp (fun _ hk => hk) trivial (Below.refl _ _) (Nat.le_refl _) (by simp) ?_; (case hd => rfl); (case hg => rfl); (case hr => first | (go_simp; done) | (go_simp; rfl)); (case hp => exact (Reps.none _ _)); intro v439 w2 ho3 hb hg_ hnew_; clear hg_ hnew_; (first | rw [← Ny438.out] at ho3 | (simp only [Int.reduceToNat] at ho3; rw [← Ny438.out] at ho3)); have HO440 := zQ (Kd.R_lower ho3 (below_size (zB HB.out))); replace HB := zbs HB.out hb; clear hb ho3))
 go_loopg [3, 4] k (fun kq v3 v4 w' => ∃ (x3_1 : List Int) (x4_1 : Int), v4 = .int .i64 x4_1 ∧ Aside0 (spec_l01Dec.l0 kq a0 x3_1 x4_1 = some r) ∧ Aside0 (kq ≤ k) ∧ Aside0 (Kd.R (Kd.int .u8) 5 w' w.heap.size (fun _ => True) v3 x3_1) ∧ Aside0 (Below w.heap.size w w'))
 case atStart => exact ⟨(y438), (a0), (zF), H', ⟨Nat.le_refl _⟩, ⟨zR HO440.out⟩, ⟨zB HB.out⟩⟩
 case round =>
  clear H'; (try clear p2); obtain ⟨x3_1, x4_1, rfl, HA, HK1, HO_3, HB⟩ := hrel
  cases gk with
  | zero => exact absurd HA.out (by simp [spec_l01Dec.l0])
  | succ k1 =>
   have H := HA.out; clear HA
   simp only [spec_l01Dec.l0] at H
   by_cases c4 : x4_1 = 0
   ·rw [if_pos c4] at H
    have c4b0 : (x4_1 == 0) = true := beq_iff_eq.mpr c4; have c4b1 : (x4_1 != 0) = false := bne_eq_false_iff_eq.mpr c4; clear c4
    by_cases c5 : (x3_1.length : Int) = 0
    ·rw [if_pos c5] at H
     have c5b0 : ((x3_1.length : Int) == 0) = true := beq_iff_eq.mpr c5; have c5b1 : ((x3_1.length : Int) != 0) = false := bne_eq_false_iff_eq.mpr c5; clear c5; obtain rfl := Option.some.inj H; obtain ⟨Ao6, co6, eo6⟩ := Kd.R_slice HO_3.out; subst eo6
     go_wp2
     go_ret
     exact ⟨zE, zB HB.out⟩
    ·rw [if_neg c5] at H
     have c5b0 : ((x3_1.length : Int) == 0) = false := beq_eq_false_iff_ne.mpr c5; have c5b1 : ((x3_1.length : Int) != 0) = true := bne_iff_ne.mpr c5
     have c5b2 : ¬ (x3_1 = []) := fun h_ => c5 (by rw [h_]; rfl)
     by_cases c7 : a0 < 0
     ·rw [if_pos c7] at H
      have c7b0 := decide_eq_true c7; clear c7
      by_cases c8 : 1 + (strOfNums x3_1).size ≤ 9223372036854775807
      ·rw [if_pos c8] at H
       have c8b0 := eq_true c8; have c8b1 := decide_eq_true c8
       try have c8b2 : (9223372036854775807 < 1 + (strOfNums x3_1).size) = False := eq_false (Nat.not_lt.2 c8)
       obtain rfl := Option.some.inj H; obtain ⟨Ao9, co9, eo9⟩ := Kd.R_slice HO_3.out; subst eo9; have hcv10 := own_string (P := Tryz.prog) Tryz.underlying22 Tryz.underlying5 Tryz.underlying9 (Kd.own_of_R HO_3.out)
       go_wp2
       go_ret
       exact ⟨zE, zB HB.out⟩
      ·rw [if_neg c8] at H
       exact absurd H (by simp)
     ·rw [if_neg c7] at H
      have c7b0 := decide_eq_false c7; clear c7; obtain rfl := Option.some.inj H; obtain ⟨Ao11, co11, eo11⟩ := Kd.R_slice HO_3.out; subst eo11; have hcv12 := own_string (P := Tryz.prog) Tryz.underlying22 Tryz.underlying5 Tryz.underlying9 (Kd.own_of_R HO_3.out)
      go_wp2
      go_ret
      exact ⟨zE, zB HB.out⟩
   ·rw [if_neg c4] at H
    have c4b0 : (x4_1 == 0) = false := beq_eq_false_iff_ne.mpr c4; have c4b1 : (x4_1 != 0) = true := bne_iff_ne.mpr c4
    by_cases c13 : (Int.tmod x4_1 10) < 0
    ·rw [if_pos c13] at H
     have c13b0 := decide_eq_true c13; clear c13; obtain ⟨y441, hy441⟩ : ∃ y_ : List Int, y_ = (([(wrap64 (48 + (wrap64 (-(Int.tmod x4_1 10))))) % 256] : List Int)) := ⟨_, rfl⟩; replace H : (if y441.length + x3_1.length < 140737488355328 then (spec_l01Dec.l0 k1 a0 (y441 ++ x3_1) (wrap64 (Int.tdiv x4_1 10))) else (none)) = some r := zh H; have Ny441 := zQ hy441; clear hy441
     by_cases c14 : y441.length + x3_1.length < 140737488355328
     ·rw [if_pos c14] at H
      have LMc14 := zQ c14; clear c14; obtain ⟨y444, hy444⟩ : ∃ y_ : List Int, y_ = (y441 ++ x3_1) := ⟨_, rfl⟩; replace H : (spec_l01Dec.l0 k1 a0 y444 (wrap64 (Int.tdiv x4_1 10))) = some r := zh H; have Ny444 := zQ hy444; clear hy444; have H' := zQ H; clear H
      go_wp2_with (first | ((with_reducible refine zd 21 ?_); refine Kd.R_lit (Kd.int .u8) _ 5 ?hg (N := 21) ?hd (xs := ([(wrap64 (48 + (wrap64 (-(Int.tmod x4_1 10))))) % 256] : List Int)) (inner := [.int .u8 ((wrap64 (48 + (wrap64 (-(Int.tmod x4_1 10))))) % 256)]) (ok := fun _ => True) (okp := fun _ => True) ?hr ?hp (fun _ hk => hk) trivial (Below.refl _ _) (Nat.le_refl _) (by simp) ?_; (case hd => rfl); (case hg => rfl); (case hr => first | (go_simp; done) | (go_simp; rfl)); (case hp => exact (Reps.one (show Kd.M (Kd.int .u8) _ _ _ ((wrap64 (48 + (wrap64 (-(Int.tmod x4_1 10))))) % 256) [.int .u8 ((wrap64 (48 + (wrap64 (-(Int.tmod x4_1 10))))) % 256)] from rfl) (Reps.none _ _))); intro v442 w15 ho16 hb hg_ hnew_; clear hg_ hnew_; (first | rw [← Ny441.out] at ho16 | (simp only [Int.reduceToNat] at ho16; rw [← Ny441.out] at ho16)); have HO443 := zQ (Kd.R_lower (Kd.R_new' ho16 (Kd.R_lt (zR HO_3.out))) (below_size (zB HB.out))); replace HO_3 := zQ (Kd.R_elder' (zR HO_3.out) (Kd.R_base ho16) hb); replace HB := zbs HB.out hb; clear hb ho16; obtain ⟨Ao18, co18, eo18⟩ := Kd.R_slice HO_3.out; subst eo18) | ((with_reducible refine gate_builtin (b := .append) (xs := #[.tmp 21, .tmp 22]) rfl ?_); at_builtin; refine Kd.R_append_rows (Kd.int .u8) (w0 := w) w.heap.size rfl (.tmp 21) (.tmp 22) 22 5 (.int .u8 0) 1 rfl Tryz.underlying22 info5 rfl (by decide) (by omega) v442 y441 x3_1 _ _ _ (fun k_ => some k_ ≠ (.slice Ao18 x3_1.length co18 : Value).ownBlock) (fun _ => False) rfl rfl ?aO ?aR (fun _ _ h => h) (fun _ h => h.elim) ?aF ?aB ?aS ?aL ?_; (case aR => repeat (first | exact (Kd.R_reads' HO_3.out).2.2 | (with_reducible refine Kd.C_alloc ?_ _) | (with_reducible refine Kd.C_drewN ?_ _) | (with_reducible refine Kd.C_drew ?_))); (case aB => exact (zB HB.out)); (case aF => exact (fun k_ hk => Kd.fresh' (Kd.R_lt (zR HO_3.out)) k_ hk)); (case aO => exact (by (with_reducible repeat (first | apply Kd.R_alloc | apply Kd.R_drewN | apply Kd.R_drew)); exact Kd.R_mono HO443.out (fun _ hk => hk.2))); (case aS => exact (below_size (zB HB.out))); (case aL => have := LMc14.out; omega); intro v445 w17 ho hb hg hat; rw [← Ny444.out] at ho; have HO446 := zQ (ho); replace HO_3 := zQ (Kd.R_after (ok := (fun _ => True)) (zR HO_3.out) hg hat); replace HB := zQ (hb); clear HO443 ho hb hg hat))
      go_roundg k1
      case measure => have := HK1.out; omega
      case rel => exact ⟨(y444), (wrap64 (Int.tdiv x4_1 10)), (zF), H', ⟨by have := HK1.out; omega⟩, ⟨by (with_reducible repeat (first | apply Kd.R_alloc | apply Kd.R_drewN | apply Kd.R_drew)); exact Kd.R_mono HO446.out (fun _ hk => trivial)⟩, ⟨zB HB.out⟩⟩
     ·rw [if_neg c14] at H
      exact absurd H (by simp)
    ·rw [if_neg c13] at H
     have c13b0 := decide_eq_false c13; clear c13; obtain ⟨y447, hy447⟩ : ∃ y_ : List Int, y_ = (([(wrap64 (48 + (Int.tmod x4_1 10))) % 256] : List Int)) := ⟨_, rfl⟩; replace H : (if y447.length + x3_1.length < 140737488355328 then (spec_l01Dec.l0 k1 a0 (y447 ++ x3_1) (wrap64 (Int.tdiv x4_1 10))) else (none)) = some r := zh H; have Ny447 := zQ hy447; clear hy447
     by_cases c19 : y447.length + x3_1.length < 140737488355328
     ·rw [if_pos c19] at H
      have LMc19 := zQ c19; clear c19; obtain ⟨y450, hy450⟩ : ∃ y_ : List Int, y_ = (y447 ++ x3_1) := ⟨_, rfl⟩; replace H : (spec_l01Dec.l0 k1 a0 y450 (wrap64 (Int.tdiv x4_1 10))) = some r := zh H; have Ny450 := zQ hy450; clear hy450; have H' := zQ H; clear H
      go_wp2_with (first | ((with_reducible refine zd 21 ?_); refine Kd.R_lit (Kd.int .u8) _ 5 ?hg (N := 21) ?hd (xs := ([(wrap64 (48 + (Int.tmod x4_1 10))) % 256] : List Int)) (inner := [.int .u8 ((wrap64 (48 + (Int.tmod x4_1 10))) % 256)]) (ok := fun _ => True) (okp := fun _ => True) ?hr ?hp (fun _ hk => hk) trivial (Below.refl _ _) (Nat.le_refl _) (by simp) ?_; (case hd => rfl); (case hg => rfl); (case hr => first | (go_simp; done) | (go_simp; rfl)); (case hp => exact (Reps.one (show Kd.M (Kd.int .u8) _ _ _ ((wrap64 (48 + (Int.tmod x4_1 10))) % 256) [.int .u8 ((wrap64 (48 + (Int.tmod x4_1 10))) % 256)] from rfl) (Reps.none _ _))); intro v448 w20 ho21 hb hg_ hnew_; clear hg_ hnew_; (first | rw [← Ny447.out] at ho21 | (simp only [Int.reduceToNat] at ho21; rw [← Ny447.out] at ho21)); have HO449 := zQ (Kd.R_lower (Kd.R_new' ho21 (Kd.R_lt (zR HO_3.out))) (below_size (zB HB.out))); replace HO_3 := zQ (Kd.R_elder' (zR HO_3.out) (Kd.R_base ho21) hb); replace HB := zbs HB.out hb; clear hb ho21; obtain ⟨Ao23, co23, eo23⟩ := Kd.R_slice HO_3.out; subst eo23) | ((with_reducible refine gate_builtin (b := .append) (xs := #[.tmp 21, .tmp 22]) rfl ?_); at_builtin; refine Kd.R_append_rows (Kd.int .u8) (w0 := w) w.heap.size rfl (.tmp 21) (.tmp 22) 22 5 (.int .u8 0) 1 rfl Tryz.underlying22 info5 rfl (by decide) (by omega) v448 y447 x3_1 _ _ _ (fun k_ => some k_ ≠ (.slice Ao23 x3_1.length co23 : Value).ownBlock) (fun _ => False) rfl rfl ?aO ?aR (fun _ _ h => h) (fun _ h => h.elim) ?aF ?aB ?aS ?aL ?_; (case aR => repeat (first | exact (Kd.R_reads' HO_3.out).2.2 | (with_reducible refine Kd.C_alloc ?_ _) | (with_reducible refine Kd.C_drewN ?_ _) | (with_reducible refine Kd.C_drew ?_))); (case aB => exact (zB HB.out)); (case aF => exact (fun k_ hk => Kd.fresh' (Kd.R_lt (zR HO_3.out)) k_ hk)); (case aO => exact (by (with_reducible repeat (first | apply Kd.R_alloc | apply Kd.R_drewN | apply Kd.R_drew)); exact Kd.R_mono HO449.out (fun _ hk => hk.2))); (case aS => exact (below_size (zB HB.out))); (case aL => have := LMc19.out; omega); intro v451 w22 ho hb hg hat; rw [← Ny450.out] at ho; have HO452 := zQ (ho); replace HO_3 := zQ (Kd.R_after (ok := (fun _ => True)) (zR HO_3.out) hg hat); replace HB := zQ (hb); clear HO449 ho hb hg hat))
      go_roundg k1
      case measure => have := HK1.out; omega
      case rel => exact ⟨(y450), (wrap64 (Int.tdiv x4_1 10)), (zF), H', ⟨by have := HK1.out; omega⟩, ⟨by (with_reducible repeat (first | apply Kd.R_alloc | apply Kd.R_drewN | apply Kd.R_drew)); exact Kd.R_mono HO452.out (fun _ hk => trivial)⟩, ⟨zB HB.out⟩⟩
     ·rw [if_neg c19] at H
      exact absurd H (by simp)

def spec_l13Text.l0 : Nat → List (S47) → ByteArray → Int → Option (ByteArray)
 | 0, _, _, _ => none
 | k + 1, x0, x3, x4 => if x4 < (x0.length : Int) then (if x4 > 0 then (if x3.size + 1 ≤ 9223372036854775807 then (if 0 ≤ x4 then ((spec_l01Dec.f k ((rd_T47 x0 x4).f0)).bind fun t454 => (if t454.size + 1 ≤ 9223372036854775807 then ((spec_l01Dec.f k ((rd_T47 x0 x4).f1)).bind fun t456 => (if (t454 ++ (⟨#[44]⟩ : ByteArray)).size + t456.size ≤ 9223372036854775807 then (if (x3 ++ (⟨#[32]⟩ : ByteArray)).size + ((t454 ++ (⟨#[44]⟩ : ByteArray)) ++ t456).size ≤ 9223372036854775807 then (spec_l13Text.l0 k x0 ((x3 ++ (⟨#[32]⟩ : ByteArray)) ++ ((t454 ++ (⟨#[44]⟩ : ByteArray)) ++ t456)) (wrap64 (x4 + 1))) else (none)) else (none))) else (none))) else (none)) else (none)) else (if 0 ≤ x4 then ((spec_l01Dec.f k ((rd_T47 x0 x4).f0)).bind fun t458 => (if t458.size + 1 ≤ 9223372036854775807 then ((spec_l01Dec.f k ((rd_T47 x0 x4).f1)).bind fun t460 => (if (t458 ++ (⟨#[44]⟩ : ByteArray)).size + t460.size ≤ 9223372036854775807 then (if x3.size + ((t458 ++ (⟨#[44]⟩ : ByteArray)) ++ t460).size ≤ 9223372036854775807 then (spec_l13Text.l0 k x0 (x3 ++ ((t458 ++ (⟨#[44]⟩ : ByteArray)) ++ t460)) (wrap64 (x4 + 1))) else (none)) else (none))) else (none))) else (none))) else (some x3)
def spec_l13Text.f (k : Nat) (l0 : List (S47)) : Option (ByteArray) := spec_l13Text.l0 k l0 (⟨#[]⟩ : ByteArray) 0
def spec_l13Text.T7 : Bool × List (List Nat × List Nat) := (true, [([], []), ([], []), ([], []), ([1, 2], [1, 2]), ([3], [3]), ([4], [4]), ([5], [5]), ([6], [6]), ([], []), ([], []), ([8, 9], [8, 9]), ([10], [10]), ([11], [11]), ([12, 6], [12]), ([7, 13], [7, 13]), ([0, 14], [0, 14]), ([15, 13, 0, 1, 2, 3, 4, 5, 6, 7, 8, 9, 10, 11, 12, 13, 14, 15], [0, 15])])
def spec_l13Text.B7 : List Nat := [0, 0, 0, 6, 14, 30, 62, 126, 0, 0, 768, 1792, 3840, 8062, 16382, 32767, 65535]
theorem spec_l13Text.tab7 : rtab .any (opsOf Tryz.f43 7) = spec_l13Text.T7 := by kernel_rfl
theorem spec_l13Text.bits7 : waitsOk spec_l13Text.T7.2 spec_l13Text.B7 = true := by kernel_rfl
theorem spec_l13Text.calls (k : Nat) (A0 : Option Addr) (c0 : Nat) (l0 : List (S47)) (r : ByteArray) (w : World) (hr0 : Kd.C k47 w A0 l0.length l0) (hc0 : l0.length ≤ c0) (h : spec_l13Text.f k l0 = some r) :
  Calls Tryz.prog 43 #[.slice A0 l0.length c0] w fun e w' => e = .returned (.string r) ∧ Below w.heap.size w w' := by
 have HR0 := zQ hr0
 have HC0 := zQ hc0
 clear hr0 hc0
 have HB := zQ (Below.refl w.heap.size w)
 have H : (spec_l13Text.l0 k l0 (⟨#[]⟩ : ByteArray) 0) = some r := h
 clear h
 have H' := zQ H
 clear H
 go_enter Tryz.func43, Tryz.ntmps43
 go_wp2
 go_loopg [3, 4] k (fun kq v3 v4 w' => ∃ (x3_1 : ByteArray) (x4_1 : Int), v3 = .string x3_1 ∧ v4 = .int .i64 x4_1 ∧ Aside0 (spec_l13Text.l0 kq l0 x3_1 x4_1 = some r) ∧ Aside0 (kq ≤ k) ∧ Aside0 (Below w.heap.size w w'))
 case atStart => exact ⟨((⟨#[]⟩ : ByteArray)), (0), (zF), (zF), H', ⟨Nat.le_refl _⟩, ⟨zB HB.out⟩⟩
 case round =>
  clear H'; obtain ⟨x3_1, x4_1, rfl, rfl, HA, HK1, HB⟩ := hrel
  cases gk with
  | zero => exact absurd HA.out (by simp [spec_l13Text.l0])
  | succ k1 =>
   have H := HA.out; clear HA
   simp only [spec_l13Text.l0] at H
   by_cases c2 : x4_1 < (l0.length : Int)
   ·rw [if_pos c2] at H
    have c2b0 := decide_eq_true c2; clear c2
    by_cases c3 : x4_1 > 0
    ·rw [if_pos c3] at H
     have c3b0 := decide_eq_true c3; clear c3
     by_cases c4 : x3_1.size + 1 ≤ 9223372036854775807
     ·rw [if_pos c4] at H
      have c4b0 := eq_true c4; have c4b1 := decide_eq_true c4
      try have c4b2 : (9223372036854775807 < x3_1.size + 1) = False := eq_false (Nat.not_lt.2 c4)
      by_cases c5 : 0 ≤ x4_1
      ·rw [if_pos c5] at H
       have c5b0 := decide_eq_true c5; clear c5; replace H := zob H; obtain ⟨t454, A6, H⟩ := H
       by_cases c7 : t454.size + 1 ≤ 9223372036854775807
       ·rw [if_pos c7] at H
        have c7b0 := eq_true c7; have c7b1 := decide_eq_true c7
        try have c7b2 : (9223372036854775807 < t454.size + 1) = False := eq_false (Nat.not_lt.2 c7)
        replace H := zob H; obtain ⟨t456, A8, H⟩ := H
        by_cases c9 : (t454 ++ (⟨#[44]⟩ : ByteArray)).size + t456.size ≤ 9223372036854775807
        ·rw [if_pos c9] at H
         have c9b0 := eq_true c9; have c9b1 := decide_eq_true c9
         try have c9b2 : (9223372036854775807 < (t454 ++ (⟨#[44]⟩ : ByteArray)).size + t456.size) = False := eq_false (Nat.not_lt.2 c9)
         try have c9b3 := c9b2
         try simp only [ByteArray.size_append, show ((⟨#[44]⟩ : ByteArray)).size = 1 from rfl, show ((⟨#[45]⟩ : ByteArray)).size = 1 from rfl, show ((⟨#[32]⟩ : ByteArray)).size = 1 from rfl] at c9b3
         by_cases c10 : (x3_1 ++ (⟨#[32]⟩ : ByteArray)).size + ((t454 ++ (⟨#[44]⟩ : ByteArray)) ++ t456).size ≤ 9223372036854775807
         ·rw [if_pos c10] at H
          have c10b0 := eq_true c10; have c10b1 := decide_eq_true c10
          try have c10b2 : (9223372036854775807 < (x3_1 ++ (⟨#[32]⟩ : ByteArray)).size + ((t454 ++ (⟨#[44]⟩ : ByteArray)) ++ t456).size) = False := eq_false (Nat.not_lt.2 c10)
          try have c10b3 := c10b2
          try simp only [ByteArray.size_append, show ((⟨#[44]⟩ : ByteArray)).size = 1 from rfl, show ((⟨#[45]⟩ : ByteArray)).size = 1 from rfl, show ((⟨#[32]⟩ : ByteArray)).size = 1 from rfl] at c10b3
          have H' := zQ H; clear H
          try go_wp2
          have n0_ := zQ (below_drew1 HB.out); clear HB; have HB := n0_; clear n0_; have p453 : 0 ≤ (x4_1 : Int) := zD; have q453 : x4_1 < (l0.length : Int) := zD; obtain ⟨ad453, e453, hx453_0, hx453_1⟩ := at_T47 HR0.out x4_1 p453 q453; have hw453_1 := hx453_1; have hw453_0 := hx453_0
          cases e453
          replace hx453_0 := zw HB.out hx453_0; replace hx453_1 := zw HB.out hx453_1; replace p453 := eq_true p453; replace q453 := eq_true q453; have p455 : 0 ≤ (x4_1 : Int) := zD; have q455 : x4_1 < (l0.length : Int) := zD; obtain ⟨ad455, e455, hx455_0, hx455_1⟩ := at_T47 HR0.out x4_1 p455 q455; have hw455_1 := hx455_1; have hw455_0 := hx455_0; obtain rfl : ad453 = ad455 := (by injection e455); replace hx455_0 := zw HB.out hx455_0; replace hx455_1 := zw HB.out hx455_1; replace p455 := eq_true p455; replace q455 := eq_true q455
          refine zs (fun w' => w'.cell? (ad453.add ((x4_1).toNat * 2)) = some (.int .i64 ((rd_T47 l0 x4_1).f0)) ∧ w'.cell? ⟨(ad453.add ((x4_1).toNat * 2)).block, (ad453.add ((x4_1).toNat * 2)).off + 1, none⟩ = some (.int .i64 ((rd_T47 l0 x4_1).f1)) ∧ w'.cell? (ad453.add ((x4_1).toNat * 2)) = some (.int .i64 ((rd_T47 l0 x4_1).f0)) ∧ w'.cell? ⟨(ad453.add ((x4_1).toNat * 2)).block, (ad453.add ((x4_1).toNat * 2)).off + 1, none⟩ = some (.int .i64 ((rd_T47 l0 x4_1).f1))) [] 17 ⟨((HB.out.cell (World.block_lt_of_cell? w _ hw453_0)).trans hw453_0), ((HB.out.cell (World.block_lt_of_cell? w _ hw453_1)).trans hw453_1), ((HB.out.cell (World.block_lt_of_cell? w _ hw455_0)).trans hw455_0), ((HB.out.cell (World.block_lt_of_cell? w _ hw455_1)).trans hw455_1)⟩ (fun hHeld => ?_); refine with_tabW spec_l13Text.tab7 spec_l13Text.bits7 (fun HT_ HW_ => ?_)
          generalize wr.drew = w11 at HB hx453_0 hx453_1 hx455_0 hx455_1 hHeld ⊢
          refine zp 0 15 ?_
          refine zp 1 16 ?_
          refine zp 2 17 ?_
          refine zp 3 18 ?_
          refine zp 4 19 ?_
          refine zp 8 23 ?_
          refine zp 9 24 ?_
          refine zp 10 25 ?_
          refine zp 11 26 ?_
          refine zt 5 20 hHeld ?_
          refine zt 12 27 hHeld ?_
          refine zo 6 (some 21) (fun K hK => ?_)
          refine goes_ Tryz.func64 (by kernel_rfl) rfl #[.int .i64 ((rd_T47 l0 x4_1).f0)] (by rfl) rfl rfl zM ?_
          with_reducible refine (spec_l01Dec.calls k1 ((rd_T47 l0 x4_1).f0) t454 _ A6.out).mono ?_
          rintro e w12 ⟨rfl, hb⟩
          refine ⟨_, rfl, ?_⟩
          have n0_ := zbs HB.out hb; clear HB; have HB := n0_; clear n0_
          (try clear hb)
          (try clear hb2)
          (try clear hk)
          (try clear hi)
          refine hK.out _ _ ⟨((HB.out.cell (World.block_lt_of_cell? w _ hw453_0)).trans hw453_0), ((HB.out.cell (World.block_lt_of_cell? w _ hw453_1)).trans hw453_1), ((HB.out.cell (World.block_lt_of_cell? w _ hw455_0)).trans hw455_0), ((HB.out.cell (World.block_lt_of_cell? w _ hw455_1)).trans hw455_1)⟩ (fun hHeld => ?_)
          clear hK K
          refine zn 21 ?_
          refine zp 7 22 ?_
          refine zo 13 (some 28) (fun K hK => ?_)
          refine goes_ Tryz.func64 (by kernel_rfl) rfl #[.int .i64 ((rd_T47 l0 x4_1).f1)] (by rfl) rfl rfl zM ?_
          with_reducible refine (spec_l01Dec.calls k1 ((rd_T47 l0 x4_1).f1) t456 _ A8.out).mono ?_
          rintro e w13 ⟨rfl, hb⟩
          refine ⟨_, rfl, ?_⟩
          have n0_ := zbs HB.out hb; clear HB; have HB := n0_; clear n0_
          (try clear hb)
          (try clear hb2)
          (try clear hk)
          (try clear hi)
          refine hK.out _ _ ⟨((HB.out.cell (World.block_lt_of_cell? w _ hw453_0)).trans hw453_0), ((HB.out.cell (World.block_lt_of_cell? w _ hw453_1)).trans hw453_1), ((HB.out.cell (World.block_lt_of_cell? w _ hw455_0)).trans hw455_0), ((HB.out.cell (World.block_lt_of_cell? w _ hw455_1)).trans hw455_1)⟩ (fun hHeld => ?_)
          clear hK K
          refine zn 28 ?_
          refine zp 14 29 ?_
          refine zp 15 30 ?_
          refine zp 16 3 ?_
          refine done_ (done_of HT_.out (by kernel_rfl)) ?_
          try go_wp2
          go_roundg k1
          case measure => have := HK1.out; omega
          case rel => exact ⟨((x3_1 ++ (⟨#[32]⟩ : ByteArray)) ++ ((t454 ++ (⟨#[44]⟩ : ByteArray)) ++ t456)), (wrap64 (x4_1 + 1)), (zF), (zF), H', ⟨by have := HK1.out; omega⟩, ⟨zB HB.out⟩⟩
         ·rw [if_neg c10] at H
          exact absurd H (by simp)
        ·rw [if_neg c9] at H
         exact absurd H (by simp)
       ·rw [if_neg c7] at H
        exact absurd H (by simp)
      ·rw [if_neg c5] at H
       exact absurd H (by simp)
     ·rw [if_neg c4] at H
      exact absurd H (by simp)
    ·rw [if_neg c3] at H
     have c3b0 := decide_eq_false c3; clear c3
     by_cases c14 : 0 ≤ x4_1
     ·rw [if_pos c14] at H
      have c14b0 := decide_eq_true c14; clear c14; replace H := zob H; obtain ⟨t458, A15, H⟩ := H
      by_cases c16 : t458.size + 1 ≤ 9223372036854775807
      ·rw [if_pos c16] at H
       have c16b0 := eq_true c16; have c16b1 := decide_eq_true c16
       try have c16b2 : (9223372036854775807 < t458.size + 1) = False := eq_false (Nat.not_lt.2 c16)
       replace H := zob H; obtain ⟨t460, A17, H⟩ := H
       by_cases c18 : (t458 ++ (⟨#[44]⟩ : ByteArray)).size + t460.size ≤ 9223372036854775807
       ·rw [if_pos c18] at H
        have c18b0 := eq_true c18; have c18b1 := decide_eq_true c18
        try have c18b2 : (9223372036854775807 < (t458 ++ (⟨#[44]⟩ : ByteArray)).size + t460.size) = False := eq_false (Nat.not_lt.2 c18)
        try have c18b3 := c18b2
        try simp only [ByteArray.size_append, show ((⟨#[44]⟩ : ByteArray)).size = 1 from rfl, show ((⟨#[45]⟩ : ByteArray)).size = 1 from rfl, show ((⟨#[32]⟩ : ByteArray)).size = 1 from rfl] at c18b3
        by_cases c19 : x3_1.size + ((t458 ++ (⟨#[44]⟩ : ByteArray)) ++ t460).size ≤ 9223372036854775807
        ·rw [if_pos c19] at H
         have c19b0 := eq_true c19; have c19b1 := decide_eq_true c19
         try have c19b2 : (9223372036854775807 < x3_1.size + ((t458 ++ (⟨#[44]⟩ : ByteArray)) ++ t460).size) = False := eq_false (Nat.not_lt.2 c19)
         try have c19b3 := c19b2
         try simp only [ByteArray.size_append, show ((⟨#[44]⟩ : ByteArray)).size = 1 from rfl, show ((⟨#[45]⟩ : ByteArray)).size = 1 from rfl, show ((⟨#[32]⟩ : ByteArray)).size = 1 from rfl] at c19b3
         have H' := zQ H; clear H
         try go_wp2
         have n0_ := zQ (below_drew1 HB.out); clear HB; have HB := n0_; clear n0_; have p457 : 0 ≤ (x4_1 : Int) := zD; have q457 : x4_1 < (l0.length : Int) := zD; obtain ⟨ad457, e457, hx457_0, hx457_1⟩ := at_T47 HR0.out x4_1 p457 q457; have hw457_1 := hx457_1; have hw457_0 := hx457_0
         cases e457
         replace hx457_0 := zw HB.out hx457_0; replace hx457_1 := zw HB.out hx457_1; replace p457 := eq_true p457; replace q457 := eq_true q457; have p459 : 0 ≤ (x4_1 : Int) := zD; have q459 : x4_1 < (l0.length : Int) := zD; obtain ⟨ad459, e459, hx459_0, hx459_1⟩ := at_T47 HR0.out x4_1 p459 q459; have hw459_1 := hx459_1; have hw459_0 := hx459_0; obtain rfl : ad457 = ad459 := (by injection e459); replace hx459_0 := zw HB.out hx459_0; replace hx459_1 := zw HB.out hx459_1; replace p459 := eq_true p459; replace q459 := eq_true q459
         refine zs (fun w' => w'.cell? (ad457.add ((x4_1).toNat * 2)) = some (.int .i64 ((rd_T47 l0 x4_1).f0)) ∧ w'.cell? ⟨(ad457.add ((x4_1).toNat * 2)).block, (ad457.add ((x4_1).toNat * 2)).off + 1, none⟩ = some (.int .i64 ((rd_T47 l0 x4_1).f1)) ∧ w'.cell? (ad457.add ((x4_1).toNat * 2)) = some (.int .i64 ((rd_T47 l0 x4_1).f0)) ∧ w'.cell? ⟨(ad457.add ((x4_1).toNat * 2)).block, (ad457.add ((x4_1).toNat * 2)).off + 1, none⟩ = some (.int .i64 ((rd_T47 l0 x4_1).f1))) [] 17 ⟨((HB.out.cell (World.block_lt_of_cell? w _ hw457_0)).trans hw457_0), ((HB.out.cell (World.block_lt_of_cell? w _ hw457_1)).trans hw457_1), ((HB.out.cell (World.block_lt_of_cell? w _ hw459_0)).trans hw459_0), ((HB.out.cell (World.block_lt_of_cell? w _ hw459_1)).trans hw459_1)⟩ (fun hHeld => ?_); refine with_tabW spec_l13Text.tab7 spec_l13Text.bits7 (fun HT_ HW_ => ?_)
         generalize wr.drew = w20 at HB hx457_0 hx457_1 hx459_0 hx459_1 hHeld ⊢
         refine zp 0 15 ?_
         refine zp 1 16 ?_
         refine zp 2 17 ?_
         refine zp 3 18 ?_
         refine zp 4 19 ?_
         refine zp 8 23 ?_
         refine zp 9 24 ?_
         refine zp 10 25 ?_
         refine zp 11 26 ?_
         refine zt 5 20 hHeld ?_
         refine zt 12 27 hHeld ?_
         refine zo 6 (some 21) (fun K hK => ?_)
         refine goes_ Tryz.func64 (by kernel_rfl) rfl #[.int .i64 ((rd_T47 l0 x4_1).f0)] (by rfl) rfl rfl zM ?_
         with_reducible refine (spec_l01Dec.calls k1 ((rd_T47 l0 x4_1).f0) t458 _ A15.out).mono ?_
         rintro e w21 ⟨rfl, hb⟩
         refine ⟨_, rfl, ?_⟩
         have n0_ := zbs HB.out hb; clear HB; have HB := n0_; clear n0_
         (try clear hb)
         (try clear hb2)
         (try clear hk)
         (try clear hi)
         refine hK.out _ _ ⟨((HB.out.cell (World.block_lt_of_cell? w _ hw457_0)).trans hw457_0), ((HB.out.cell (World.block_lt_of_cell? w _ hw457_1)).trans hw457_1), ((HB.out.cell (World.block_lt_of_cell? w _ hw459_0)).trans hw459_0), ((HB.out.cell (World.block_lt_of_cell? w _ hw459_1)).trans hw459_1)⟩ (fun hHeld => ?_)
         clear hK K
         refine zn 21 ?_
         refine zp 7 22 ?_
         refine zo 13 (some 28) (fun K hK => ?_)
         refine goes_ Tryz.func64 (by kernel_rfl) rfl #[.int .i64 ((rd_T47 l0 x4_1).f1)] (by rfl) rfl rfl zM ?_
         with_reducible refine (spec_l01Dec.calls k1 ((rd_T47 l0 x4_1).f1) t460 _ A17.out).mono ?_
         rintro e w22 ⟨rfl, hb⟩
         refine ⟨_, rfl, ?_⟩
         have n0_ := zbs HB.out hb; clear HB; have HB := n0_; clear n0_
         (try clear hb)
         (try clear hb2)
         (try clear hk)
         (try clear hi)
         refine hK.out _ _ ⟨((HB.out.cell (World.block_lt_of_cell? w _ hw457_0)).trans hw457_0), ((HB.out.cell (World.block_lt_of_cell? w _ hw457_1)).trans hw457_1), ((HB.out.cell (World.block_lt_of_cell? w _ hw459_0)).trans hw459_0), ((HB.out.cell (World.block_lt_of_cell? w _ hw459_1)).trans hw459_1)⟩ (fun hHeld => ?_)
         clear hK K
         refine zn 28 ?_
         refine zp 14 29 ?_
         refine zp 15 30 ?_
         refine zp 16 3 ?_
         refine done_ (done_of HT_.out (by kernel_rfl)) ?_
         try go_wp2
         go_roundg k1
         case measure => have := HK1.out; omega
         case rel => exact ⟨(x3_1 ++ ((t458 ++ (⟨#[44]⟩ : ByteArray)) ++ t460)), (wrap64 (x4_1 + 1)), (zF), (zF), H', ⟨by have := HK1.out; omega⟩, ⟨zB HB.out⟩⟩
        ·rw [if_neg c19] at H
         exact absurd H (by simp)
       ·rw [if_neg c18] at H
        exact absurd H (by simp)
      ·rw [if_neg c16] at H
       exact absurd H (by simp)
     ·rw [if_neg c14] at H
      exact absurd H (by simp)
   ·rw [if_neg c2] at H
    have c2b0 := decide_eq_false c2; clear c2; obtain rfl := Option.some.inj H
    go_wp2
    go_ret
    exact ⟨zE, zB HB.out⟩

def spec_SailText.f (k : Nat) (l0 : List (S47)) : Option (ByteArray) := (spec_l13Ok.f k l0).bind fun t567 => (if t567 = true then ((spec_l13Text.f k l0).bind fun t568 => (some t568)) else (some (⟨#[]⟩ : ByteArray)))
theorem spec_SailText.calls (k : Nat) (A0 : Option Addr) (c0 : Nat) (l0 : List (S47)) (r : ByteArray) (w : World) (hr0 : Kd.C k47 w A0 l0.length l0) (hc0 : l0.length ≤ c0) (h : spec_SailText.f k l0 = some r) :
  Calls Tryz.prog 21 #[.slice A0 l0.length c0] w fun e w' => e = .returned (.string r) ∧ Below w.heap.size w w' := by
 have HR0 := zQ hr0
 have HC0 := zQ hc0
 clear hr0 hc0
 have HB := zQ (Below.refl w.heap.size w)
 have H := h; unfold spec_SailText.f at H
 clear h
 replace H := zob H; obtain ⟨t567, A2, H⟩ := H
 by_cases c3 : t567 = true
 ·subst c3
  rw [if_pos rfl] at H; replace H := zob H; obtain ⟨t568, A4, H⟩ := H; obtain rfl := Option.some.inj H
  go_enter Tryz.func21, Tryz.ntmps21
  go_wp2_with (first | ((with_reducible refine zgc 31 ?_); refine goesL_ (some 4) rfl rfl Tryz.func31 (by kernel_rfl) rfl #[.slice A0 l0.length c0] rfl zM ?_; (with_reducible refine (spec_l13Ok.calls k _ _ l0 true _ ?side1 HC0.out A2.out).mono ?_); (case side1 => repeat (first | exact HR0.out | (with_reducible refine Kd.C_alloc ?_ _) | (with_reducible refine Kd.C_drewN ?_ _) | (with_reducible refine Kd.C_drew ?_))); rintro e w5 ⟨rfl, hb⟩; refine ⟨_, rfl, ?_⟩; replace HB := zbs HB.out hb; (try clear hb)) | ((with_reducible refine zgc 43 ?_); refine goesL_ (some 7) rfl rfl Tryz.func43 (by kernel_rfl) rfl #[.slice A0 l0.length c0] rfl zM ?_; (with_reducible refine (spec_l13Text.calls k _ _ l0 t568 _ (zC HR0.out HB.out) HC0.out A4.out).mono ?_); rintro e w6 ⟨rfl, hb⟩; refine ⟨_, rfl, ?_⟩; replace HB := zbs HB.out hb; (try clear hb)))
  go_ret
  exact ⟨zE, zB HB.out⟩
 ·replace c3 := Bool.eq_false_iff.mpr c3
  subst c3
  rw [if_neg Bool.false_ne_true] at H; obtain rfl := Option.some.inj H
  go_enter Tryz.func21, Tryz.ntmps21
  go_wp2_with (first | ((with_reducible refine zgc 31 ?_); refine goesL_ (some 4) rfl rfl Tryz.func31 (by kernel_rfl) rfl #[.slice A0 l0.length c0] rfl zM ?_; (with_reducible refine (spec_l13Ok.calls k _ _ l0 false _ ?side1 HC0.out A2.out).mono ?_); (case side1 => repeat (first | exact HR0.out | (with_reducible refine Kd.C_alloc ?_ _) | (with_reducible refine Kd.C_drewN ?_ _) | (with_reducible refine Kd.C_drew ?_))); rintro e w7 ⟨rfl, hb⟩; refine ⟨_, rfl, ?_⟩; replace HB := zbs HB.out hb; (try clear hb)))
  go_ret
  exact ⟨zE, zB HB.out⟩

end
end Go.Proofs.YtchngbjpjbahiaaGreatDoor.PSailz

