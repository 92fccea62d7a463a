import Derived.Test.YtchngbjpjbahiaaGreatDoorHSailz0
import Derived.Test.YtchngbjpjbahiaaGreatDoorHSailzi
import Derived.Test.YtchngbjpjbahiaaGreatDoorHSailzp
namespace Go.Proofs.YtchngbjpjbahiaaGreatDoor.PSailz
noncomputable section
open Go.RowKit Go.Proofs.YtchngbjpjbahiaaGreatDoorW.PrintWords Go.Proofs.YtchngbjpjbahiaaGreatDoorW.PrintLast Go.Proofs.YtchngbjpjbahiaaGreatDoorW.PrintMore
attribute [local go_sem] max2_int min2_int max_two min_two max_three min_three max_four min_four   -- for this text's walks alone
set_option linter.unusedVariables false
set_option linter.unusedSimpArgs false
set_option maxHeartbeats 8000000
set_option maxRecDepth 100000

def spec_l01Split.l0 : Nat → ByteArray → Int → List ByteArray → Int → Int → Option (List ByteArray)
 | 0, _, _, _, _, _ => none
 | k + 1, x0, x1, x5, x6, x7 => if x7 < (x0.size : Int) then (if 0 ≤ x7 then (if (bt x0 x7) = x1 then (if 0 ≤ x6 then (if x6 ≤ x7 then (if x7 ≤ (x0.size : Int) then (if x5.length < 8796093022208 then (spec_l01Split.l0 k x0 x1 (x5 ++ [x0.extract (x6 : Int).toNat (x7 : Int).toNat]) (wrap64 (x7 + 1)) (wrap64 (x7 + 1))) else (none)) else (none)) else (none)) else (none)) else (spec_l01Split.l0 k x0 x1 x5 x6 (wrap64 (x7 + 1)))) else (none)) else (if 0 ≤ x6 then (if x6 ≤ (x0.size : Int) then (if x5.length < 8796093022208 then (some (x5 ++ [x0.extract (x6 : Int).toNat x0.size])) else (none)) else (none)) else (none))
def spec_l01Split.f (k : Nat) (a0 : ByteArray) (a1 : Int) : Option (List ByteArray) := spec_l01Split.l0 k a0 a1 (([] : List ByteArray)) 0 0
theorem spec_l01Split.calls (k : Nat) (a0 : ByteArray) (a1 : Int) (r : List ByteArray) (w : World) (h : spec_l01Split.f k a0 a1 = some r) :
  Calls Tryz.prog 46 #[.string a0, .int .u8 a1] w fun e w' => ∃ v0_ : Value, e = .returned (v0_) ∧ Kd.R Kd.string 9 w' w.heap.size (fun _ => True) v0_ r ∧ Below w.heap.size w w' := by
 have HB := zQ (Below.refl w.heap.size w)
 have H := h; unfold spec_l01Split.f at H
 clear h
 obtain ⟨y496, hy496⟩ : ∃ y_ : List ByteArray, y_ = (([] : List ByteArray)) := ⟨_, rfl⟩
 replace H : (spec_l01Split.l0 k a0 a1 y496 0 0) = some r := zh H
 have Ny496 := zQ hy496
 clear hy496
 have H' := zQ H
 clear H
 go_enter Tryz.func46, Tryz.ntmps46
 go_wp2_with (first | ((with_reducible refine zd 8 ?_); refine Kd.R_lit Kd.string _ 9 ?hg (N := 8) ?hd (xs := ([] : List ByteArray)) (inner := []) (ok := fun _ => True) (okp := fun _ => True) ?hr ?hp (fun _ hk => hk) trivial (Below.refl _ _) (Nat.le_refl _) (by simp) ?_; (case hd => rfl); (case hg => rfl); (case hr => first | (go_simp; done) | (go_simp; rfl)); (case hp => exact (Reps.none _ _)); intro v497 w3 ho4 hb hg_ hnew_; clear hg_ hnew_; (first | rw [← Ny496.out] at ho4 | (simp only [Int.reduceToNat] at ho4; rw [← Ny496.out] at ho4)); have HO498 := zQ (Kd.R_lower ho4 (below_size (zB HB.out))); replace HB := zbs HB.out hb; clear hb ho4))
 go_loopg [5, 6, 7] k (fun kq v5 v6 v7 w' => ∃ (x5_1 : List ByteArray) (x6_1 : Int) (x7_1 : Int), v6 = .int .i64 x6_1 ∧ v7 = .int .i64 x7_1 ∧ Aside0 (spec_l01Split.l0 kq a0 a1 x5_1 x6_1 x7_1 = some r) ∧ Aside0 (kq ≤ k) ∧ Aside0 (Kd.R Kd.string 9 w' w.heap.size (fun _ => True) v5 x5_1) ∧ Aside0 (Below w.heap.size w w'))
 case atStart => exact ⟨(y496), (0), (0), (zF), (zF), H', ⟨Nat.le_refl _⟩, ⟨zR HO498.out⟩, ⟨zB HB.out⟩⟩
 case round =>
  clear H'; (try clear p2); (try clear c4); obtain ⟨x5_1, x6_1, x7_1, rfl, rfl, HA, HK1, HO_5, HB⟩ := hrel
  cases gk with
  | zero => exact absurd HA.out (by simp [spec_l01Split.l0])
  | succ k1 =>
   have H := HA.out; clear HA
   simp only [spec_l01Split.l0] at H
   by_cases c5 : x7_1 < (a0.size : Int)
   ·rw [if_pos c5] at H
    have c5b0 := decide_eq_true c5; clear c5
    by_cases c6 : 0 ≤ x7_1
    ·rw [if_pos c6] at H
     have c6b0 := decide_eq_true c6; clear c6
     by_cases c8 : (bt a0 x7_1) = a1
     ·rw [if_pos c8] at H
      have c8b0 : ((bt a0 x7_1) == a1) = true := beq_iff_eq.mpr c8; have c8b1 : ((bt a0 x7_1) != a1) = false := bne_eq_false_iff_eq.mpr c8; clear c8
      by_cases c9 : 0 ≤ x6_1
      ·rw [if_pos c9] at H
       have c9b0 := eq_true c9; have c9b1 := decide_eq_true c9; clear c9
       by_cases c10 : x6_1 ≤ x7_1
       ·rw [if_pos c10] at H
        have c10b0 := eq_true c10; have c10b1 := decide_eq_true c10; clear c10
        by_cases c11 : x7_1 ≤ (a0.size : Int)
        ·rw [if_pos c11] at H
         have c11b0 := eq_true c11; have c11b1 := decide_eq_true c11; clear c11
         by_cases c12 : x5_1.length < 8796093022208
         ·rw [if_pos c12] at H
          have LMc12 := zQ c12; clear c12; obtain ⟨y499, hy499⟩ : ∃ y_ : List ByteArray, y_ = (x5_1 ++ [a0.extract (x6_1 : Int).toNat (x7_1 : Int).toNat]) := ⟨_, rfl⟩; replace H : (spec_l01Split.l0 k1 a0 a1 y499 (wrap64 (x7_1 + 1)) (wrap64 (x7_1 + 1))) = some r := zh H; have Ny499 := zQ hy499; clear hy499; have H' := zQ H; clear H; have p7 : 0 ≤ (x7_1 : Int) := zD; have q7 : x7_1 < (a0.size : Int) := zD; have hx7 := bt_at a0 x7_1; replace p7 := eq_true p7; replace q7 := eq_true q7
          go_wp2_with (first | ((with_reducible refine gate_builtin (b := .append) (xs := #[.tmp 20, .tmp 25]) rfl ?_); at_builtin; refine Kd.R_append Kd.string (w0 := w) w.heap.size rfl (.tmp 20) (.tmp 25) 58 9 (.string ⟨#[]⟩) 16 rfl Tryz.underlying58 info9 rfl (by decide) (by omega) u5 x5_1 (a0.extract (x6_1 : Int).toNat (x7_1 : Int).toNat) [.string (a0.extract (x6_1 : Int).toNat (x7_1 : Int).toNat)] (fun _ => True) (fun _ => False) rfl rfl ?aP (fun _ hk => hk.elim) ?aF ?aO ?aB ?aS ?aL ?_; (case aP => exact rfl); (case aB => exact (zB HB.out)); (case aF => exact (fun _ _ => trivial)); (case aO => exact (zR HO_5.out)); (case aS => exact (below_size (zB HB.out))); (case aL => have := LMc12.out; omega); intro v500 w13 ho hb hg hat; rw [← Ny499.out] at ho; have HO501 := zQ (ho); replace HB := zQ (hb); clear HO_5 ho hb hg hat))
          go_roundg k1
          case measure => have := HK1.out; omega
          case rel => exact ⟨(y499), (wrap64 (x7_1 + 1)), (wrap64 (x7_1 + 1)), (zF), (zF), H', ⟨by have := HK1.out; omega⟩, ⟨zR HO501.out⟩, ⟨zB HB.out⟩⟩
         ·rw [if_neg c12] at H
          exact absurd H (by simp)
        ·rw [if_neg c11] at H
         exact absurd H (by simp)
       ·rw [if_neg c10] at H
        exact absurd H (by simp)
      ·rw [if_neg c9] at H
       exact absurd H (by simp)
     ·rw [if_neg c8] at H
      have c8b0 : ((bt a0 x7_1) == a1) = false := beq_eq_false_iff_ne.mpr c8; have c8b1 : ((bt a0 x7_1) != a1) = true := bne_iff_ne.mpr c8; have H' := zQ H; clear H; have p7 : 0 ≤ (x7_1 : Int) := zD; have q7 : x7_1 < (a0.size : Int) := zD; have hx7 := bt_at a0 x7_1; replace p7 := eq_true p7; replace q7 := eq_true q7
      go_wp2
      go_roundg k1
      case measure => have := HK1.out; omega
      case rel => exact ⟨(x5_1), (x6_1), (wrap64 (x7_1 + 1)), (zF), (zF), H', ⟨by have := HK1.out; omega⟩, ⟨zR HO_5.out⟩, ⟨zB HB.out⟩⟩
    ·rw [if_neg c6] at H
     exact absurd H (by simp)
   ·rw [if_neg c5] at H
    have c5b0 := decide_eq_false c5; clear c5
    by_cases c14 : 0 ≤ x6_1
    ·rw [if_pos c14] at H
     have c14b0 := eq_true c14; have c14b1 := decide_eq_true c14; clear c14
     by_cases c15 : x6_1 ≤ (a0.size : Int)
     ·rw [if_pos c15] at H
      have c15b0 := eq_true c15; have c15b1 := decide_eq_true c15; clear c15
      by_cases c16 : x5_1.length < 8796093022208
      ·rw [if_pos c16] at H
       have LMc16 := zQ c16; clear c16; obtain ⟨y502, hy502⟩ : ∃ y_ : List ByteArray, y_ = (x5_1 ++ [a0.extract (x6_1 : Int).toNat a0.size]) := ⟨_, rfl⟩; replace H : (some y502) = some r := zh H; have Ny502 := zQ hy502; clear hy502; obtain rfl := Option.some.inj H
       go_wp2_with (first | ((with_reducible refine gate_builtin (b := .append) (xs := #[.tmp 29, .tmp 33]) rfl ?_); at_builtin; refine Kd.R_append Kd.string (w0 := w) w.heap.size rfl (.tmp 29) (.tmp 33) 58 9 (.string ⟨#[]⟩) 16 rfl Tryz.underlying58 info9 rfl (by decide) (by omega) u5 x5_1 (a0.extract (x6_1 : Int).toNat a0.size) [.string (a0.extract (x6_1 : Int).toNat a0.size)] (fun _ => True) (fun _ => False) rfl rfl ?aP (fun _ hk => hk.elim) ?aF ?aO ?aB ?aS ?aL ?_; (case aP => exact rfl); (case aB => exact (zB HB.out)); (case aF => exact (fun _ _ => trivial)); (case aO => exact (zR HO_5.out)); (case aS => exact (below_size (zB HB.out))); (case aL => have := LMc16.out; omega); intro v503 w17 ho hb hg hat; rw [← Ny502.out] at ho; have HO504 := zQ (ho); replace HB := zQ (hb); clear HO_5 ho hb hg hat))
       go_ret
       exact ⟨_, zE, zR HO504.out, zB HB.out⟩
      ·rw [if_neg c16] at H
       exact absurd H (by simp)
     ·rw [if_neg c15] at H
      exact absurd H (by simp)
    ·rw [if_neg c14] at H
     exact absurd H (by simp)

def spec_l01Digit.f (a0 : Int) : Option (Bool) := if a0 ≥ 48 then (some (decide (a0 ≤ 57))) else (some false)
theorem spec_l01Digit.calls (a0 : Int) (r : Bool) (w : World) (h : spec_l01Digit.f a0 = some r) :
  Calls Tryz.prog 66 #[.int .u8 a0] w fun e w' => e = .returned (.bool r) ∧ Drawn0 w w' := by
 have H := h; unfold spec_l01Digit.f at H
 clear h
 by_cases c2 : a0 ≥ 48
 ·rw [if_pos c2] at H
  have c2b0 := decide_eq_true c2; clear c2; obtain rfl := Option.some.inj H
  go_enter Tryz.func66, Tryz.ntmps66
  go_wp2
  go_ret
  exact ⟨zF, by repeat (first | exact Drawn0.refl _ | apply Drawn0.step)⟩
 ·rw [if_neg c2] at H
  have c2b0 := decide_eq_false c2; clear c2; obtain rfl := Option.some.inj H
  go_enter Tryz.func66, Tryz.ntmps66
  go_wp2
  go_ret
  exact ⟨zF, by repeat (first | exact Drawn0.refl _ | apply Drawn0.step)⟩

mutual
def spec_l01Number.j0 : Nat → ByteArray → ByteArray → Bool → Option (Int × Bool)
 | 0, _, _, _ => none
 | k + 1, x0, x4, x14 => if x14 = true then (if 1 ≤ (x4.size : Int) then (spec_l01Number.j1 k x0 (x4.extract 1 x4.size)) else (none)) else (spec_l01Number.j1 k x0 x4)
def spec_l01Number.j1 : Nat → ByteArray → ByteArray → Option (Int × Bool)
 | 0, _, _ => none
 | k + 1, x0, x4 => if (x4.size : Int) < 1 then (spec_l01Number.j2 k x0 x4 true) else (spec_l01Number.j2 k x0 x4 (decide ((x4.size : Int) > 18)))
def spec_l01Number.j2 : Nat → ByteArray → ByteArray → Bool → Option (Int × Bool)
 | 0, _, _, _ => none
 | k + 1, x0, x4, x24 => if x24 = true then (some (0, false)) else (spec_l01Number.l0 k x0 x4 0 0)
def spec_l01Number.l0 : Nat → ByteArray → ByteArray → Int → Int → Option (Int × Bool)
 | 0, _, _, _, _ => none
 | k + 1, x0, x4, x5, x6 => if x6 < (x4.size : Int) then (if 0 ≤ x6 then ((spec_l01Digit.f (bt x4 x6)).bind fun t505 => (if t505 = true then (spec_l01Number.l0 k x0 x4 (wrap64 ((wrap64 (10 * x5)) + (((bt x4 x6) - 48) % 256))) (wrap64 (x6 + 1))) else (some (0, false)))) else (none)) else (if (x4.size : Int) < (x0.size : Int) then ((spec_l01Dec.f k (wrap64 (-x5))).bind fun t506 => (if t506.toList = x0.toList then (some (wrap64 (-x5), true)) else (some (0, false)))) else ((spec_l01Dec.f k x5).bind fun t507 => (if t507.toList = x0.toList then (some (x5, true)) else (some (0, false)))))
end
def spec_l01Number.f (k : Nat) (a0 : ByteArray) : Option (Int × Bool) := if a0.toList = ([] : List UInt8) then (spec_l01Number.j0 k a0 a0 false) else (if 0 < (a0.size : Int) then (spec_l01Number.j0 k a0 a0 ((bt a0 0) == 45)) else (none))
theorem spec_l01Number.calls (k : Nat) (a0 : ByteArray) (r1 : Int) (r2 : Bool) (w : World) (h : spec_l01Number.f k a0 = some (r1, r2)) :
  Calls Tryz.prog 47 #[.string a0] w fun e w' => e = .returned (.tuple #[.int .i64 r1, .bool r2]) ∧ Below w.heap.size w w' := by
 have HB := zQ (Below.refl w.heap.size w)
 have H := h; unfold spec_l01Number.f at H
 clear h
 have HC2 := zQ H
 clear H
 go_enter Tryz.func47, Tryz.ntmps47
 go_upto_region 2 with (fail)
 go_cut [14] (fun v14 wc => ∃ (kq : Nat) (x14_1 : Bool), v14 = .bool x14_1 ∧ Aside0 (spec_l01Number.j0 kq a0 a0 x14_1 = some (r1, r2)) ∧ Aside0 (kq ≤ k) ∧ Aside0 (Below w.heap.size w wc))
 case first =>
  have H := HC2.out; clear HC2
  by_cases c3 : a0.toList = ([] : List UInt8)
  ·rw [if_pos c3] at H
   have c3b0 : (a0.toList == ([] : List UInt8)) = true := beq_iff_eq.mpr c3; have c3b1 : (a0.toList != ([] : List UInt8)) = false := bne_eq_false_iff_eq.mpr c3; clear c3
   (first | rw [c3b0] | (simp only [i64_w, i32_w]; rw [c3b0]) | skip)
   have H' := zQ H; clear H
   go_wp2
   go_meet
   case rel => exact ⟨_, (false), (zF), H', ⟨by first | omega | exact Nat.le_refl _⟩, ⟨zB HB.out⟩⟩
  ·rw [if_neg c3] at H
   have c3b0 : (a0.toList == ([] : List UInt8)) = false := beq_eq_false_iff_ne.mpr c3; have c3b1 : (a0.toList != ([] : List UInt8)) = true := bne_iff_ne.mpr c3
   (first | rw [c3b0] | (simp only [i64_w, i32_w]; rw [c3b0]) | skip)
   by_cases c4 : 0 < (a0.size : Int)
   ·rw [if_pos c4] at H
    have c4b0 := decide_eq_true c4; have c4b1 : decide (0 < a0.size) = true := decide_eq_true (by omega); clear c4; have H' := zQ H; clear H; have p5 : 0 ≤ (0 : Int) := (by omega); have q5 : 0 < a0.size := (by have : (0 : Int) < (a0.size : Int) := zD; omega); have hx5 : ∀ h : 0 < a0.size, ((a0[0]'h).toNat : Int) = bt a0 0 := bt_at a0 0; clear p5; have qi5 : (0 < (a0.size : Int)) = True := eq_true (zD); replace q5 := eq_true q5
    go_wp2
    go_meet
    case rel => exact ⟨_, (((bt a0 0) == 45)), (zF), H', ⟨by first | omega | exact Nat.le_refl _⟩, ⟨zB HB.out⟩⟩
   ·rw [if_neg c4] at H
    exact absurd H (by simp)
 case rest =>
  clear HC2; (try clear p2); (try clear c3); (try clear c3b0); (try clear c3b1); (try clear c4); (try clear c4b0); (try clear c4b1); (try clear p5); (try clear q5); (try clear hx5); (try clear qi5); (try clear p5); (try clear q5); obtain ⟨kq, x14_1, rfl, HA, HJ1, HB⟩ := hcut
  cases kq with
  | zero => exact absurd HA.out (by simp [spec_l01Number.j0])
  | succ kj1 =>
   have H := HA.out; clear HA
   simp only [spec_l01Number.j0] at H
   have HC6 := zQ H; clear H
   go_upto_if 14 with (fail)
   go_cut [4] (fun v4 wc => ∃ (kq : Nat) (x4_5 : ByteArray), v4 = .string x4_5 ∧ Aside0 (spec_l01Number.j1 kq a0 x4_5 = some (r1, r2)) ∧ Aside0 (kq ≤ kj1) ∧ Aside0 (Below w.heap.size w wc))
   case first =>
    have H := HC6.out; clear HC6
    by_cases c7 : x14_1 = true
    ·subst c7
     rw [if_pos rfl] at H
     by_cases c8 : 1 ≤ (a0.size : Int)
     ·rw [if_pos c8] at H
      have c8b0 := eq_true c8; have c8b1 := decide_eq_true c8; clear c8; have H' := zQ H; clear H
      go_wp2
      go_meet
      case rel => exact ⟨_, (a0.extract 1 a0.size), (zF), H', ⟨by have := HJ1.out; first | omega | exact Nat.le_refl _⟩, ⟨zB HB.out⟩⟩
     ·rw [if_neg c8] at H
      exact absurd H (by simp)
    ·replace c7 := Bool.eq_false_iff.mpr c7
     subst c7
     rw [if_neg Bool.false_ne_true] at H; have H' := zQ H; clear H
     go_wp2
     go_meet
     case rel => exact ⟨_, (a0), (zF), H', ⟨by have := HJ1.out; first | omega | exact Nat.le_refl _⟩, ⟨zB HB.out⟩⟩
   case rest =>
    clear HC6; (try clear p2); (try clear c3); (try clear c3b0); (try clear c3b1); (try clear c4); (try clear c4b0); (try clear c4b1); (try clear p5); (try clear q5); (try clear hx5); (try clear qi5); (try clear c7); (try clear c8); (try clear c8b0); (try clear c8b1); (try clear p2); (try clear p5); (try clear q5); obtain ⟨kq, x4_5, rfl, HA, HJ5, HB⟩ := hcut
    cases kq with
    | zero => exact absurd HA.out (by simp [spec_l01Number.j1])
    | succ kj5 =>
     have H := HA.out; clear HA
     simp only [spec_l01Number.j1] at H
     have HC9 := zQ H; clear H
     go_upto_region 4 with (fail)
     go_cut [24] (fun v24 wc => ∃ (kq : Nat) (x24_8 : Bool), v24 = .bool x24_8 ∧ Aside0 (spec_l01Number.j2 kq a0 x4_5 x24_8 = some (r1, r2)) ∧ Aside0 (kq ≤ kj5) ∧ Aside0 (Below w.heap.size w wc))
     case first =>
      have H := HC9.out; clear HC9
      by_cases c10 : (x4_5.size : Int) < 1
      ·rw [if_pos c10] at H
       have c10b0 := decide_eq_true c10; have c10b1 : decide (x4_5.size < 1) = true := decide_eq_true (by omega); clear c10
       (first | rw [c10b0] | (simp only [i64_w, i32_w]; rw [c10b0]) | skip)
       have H' := zQ H; clear H
       go_wp2
       go_meet
       case rel => exact ⟨_, (true), (zF), H', ⟨by have := HJ1.out; have := HJ5.out; first | omega | exact Nat.le_refl _⟩, ⟨zB HB.out⟩⟩
      ·rw [if_neg c10] at H
       have c10b0 := decide_eq_false c10; have c10b1 : decide (x4_5.size < 1) = false := decide_eq_false (by omega); clear c10
       (first | rw [c10b0] | (simp only [i64_w, i32_w]; rw [c10b0]) | skip)
       have H' := zQ H; clear H
       go_wp2
       go_meet
       case rel => exact ⟨_, (decide ((x4_5.size : Int) > 18)), (zF), H', ⟨by have := HJ1.out; have := HJ5.out; first | omega | exact Nat.le_refl _⟩, ⟨zB HB.out⟩⟩
     case rest =>
      clear HC9; (try clear c1); (try clear p2); (try clear c3); (try clear c3b0); (try clear c3b1); (try clear c4); (try clear c4b0); (try clear c4b1); (try clear p5); (try clear q5); (try clear hx5); (try clear qi5); (try clear c7); (try clear c8); (try clear c8b0); (try clear c8b1); (try clear c10); (try clear c10b0); (try clear c10b1); (try clear p2); (try clear p5); (try clear q5); obtain ⟨kq, x24_8, rfl, HA, HJ8, HB⟩ := hcut
      cases kq with
      | zero => exact absurd HA.out (by simp [spec_l01Number.j2])
      | succ kj8 =>
       have H := HA.out; clear HA
       simp only [spec_l01Number.j2] at H
       by_cases c11 : x24_8 = true
       ·subst c11
        rw [if_pos rfl] at H
        simp only [Option.some.injEq, Prod.mk.injEq] at H
        obtain ⟨rfl, rfl⟩ := H
        go_wp2
        go_ret2
        exact ⟨zE, zB HB.out⟩
       ·replace c11 := Bool.eq_false_iff.mpr c11
        subst c11
        rw [if_neg Bool.false_ne_true] at H; have H' := zQ H; clear H
        go_wp2
        go_loopg [5, 6] kj8 (fun kq v5 v6 w' => ∃ (x5_4 : Int) (x6_4 : Int), v5 = .int .i64 x5_4 ∧ v6 = .int .i64 x6_4 ∧ Aside0 (spec_l01Number.l0 kq a0 x4_5 x5_4 x6_4 = some (r1, r2)) ∧ Aside0 (kq ≤ kj8) ∧ Aside0 (Below w.heap.size w w'))
        case atStart => exact ⟨(0), (0), (zF), (zF), H', ⟨Nat.le_refl _⟩, ⟨zB HB.out⟩⟩
        case round =>
         clear H'; (try clear c1); (try clear p2); (try clear c3); (try clear c3b0); (try clear c3b1); (try clear c4); (try clear c4b0); (try clear c4b1); (try clear p5); (try clear q5); (try clear hx5); (try clear qi5); (try clear c7); (try clear c8); (try clear c8b0); (try clear c8b1); (try clear c10); (try clear c10b0); (try clear c10b1); (try clear c11); (try clear p2); (try clear p5); (try clear q5); obtain ⟨x5_4, x6_4, rfl, rfl, HA, HK4, HB⟩ := hrel
         cases gk with
         | zero => exact absurd HA.out (by simp [spec_l01Number.l0])
         | succ k4 =>
          have H := HA.out; clear HA
          simp only [spec_l01Number.l0] at H
          by_cases c12 : x6_4 < (x4_5.size : Int)
          ·rw [if_pos c12] at H
           have c12b0 := decide_eq_true c12; clear c12
           by_cases c13 : 0 ≤ x6_4
           ·rw [if_pos c13] at H
            have c13b0 := decide_eq_true c13; clear c13; replace H := zob H; obtain ⟨t505, A15, H⟩ := H
            by_cases c16 : t505 = true
            ·subst c16
             rw [if_pos rfl] at H; have H' := zQ H; clear H; have p14 : 0 ≤ (x6_4 : Int) := zD; have q14 : x6_4 < (x4_5.size : Int) := zD; have hx14 := bt_at x4_5 x6_4; replace p14 := eq_true p14; replace q14 := eq_true q14
             go_wp2_with (first | ((with_reducible refine zgc 66 ?_); refine goesL_ (some 34) rfl rfl Tryz.func66 (by kernel_rfl) rfl #[.int .u8 (bt x4_5 x6_4)] rfl zM ?_; (with_reducible refine (spec_l01Digit.calls (bt x4_5 x6_4) true _ A15.out).mono ?_); rintro e w' ⟨rfl, ⟨nd, rfl⟩⟩; refine ⟨_, rfl, ?_⟩; have p17 : 0 ≤ (x6_4 : Int) := zD; have q17 : x6_4 < (x4_5.size : Int) := zD; have hx17 := bt_at x4_5 x6_4; replace p17 := eq_true p17; replace q17 := eq_true q17))
             go_roundg k4
             case measure => have := HJ1.out; have := HJ5.out; have := HJ8.out; have := HK4.out; omega
             case rel => exact ⟨(wrap64 ((wrap64 (10 * x5_4)) + (((bt x4_5 x6_4) - 48) % 256))), (wrap64 (x6_4 + 1)), (zF), (zF), H', ⟨by have := HJ1.out; have := HJ5.out; have := HJ8.out; have := HK4.out; omega⟩, ⟨zB HB.out⟩⟩
            ·replace c16 := Bool.eq_false_iff.mpr c16
             subst c16
             rw [if_neg Bool.false_ne_true] at H
             simp only [Option.some.injEq, Prod.mk.injEq] at H
             obtain ⟨rfl, rfl⟩ := H; have p14 : 0 ≤ (x6_4 : Int) := zD; have q14 : x6_4 < (x4_5.size : Int) := zD; have hx14 := bt_at x4_5 x6_4; replace p14 := eq_true p14; replace q14 := eq_true q14
             go_wp2_with (first | ((with_reducible refine zgc 66 ?_); refine goesL_ (some 34) rfl rfl Tryz.func66 (by kernel_rfl) rfl #[.int .u8 (bt x4_5 x6_4)] rfl zM ?_; (with_reducible refine (spec_l01Digit.calls (bt x4_5 x6_4) false _ A15.out).mono ?_); rintro e w' ⟨rfl, ⟨nd, rfl⟩⟩; refine ⟨_, rfl, ?_⟩))
             go_ret2
             exact ⟨zE, zB HB.out⟩
           ·rw [if_neg c13] at H
            exact absurd H (by simp)
          ·rw [if_neg c12] at H
           have c12b0 := decide_eq_false c12; clear c12
           by_cases c18 : (x4_5.size : Int) < (a0.size : Int)
           ·rw [if_pos c18] at H
            have c18b0 := decide_eq_true c18; have c18b1 : decide (x4_5.size < a0.size) = true := decide_eq_true (Int.ofNat_lt.mp c18); clear c18; replace H := zob H; obtain ⟨t506, A19, H⟩ := H
            by_cases c20 : t506.toList = a0.toList
            ·rw [if_pos c20] at H
             have c20b0 : (t506.toList == a0.toList) = true := beq_iff_eq.mpr c20; have c20b1 : (t506.toList != a0.toList) = false := bne_eq_false_iff_eq.mpr c20; clear c20
             simp only [Option.some.injEq, Prod.mk.injEq] at H
             obtain ⟨rfl, rfl⟩ := H
             go_wp2_with (first | ((with_reducible refine zgc 64 ?_); refine goesL_ (some 52) rfl rfl Tryz.func64 (by kernel_rfl) rfl #[.int .i64 (wrap64 (-x5_4))] rfl zM ?_; (with_reducible refine (spec_l01Dec.calls k4 (wrap64 (-x5_4)) t506 _ A19.out).mono ?_); rintro e w21 ⟨rfl, hb⟩; refine ⟨_, rfl, ?_⟩; replace HB := zbs HB.out hb; (try clear hb)))
             go_ret2
             exact ⟨zE, zB HB.out⟩
            ·rw [if_neg c20] at H
             have c20b0 : (t506.toList == a0.toList) = false := beq_eq_false_iff_ne.mpr c20; have c20b1 : (t506.toList != a0.toList) = true := bne_iff_ne.mpr c20
             simp only [Option.some.injEq, Prod.mk.injEq] at H
             obtain ⟨rfl, rfl⟩ := H
             go_wp2_with (first | ((with_reducible refine zgc 64 ?_); refine goesL_ (some 52) rfl rfl Tryz.func64 (by kernel_rfl) rfl #[.int .i64 (wrap64 (-x5_4))] rfl zM ?_; (with_reducible refine (spec_l01Dec.calls k4 (wrap64 (-x5_4)) t506 _ A19.out).mono ?_); rintro e w22 ⟨rfl, hb⟩; refine ⟨_, rfl, ?_⟩; replace HB := zbs HB.out hb; (try clear hb)))
             go_ret2
             exact ⟨zE, zB HB.out⟩
           ·rw [if_neg c18] at H
            have c18b0 := decide_eq_false c18; have c18b1 : decide (x4_5.size < a0.size) = false := decide_eq_false (fun h => c18 (Int.ofNat_lt.mpr h)); clear c18; replace H := zob H; obtain ⟨t507, A23, H⟩ := H
            by_cases c24 : t507.toList = a0.toList
            ·rw [if_pos c24] at H
             have c24b0 : (t507.toList == a0.toList) = true := beq_iff_eq.mpr c24; have c24b1 : (t507.toList != a0.toList) = false := bne_eq_false_iff_eq.mpr c24; clear c24
             simp only [Option.some.injEq, Prod.mk.injEq] at H
             obtain ⟨rfl, rfl⟩ := H
             go_wp2_with (first | ((with_reducible refine zgc 64 ?_); refine goesL_ (some 52) rfl rfl Tryz.func64 (by kernel_rfl) rfl #[.int .i64 x5_4] rfl zM ?_; (with_reducible refine (spec_l01Dec.calls k4 x5_4 t507 _ A23.out).mono ?_); rintro e w25 ⟨rfl, hb⟩; refine ⟨_, rfl, ?_⟩; replace HB := zbs HB.out hb; (try clear hb)))
             go_ret2
             exact ⟨zE, zB HB.out⟩
            ·rw [if_neg c24] at H
             have c24b0 : (t507.toList == a0.toList) = false := beq_eq_false_iff_ne.mpr c24; have c24b1 : (t507.toList != a0.toList) = true := bne_iff_ne.mpr c24
             simp only [Option.some.injEq, Prod.mk.injEq] at H
             obtain ⟨rfl, rfl⟩ := H
             go_wp2_with (first | ((with_reducible refine zgc 64 ?_); refine goesL_ (some 52) rfl rfl Tryz.func64 (by kernel_rfl) rfl #[.int .i64 x5_4] rfl zM ?_; (with_reducible refine (spec_l01Dec.calls k4 x5_4 t507 _ A23.out).mono ?_); rintro e w26 ⟨rfl, hb⟩; refine ⟨_, rfl, ?_⟩; replace HB := zbs HB.out hb; (try clear hb)))
             go_ret2
             exact ⟨zE, zB HB.out⟩

def spec_ReadSail.l0 : Nat → List ByteArray → List (S47) → Int → Option ((List (S47)) × Bool)
 | 0, _, _, _ => none
 | k + 1, x4, x5, x6 => if x6 < (x4.length : Int) then (if 0 ≤ x6 then ((spec_l01Split.f k (rdOf ByteArray.empty x4 x6) 44).bind fun t516 => (if (t516.length : Int) = 2 then (if 0 < (t516.length : Int) then ((spec_l01Number.f k (rdOf ByteArray.empty t516 0)).bind fun bt520 => (if 1 < (t516.length : Int) then ((spec_l01Number.f k (rdOf ByteArray.empty t516 1)).bind fun bt523 => (if bt520.2 = true then (if bt523.2 = true then (if x5.length < 8796093022208 then (spec_ReadSail.l0 k x4 (x5 ++ [(⟨bt520.1, bt523.1⟩ : S47)]) (wrap64 (x6 + 1))) else (none)) else (some (([] : List (S47)), false))) else (some (([] : List (S47)), false)))) else (none))) else (none)) else (some (([] : List (S47)), false)))) else (none)) else ((spec_l13Ok.f k x5).bind fun t514 => (if t514 = true then (some (x5, true)) else (some (([] : List (S47)), false))))
def spec_ReadSail.f (k : Nat) (a0 : ByteArray) : Option ((List (S47)) × Bool) := (spec_l01Split.f k a0 32).bind fun t508 => (spec_ReadSail.l0 k t508 (([] : List (S47))) 0)
theorem spec_ReadSail.calls (k : Nat) (a0 : ByteArray) (r1 : List (S47)) (r2 : Bool) (w : World) (h : spec_ReadSail.f k a0 = some (r1, r2)) :
  Calls Tryz.prog 16 #[.string a0] w fun e w' => ∃ v0_ : Value, e = .returned (.tuple #[v0_, .bool r2]) ∧ Kd.R k47 47 w' w.heap.size (fun _ => True) v0_ r1 ∧ Below w.heap.size w w' := by
 have hu47 := Tryz.underlying47
 have HB := zQ (Below.refl w.heap.size w)
 have H := h; unfold spec_ReadSail.f at H
 clear h
 replace H := zob H; obtain ⟨t508, A2, H⟩ := H
 obtain ⟨y511, hy511⟩ : ∃ y_ : List (S47), y_ = (([] : List (S47))) := ⟨_, rfl⟩
 replace H : (spec_ReadSail.l0 k t508 y511 0) = some (r1, r2) := zh H
 have Ny511 := zQ hy511
 clear hy511
 have H' := zQ H
 clear H
 go_enter Tryz.func16, Tryz.ntmps16
 go_wp2_with (first | ((with_reducible refine zgc 46 ?_); refine goesL_ (some 13) rfl rfl Tryz.func46 (by kernel_rfl) rfl #[.string a0, .int .u8 32] rfl zM ?_; (with_reducible refine (spec_l01Split.calls k a0 32 t508 _ A2.out).mono ?_); rintro e w3 ⟨v509, rfl, ho0, hb⟩; refine ⟨_, rfl, ?_⟩; have HO510 := zQ (Kd.R_lower ho0 (below_size (zB HB.out))); replace HB := zbs HB.out hb; (try clear hb); (try clear ho0)) | ((with_reducible refine zd 14 ?_); refine Kd.R_lit k47 _ 47 ?hg (N := 14) ?hd (xs := ([] : List (S47))) (inner := []) (ok := fun _ => True) (okp := fun _ => True) ?hr ?hp (fun _ hk => hk) trivial (Below.refl _ _) (Nat.le_refl _) (by simp) ?_; (case hd => rfl); (case hg => rfl); (case hr => first | (go_simp; done) | (go_simp; rfl)); (case hp => exact (Reps.none _ _)); intro v512 w4 ho5 hb hg_ hnew_; clear hg_ hnew_; (first | rw [← Ny511.out] at ho5 | (simp only [Int.reduceToNat] at ho5; rw [← Ny511.out] at ho5)); have HO513 := zQ (Kd.R_lower ho5 (below_size (zB HB.out))); replace HO510 := zRb HO510.out hb; replace HB := zbs HB.out hb; clear hb ho5))
 go_loopg [5, 6] k (fun kq v5 v6 w' => ∃ (x5_1 : List (S47)) (x6_1 : Int), v6 = .int .i64 x6_1 ∧ Aside0 (spec_ReadSail.l0 kq t508 x5_1 x6_1 = some (r1, r2)) ∧ Aside0 (kq ≤ k) ∧ Aside0 (Kd.R Kd.string 9 w' w.heap.size (fun _ => True) v509 t508) ∧ Aside0 (Kd.R k47 47 w' w.heap.size (fun _ => True) v5 x5_1) ∧ Aside0 (Below w.heap.size w w'))
 case atStart => exact ⟨(y511), (0), (zF), H', ⟨Nat.le_refl _⟩, ⟨zR HO510.out⟩, ⟨zR HO513.out⟩, ⟨zB HB.out⟩⟩
 case round =>
  clear H'; (try clear c1); (try clear p2); (try clear c4); obtain ⟨x5_1, x6_1, rfl, HA, HK1, HO_4, HO_5, HB⟩ := hrel
  cases gk with
  | zero => exact absurd HA.out (by simp [spec_ReadSail.l0])
  | succ k1 =>
   have H := HA.out; clear HA
   simp only [spec_ReadSail.l0] at H
   by_cases c6 : x6_1 < (t508.length : Int)
   ·rw [if_pos c6] at H
    have c6b0 := decide_eq_true c6; clear c6
    by_cases c7 : 0 ≤ x6_1
    ·rw [if_pos c7] at H
     have c7b0 := decide_eq_true c7; clear c7; replace H := zob H; obtain ⟨t516, A8, H⟩ := H
     by_cases c9 : (t516.length : Int) = 2
     ·rw [if_pos c9] at H
      have c9b0 : ((t516.length : Int) == 2) = true := beq_iff_eq.mpr c9; have c9b1 : ((t516.length : Int) != 2) = false := bne_eq_false_iff_eq.mpr c9; clear c9
      by_cases c10 : 0 < (t516.length : Int)
      ·rw [if_pos c10] at H
       have c10b0 := decide_eq_true c10; have c10b1 : decide (0 < t516.length) = true := decide_eq_true (by omega); clear c10; replace H := zob H; obtain ⟨⟨t520, t521⟩, A11, H⟩ := H
       by_cases c12 : 1 < (t516.length : Int)
       ·rw [if_pos c12] at H
        have c12b0 := decide_eq_true c12; have c12b1 : decide (1 < t516.length) = true := decide_eq_true (by omega); clear c12; replace H := zob H; obtain ⟨⟨t523, t524⟩, A13, H⟩ := H
        by_cases c14 : t521 = true
        ·subst c14
         rw [if_pos rfl] at H
         by_cases c15 : t524 = true
         ·subst c15
          rw [if_pos rfl] at H
          by_cases c16 : x5_1.length < 8796093022208
          ·rw [if_pos c16] at H
           have LMc16 := zQ c16; clear c16; obtain ⟨y525, hy525⟩ : ∃ y_ : List (S47), y_ = (x5_1 ++ [(⟨t520, t523⟩ : S47)]) := ⟨_, rfl⟩; replace H : (spec_ReadSail.l0 k1 t508 y525 (wrap64 (x6_1 + 1))) = some (r1, r2) := zh H; have Ny525 := zQ hy525; clear hy525; have H' := zQ H; clear H; obtain ⟨Ao17, co17, eo17⟩ := Kd.R_slice HO_4.out; subst eo17; have p515 : 0 ≤ (x6_1 : Int) := zD; have q515 : x6_1 < (t508.length : Int) := zD; obtain ⟨ad515, e515, hx515_0⟩ := Kd.at_string (Kd.R_reads' HO_4.out).2.2 x6_1 p515 q515
           cases e515
           replace p515 := eq_true p515; replace q515 := eq_true q515
           go_wp2_with (first | ((with_reducible refine zgc 46 ?_); refine goesL_ (some 25) rfl rfl Tryz.func46 (by kernel_rfl) rfl #[.string (rdOf ByteArray.empty t508 x6_1), .int .u8 44] rfl zM ?_; (with_reducible refine (spec_l01Split.calls k1 (rdOf ByteArray.empty t508 x6_1) 44 t516 _ A8.out).mono ?_); rintro e w18 ⟨v517, rfl, ho0, hb⟩; refine ⟨_, rfl, ?_⟩; have HO518 := zQ (Kd.R_lower (Kd.R_new' ho0 (Kd.R_lt (zR HO_4.out))) (below_size (zB HB.out))); replace HO_4 := zQ (Kd.R_elder' (zR HO_4.out) (Kd.R_base ho0) hb); replace HO_5 := zRb HO_5.out hb; replace HB := zbs HB.out hb; (try clear hb); (try clear ho0); obtain ⟨Ao19, co19, eo19⟩ := Kd.R_slice HO518.out; subst eo19; have p519 : 0 ≤ (0 : Int) := (by omega); have q519 : 0 < (t516.length : Int) := zD; obtain ⟨ad519, e519, hx519_0⟩ := Kd.at_string (Kd.R_reads' HO518.out).2.2 0 p519 q519; cases e519; have qi519 : (0 < t516.length) = True := eq_true (by omega); (try rw [show ((0 : Int)).toNat = 0 from rfl] at hx519_0); (try rw [Addr.add_zero'] at hx519_0); replace p519 := eq_true p519; replace q519 := eq_true q519) | ((with_reducible refine zgc 47 ?_); refine goesL_ (some 33) rfl rfl Tryz.func47 (by kernel_rfl) rfl #[.string (rdOf ByteArray.empty t516 0)] rfl zM ?_; (with_reducible refine (spec_l01Number.calls k1 (rdOf ByteArray.empty t516 0) t520 true _ A11.out).mono ?_); rintro e w20 ⟨rfl, hb⟩; refine ⟨_, rfl, ?_⟩; replace HO_4 := zRb HO_4.out hb; replace HO_5 := zRb HO_5.out hb; replace HO518 := zRb HO518.out hb; replace HB := zbs HB.out hb; (try clear hb); have p522 : 0 ≤ (1 : Int) := (by omega); have q522 : 1 < (t516.length : Int) := zD; obtain ⟨ad522, e522, hx522_0⟩ := Kd.at_string (Kd.R_reads' HO518.out).2.2 1 p522 q522; obtain rfl : ad519 = ad522 := (by injection e522); (try simp only [show (1 : Int).toNat = 1 from rfl, Nat.reduceMul, Nat.reduceEqDiff, Go.Addr.add, ↓reduceIte] at hx522_0); have qi522 : (1 < t516.length) = True := eq_true (by omega); (try rw [show ((1 : Int)).toNat = 1 from rfl] at hx522_0); replace p522 := eq_true p522; replace q522 := eq_true q522) | ((with_reducible refine zgc 47 ?_); refine goesL_ (some 40) rfl rfl Tryz.func47 (by kernel_rfl) rfl #[.string (rdOf ByteArray.empty t516 1)] rfl zM ?_; (with_reducible refine (spec_l01Number.calls k1 (rdOf ByteArray.empty t516 1) t523 true _ A13.out).mono ?_); rintro e w21 ⟨rfl, hb⟩; refine ⟨_, rfl, ?_⟩; replace HO_4 := zRb HO_4.out hb; replace HO_5 := zRb HO_5.out hb; replace HO518 := zRb HO518.out hb; replace HB := zbs HB.out hb; (try clear hb)) | ((with_reducible refine gate_builtin (b := .append) (xs := #[.tmp 49, .tmp 53]) rfl ?_); at_builtin; refine Kd.R_append k47 (w0 := w) w.heap.size rfl (.tmp 49) (.tmp 53) 24 47 (.agg #[(.int .i64 0), (.int .i64 0)]) 16 rfl Tryz.underlying24 info47 rfl (by decide) (by omega) u5 x5_1 (⟨t520, t523⟩ : S47) [.int .i64 t520, .int .i64 t523] (fun _ => True) (fun _ => False) rfl rfl ?aP (fun _ hk => hk.elim) ?aF ?aO ?aB ?aS ?aL ?_; (case aP => exact k47_mkM _ _ _ (⟨t520, t523⟩ : S47)); (case aB => exact (zB HB.out)); (case aF => exact (fun _ _ => trivial)); (case aO => exact (zR HO_5.out)); (case aS => exact (below_size (zB HB.out))); (case aL => have := LMc16.out; omega); intro v526 w22 ho hb hg hat; rw [← Ny525.out] at ho; have HO527 := zQ (ho); replace HO_4 := zQ (Kd.R_over' (zR HO_4.out) (Kd.R_typed (zR HO_5.out)) (by decide) hg); replace HO518 := zQ (Kd.R_over' (zR HO518.out) (Kd.R_typed (zR HO_5.out)) (by decide) hg); replace HB := zQ (hb); clear HO_5 ho hb hg hat))
           go_roundg k1
           case measure => have := HK1.out; omega
           case rel => exact ⟨(y525), (wrap64 (x6_1 + 1)), (zF), H', ⟨by have := HK1.out; omega⟩, ⟨by (with_reducible repeat (first | apply Kd.R_alloc | apply Kd.R_drewN | apply Kd.R_drew)); exact Kd.R_mono HO_4.out (fun _ hk => trivial)⟩, ⟨zR HO527.out⟩, ⟨zB HB.out⟩⟩
          ·rw [if_neg c16] at H
           exact absurd H (by simp)
         ·replace c15 := Bool.eq_false_iff.mpr c15
          subst c15
          rw [if_neg Bool.false_ne_true] at H
          simp only [Option.some.injEq, Prod.mk.injEq] at H
          obtain ⟨rfl, rfl⟩ := H; obtain ⟨Ao23, co23, eo23⟩ := Kd.R_slice HO_4.out; subst eo23; have p515 : 0 ≤ (x6_1 : Int) := zD; have q515 : x6_1 < (t508.length : Int) := zD; obtain ⟨ad515, e515, hx515_0⟩ := Kd.at_string (Kd.R_reads' HO_4.out).2.2 x6_1 p515 q515
          cases e515
          replace p515 := eq_true p515; replace q515 := eq_true q515
          go_wp2_with (first | ((with_reducible refine zgc 46 ?_); refine goesL_ (some 25) rfl rfl Tryz.func46 (by kernel_rfl) rfl #[.string (rdOf ByteArray.empty t508 x6_1), .int .u8 44] rfl zM ?_; (with_reducible refine (spec_l01Split.calls k1 (rdOf ByteArray.empty t508 x6_1) 44 t516 _ A8.out).mono ?_); rintro e w24 ⟨v517, rfl, ho0, hb⟩; refine ⟨_, rfl, ?_⟩; have HO518 := zQ (Kd.R_lower (Kd.R_new' ho0 (Kd.R_lt (zR HO_4.out))) (below_size (zB HB.out))); replace HO_4 := zQ (Kd.R_elder' (zR HO_4.out) (Kd.R_base ho0) hb); replace HO_5 := zRb HO_5.out hb; replace HB := zbs HB.out hb; (try clear hb); (try clear ho0); obtain ⟨Ao25, co25, eo25⟩ := Kd.R_slice HO518.out; subst eo25; have p519 : 0 ≤ (0 : Int) := (by omega); have q519 : 0 < (t516.length : Int) := zD; obtain ⟨ad519, e519, hx519_0⟩ := Kd.at_string (Kd.R_reads' HO518.out).2.2 0 p519 q519; cases e519; have qi519 : (0 < t516.length) = True := eq_true (by omega); (try rw [show ((0 : Int)).toNat = 0 from rfl] at hx519_0); (try rw [Addr.add_zero'] at hx519_0); replace p519 := eq_true p519; replace q519 := eq_true q519) | ((with_reducible refine zgc 47 ?_); refine goesL_ (some 33) rfl rfl Tryz.func47 (by kernel_rfl) rfl #[.string (rdOf ByteArray.empty t516 0)] rfl zM ?_; (with_reducible refine (spec_l01Number.calls k1 (rdOf ByteArray.empty t516 0) t520 true _ A11.out).mono ?_); rintro e w26 ⟨rfl, hb⟩; refine ⟨_, rfl, ?_⟩; replace HO_4 := zRb HO_4.out hb; replace HO_5 := zRb HO_5.out hb; replace HO518 := zRb HO518.out hb; replace HB := zbs HB.out hb; (try clear hb); have p522 : 0 ≤ (1 : Int) := (by omega); have q522 : 1 < (t516.length : Int) := zD; obtain ⟨ad522, e522, hx522_0⟩ := Kd.at_string (Kd.R_reads' HO518.out).2.2 1 p522 q522; obtain rfl : ad519 = ad522 := (by injection e522); (try simp only [show (1 : Int).toNat = 1 from rfl, Nat.reduceMul, Nat.reduceEqDiff, Go.Addr.add, ↓reduceIte] at hx522_0); have qi522 : (1 < t516.length) = True := eq_true (by omega); (try rw [show ((1 : Int)).toNat = 1 from rfl] at hx522_0); replace p522 := eq_true p522; replace q522 := eq_true q522) | ((with_reducible refine zgc 47 ?_); refine goesL_ (some 40) rfl rfl Tryz.func47 (by kernel_rfl) rfl #[.string (rdOf ByteArray.empty t516 1)] rfl zM ?_; (with_reducible refine (spec_l01Number.calls k1 (rdOf ByteArray.empty t516 1) t523 false _ A13.out).mono ?_); rintro e w27 ⟨rfl, hb⟩; refine ⟨_, rfl, ?_⟩; replace HO_4 := zRb HO_4.out hb; replace HO_5 := zRb HO_5.out hb; replace HO518 := zRb HO518.out hb; replace HB := zbs HB.out hb; (try clear hb)))
          go_ret2
          exact ⟨_, zE, by first | exact Kd.R_nil _ _ _ _ _ | exact Kd.N_nil _ _ _ _ _ | exact Kd.V_nil _ _ _ _ _ | exact Kd.Q_nil _ _ _ _ _ | exact Kd.S_nil _ _ _ _ _, zB HB.out⟩
        ·replace c14 := Bool.eq_false_iff.mpr c14
         subst c14
         rw [if_neg Bool.false_ne_true] at H
         simp only [Option.some.injEq, Prod.mk.injEq] at H
         obtain ⟨rfl, rfl⟩ := H; obtain ⟨Ao28, co28, eo28⟩ := Kd.R_slice HO_4.out; subst eo28; have p515 : 0 ≤ (x6_1 : Int) := zD; have q515 : x6_1 < (t508.length : Int) := zD; obtain ⟨ad515, e515, hx515_0⟩ := Kd.at_string (Kd.R_reads' HO_4.out).2.2 x6_1 p515 q515
         cases e515
         replace p515 := eq_true p515; replace q515 := eq_true q515
         go_wp2_with (first | ((with_reducible refine zgc 46 ?_); refine goesL_ (some 25) rfl rfl Tryz.func46 (by kernel_rfl) rfl #[.string (rdOf ByteArray.empty t508 x6_1), .int .u8 44] rfl zM ?_; (with_reducible refine (spec_l01Split.calls k1 (rdOf ByteArray.empty t508 x6_1) 44 t516 _ A8.out).mono ?_); rintro e w29 ⟨v517, rfl, ho0, hb⟩; refine ⟨_, rfl, ?_⟩; have HO518 := zQ (Kd.R_lower (Kd.R_new' ho0 (Kd.R_lt (zR HO_4.out))) (below_size (zB HB.out))); replace HO_4 := zQ (Kd.R_elder' (zR HO_4.out) (Kd.R_base ho0) hb); replace HO_5 := zRb HO_5.out hb; replace HB := zbs HB.out hb; (try clear hb); (try clear ho0); obtain ⟨Ao30, co30, eo30⟩ := Kd.R_slice HO518.out; subst eo30; have p519 : 0 ≤ (0 : Int) := (by omega); have q519 : 0 < (t516.length : Int) := zD; obtain ⟨ad519, e519, hx519_0⟩ := Kd.at_string (Kd.R_reads' HO518.out).2.2 0 p519 q519; cases e519; have qi519 : (0 < t516.length) = True := eq_true (by omega); (try rw [show ((0 : Int)).toNat = 0 from rfl] at hx519_0); (try rw [Addr.add_zero'] at hx519_0); replace p519 := eq_true p519; replace q519 := eq_true q519) | ((with_reducible refine zgc 47 ?_); refine goesL_ (some 33) rfl rfl Tryz.func47 (by kernel_rfl) rfl #[.string (rdOf ByteArray.empty t516 0)] rfl zM ?_; (with_reducible refine (spec_l01Number.calls k1 (rdOf ByteArray.empty t516 0) t520 false _ A11.out).mono ?_); rintro e w31 ⟨rfl, hb⟩; refine ⟨_, rfl, ?_⟩; replace HO_4 := zRb HO_4.out hb; replace HO_5 := zRb HO_5.out hb; replace HO518 := zRb HO518.out hb; replace HB := zbs HB.out hb; (try clear hb); have p522 : 0 ≤ (1 : Int) := (by omega); have q522 : 1 < (t516.length : Int) := zD; obtain ⟨ad522, e522, hx522_0⟩ := Kd.at_string (Kd.R_reads' HO518.out).2.2 1 p522 q522; obtain rfl : ad519 = ad522 := (by injection e522); (try simp only [show (1 : Int).toNat = 1 from rfl, Nat.reduceMul, Nat.reduceEqDiff, Go.Addr.add, ↓reduceIte] at hx522_0); have qi522 : (1 < t516.length) = True := eq_true (by omega); (try rw [show ((1 : Int)).toNat = 1 from rfl] at hx522_0); replace p522 := eq_true p522; replace q522 := eq_true q522) | ((with_reducible refine zgc 47 ?_); refine goesL_ (some 40) rfl rfl Tryz.func47 (by kernel_rfl) rfl #[.string (rdOf ByteArray.empty t516 1)] rfl zM ?_; (with_reducible refine (spec_l01Number.calls k1 (rdOf ByteArray.empty t516 1) t523 t524 _ A13.out).mono ?_); rintro e w32 ⟨rfl, hb⟩; refine ⟨_, rfl, ?_⟩; replace HO_4 := zRb HO_4.out hb; replace HO_5 := zRb HO_5.out hb; replace HO518 := zRb HO518.out hb; replace HB := zbs HB.out hb; (try clear hb)))
         go_ret2
         exact ⟨_, zE, by first | exact Kd.R_nil _ _ _ _ _ | exact Kd.N_nil _ _ _ _ _ | exact Kd.V_nil _ _ _ _ _ | exact Kd.Q_nil _ _ _ _ _ | exact Kd.S_nil _ _ _ _ _, zB HB.out⟩
       ·rw [if_neg c12] at H
        exact absurd H (by simp)
      ·rw [if_neg c10] at H
       exact absurd H (by simp)
     ·rw [if_neg c9] at H
      have c9b0 : ((t516.length : Int) == 2) = false := beq_eq_false_iff_ne.mpr c9; have c9b1 : ((t516.length : Int) != 2) = true := bne_iff_ne.mpr c9
      simp only [Option.some.injEq, Prod.mk.injEq] at H
      obtain ⟨rfl, rfl⟩ := H; obtain ⟨Ao33, co33, eo33⟩ := Kd.R_slice HO_4.out; subst eo33; have p515 : 0 ≤ (x6_1 : Int) := zD; have q515 : x6_1 < (t508.length : Int) := zD; obtain ⟨ad515, e515, hx515_0⟩ := Kd.at_string (Kd.R_reads' HO_4.out).2.2 x6_1 p515 q515
      cases e515
      replace p515 := eq_true p515; replace q515 := eq_true q515
      go_wp2_with (first | ((with_reducible refine zgc 46 ?_); refine goesL_ (some 25) rfl rfl Tryz.func46 (by kernel_rfl) rfl #[.string (rdOf ByteArray.empty t508 x6_1), .int .u8 44] rfl zM ?_; (with_reducible refine (spec_l01Split.calls k1 (rdOf ByteArray.empty t508 x6_1) 44 t516 _ A8.out).mono ?_); rintro e w34 ⟨v517, rfl, ho0, hb⟩; refine ⟨_, rfl, ?_⟩; have HO518 := zQ (Kd.R_lower (Kd.R_new' ho0 (Kd.R_lt (zR HO_4.out))) (below_size (zB HB.out))); replace HO_4 := zQ (Kd.R_elder' (zR HO_4.out) (Kd.R_base ho0) hb); replace HO_5 := zRb HO_5.out hb; replace HB := zbs HB.out hb; (try clear hb); (try clear ho0); obtain ⟨Ao35, co35, eo35⟩ := Kd.R_slice HO518.out; subst eo35))
      go_ret2
      exact ⟨_, zE, by first | exact Kd.R_nil _ _ _ _ _ | exact Kd.N_nil _ _ _ _ _ | exact Kd.V_nil _ _ _ _ _ | exact Kd.Q_nil _ _ _ _ _ | exact Kd.S_nil _ _ _ _ _, zB HB.out⟩
    ·rw [if_neg c7] at H
     exact absurd H (by simp)
   ·rw [if_neg c6] at H
    have c6b0 := decide_eq_false c6; clear c6; replace H := zob H; obtain ⟨t514, A36, H⟩ := H
    by_cases c37 : t514 = true
    ·subst c37
     rw [if_pos rfl] at H
     simp only [Option.some.injEq, Prod.mk.injEq] at H
     obtain ⟨rfl, rfl⟩ := H; obtain ⟨Ao38, co38, eo38⟩ := Kd.R_slice HO_4.out; subst eo38; obtain ⟨Ao39, co39, eo39⟩ := Kd.R_slice HO_5.out; subst eo39
     go_wp2_with (first | ((with_reducible refine zgc 31 ?_); refine goesL_ (some 56) rfl rfl Tryz.func31 (by kernel_rfl) rfl #[.slice Ao39 x5_1.length co39] rfl zM ?_; (with_reducible refine (spec_l13Ok.calls k1 _ _ x5_1 true _ ?side1 ((Kd.R_reads' HO_5.out).2.1) A36.out).mono ?_); (case side1 => exact zk (Kd.R_reads' HO_5.out).2.2); rintro e w40 ⟨rfl, hb⟩; refine ⟨_, rfl, ?_⟩; replace HO_4 := zRb HO_4.out hb; replace HO_5 := zRb HO_5.out hb; replace HB := zbs HB.out hb; (try clear hb)))
     go_ret2
     exact ⟨_, zE, zR HO_5.out, zB HB.out⟩
    ·replace c37 := Bool.eq_false_iff.mpr c37
     subst c37
     rw [if_neg Bool.false_ne_true] at H
     simp only [Option.some.injEq, Prod.mk.injEq] at H
     obtain ⟨rfl, rfl⟩ := H; obtain ⟨Ao41, co41, eo41⟩ := Kd.R_slice HO_4.out; subst eo41; obtain ⟨Ao42, co42, eo42⟩ := Kd.R_slice HO_5.out; subst eo42
     go_wp2_with (first | ((with_reducible refine zgc 31 ?_); refine goesL_ (some 56) rfl rfl Tryz.func31 (by kernel_rfl) rfl #[.slice Ao42 x5_1.length co42] rfl zM ?_; (with_reducible refine (spec_l13Ok.calls k1 _ _ x5_1 false _ ?side1 ((Kd.R_reads' HO_5.out).2.1) A36.out).mono ?_); (case side1 => exact zk (Kd.R_reads' HO_5.out).2.2); rintro e w43 ⟨rfl, hb⟩; refine ⟨_, rfl, ?_⟩; replace HO_4 := zRb HO_4.out hb; replace HO_5 := zRb HO_5.out hb; replace HB := zbs HB.out hb; (try clear hb)))
     go_ret2
     exact ⟨_, zE, by first | exact Kd.R_nil _ _ _ _ _ | exact Kd.N_nil _ _ _ _ _ | exact Kd.V_nil _ _ _ _ _ | exact Kd.Q_nil _ _ _ _ _ | exact Kd.S_nil _ _ _ _ _, zB HB.out⟩

end
end Go.Proofs.YtchngbjpjbahiaaGreatDoor.PSailz

