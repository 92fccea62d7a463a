import Derived.Test.YtimjblgepbhoaaaHStays0
import Derived.Test.YtimjblgepbhoaaaHStaysa
namespace Go.Proofs.Ytimjblgepbhoaaa.PStays
noncomputable section
open Go.RowKit Go.Proofs.YtimjblgepbhoaaaW.PrintWords Go.Proofs.YtimjblgepbhoaaaW.PrintLast Go.Proofs.YtimjblgepbhoaaaW.PrintMore
attribute [local go_sem] max2_int min2_int max_two min_two max_three min_three max_four min_four   -- for this text's walks alone
set_option linter.unusedVariables false
set_option linter.unusedSimpArgs false
set_option maxHeartbeats 8000000
set_option maxRecDepth 100000

def impl_areBars.l0 : Nat → List Int → List Int → Int → Int → List (S164) → List (S115) → Option (Bool)
 | 0, _, _, _, _, _, _ => none
 | k + 1, x1, x7, x8, x9, x247000, x247001 => if x9 < x8 then (if 0 ≤ x9 then (if x9 < (x7.length : Int) then ((impl_within.f (rd x7 x9) 0 (wrap64 ((x247001.length : Int) - 1))).bind fun t248 => (if t248 = true then (if x9 > 0 then (if 0 ≤ (wrap64 (x9 - 1)) then (if (wrap64 (x9 - 1)) < (x1.length : Int) then (if (rd x7 x9) ≤ (rd x1 (wrap64 (x9 - 1))) then (some false) else (impl_areBars.l0 k x1 x7 x8 (wrap64 (x9 + 1)) x247000 x247001)) else (none)) else (none)) else (impl_areBars.l0 k x1 x7 x8 (wrap64 (x9 + 1)) x247000 x247001)) else (some false))) else (none)) else (none)) else (some true)
def impl_areBars.f (k : Nat) (l0_0 : List (S164)) (l0_1 : List (S115)) (l1 : List Int) : Option (Bool) := impl_areBars.l0 k l1 l1 (l1.length : Int) 0 l0_0 l0_1
theorem impl_areBars.mono_l : ∀ k, (∀ y0 y1 y2 y3 y4 y5, LeO (impl_areBars.l0 k y0 y1 y2 y3 y4 y5) (impl_areBars.l0 (k + 1) y0 y1 y2 y3 y4 y5))
 | 0 => fun _ _ _ _ _ _ r h => by simp [impl_areBars.l0] at h
 | k + 1 => by
  have ih0 := impl_areBars.mono_l k
  ·intro y0 y1 y2 y3 y4 y5
   unfold impl_areBars.l0
   exact zM0
theorem impl_areBars.mono : ∀ a0 a1 a2 k, LeO (impl_areBars.f k a0 a1 a2) (impl_areBars.f (k + 1) a0 a1 a2) := by
 intro a0 a1 a2 k
 have ih0 := impl_areBars.mono_l k
 unfold impl_areBars.f
 exact zM0
theorem impl_areBars.calls (k : Nat) (A0_0 : Option Addr) (c0_0 : Nat) (l0_0 : List (S164)) (A0_1 : Option Addr) (c0_1 : Nat) (l0_1 : List (S115)) (A1 : Option Addr) (c1 : Nat) (l1 : List Int) (r : Bool) (w : World) (hr0_0 : Kd.C k164 w A0_0 l0_0.length l0_0) (hc0_0 : l0_0.length ≤ c0_0) (hr0_1 : Kd.C k115 w A0_1 l0_1.length l0_1) (hc0_1 : l0_1.length ≤ c0_1) (hr1 : Kd.C (Kd.int .i64) w A1 l1.length l1) (hc1 : l1.length ≤ c1) (h : impl_areBars.f k l0_0 l0_1 l1 = some r) :
  Calls Try.prog 76 #[.agg #[.slice A0_0 l0_0.length c0_0, .slice A0_1 l0_1.length c0_1], .slice A1 l1.length c1] w fun e w' => e = .returned (.bool r) ∧ Below w.heap.size w w' := by
 have hu27 := Try.underlying27
 have HR0_0 := zQ hr0_0
 have HC0_0 := zQ hc0_0
 clear hr0_0 hc0_0
 have HR0_1 := zQ hr0_1
 have HC0_1 := zQ hc0_1
 clear hr0_1 hc0_1
 have HR1 := zQ hr1
 have HC1 := zQ hc1
 clear hr1 hc1
 have HB := zQ (Below.refl w.heap.size w)
 have H : (impl_areBars.l0 k l1 l1 (l1.length : Int) 0 l0_0 l0_1) = some r := h
 clear h
 have H' := zQ H
 clear H
 go_enter Try.func76, Try.ntmps76
 go_wp2_with (first | ((with_reducible refine zd 2 ?_); refine zbx (N := 2) (cs := #[.slice A0_0 l0_0.length c0_0, .slice A0_1 l0_1.length c0_1]) (t := 27) ?_; intro gb246 hg w3 hbox hb; have BK246 := zQ (hbox); have GW246 := zgz hg HB.out; have GE246 := GW246; replace HB := zbs HB.out hb; clear hb hbox hg))
 go_loopg [9] k (fun kq v9 w' => ∃ (x9_1 : Int), v9 = .int .i64 x9_1 ∧ Aside0 (impl_areBars.l0 kq l1 l1 (l1.length : Int) x9_1 l0_0 l0_1 = some r) ∧ Aside0 (kq ≤ k) ∧ Aside0 (w'.heap[gb246]? = some (.cells #[(.slice A0_0 l0_0.length c0_0), (.slice A0_1 l0_1.length c0_1)] 27 (0, 0))) ∧ Aside0 (Below w.heap.size w w'))
 case atStart => exact ⟨(0), (zF), H', ⟨Nat.le_refl _⟩, ⟨zb BK246.out⟩, ⟨zB2 HB.out GE246.out⟩⟩
 case round =>
  clear H'; (try clear c1); (try clear p2); obtain ⟨x9_1, rfl, HA, HK1, BK246, HB⟩ := hrel
  cases gk with
  | zero => exact absurd HA.out (by simp [impl_areBars.l0])
  | succ k1 =>
   have H := HA.out; clear HA
   simp only [impl_areBars.l0] at H
   by_cases c4 : x9_1 < (l1.length : Int)
   ·rw [if_pos c4] at H
    have c4b0 := decide_eq_true c4; clear c4
    by_cases c5 : 0 ≤ x9_1
    ·rw [if_pos c5] at H
     have c5b0 := decide_eq_true c5; clear c5
     by_cases c6 : x9_1 < (l1.length : Int)
     ·rw [if_pos c6] at H
      have c6b0 := decide_eq_true c6; clear c6; replace H := zob H; obtain ⟨t248, A7, H⟩ := H
      by_cases c8 : t248 = true
      ·subst c8
       rw [if_pos rfl] at H
       by_cases c9 : x9_1 > 0
       ·rw [if_pos c9] at H
        have c9b0 := decide_eq_true c9; clear c9; obtain ⟨ji10, hji10⟩ : ∃ j_ : Int, (wrap64 (x9_1 - 1)) = j_ := ⟨_, rfl⟩
        replace H : (if 0 ≤ (ji10) then (if (ji10) < (l1.length : Int) then (if (rd l1 x9_1) ≤ (rd l1 (ji10)) then (some false) else (impl_areBars.l0 k1 l1 l1 (l1.length : Int) (wrap64 (x9_1 + 1)) l0_0 l0_1)) else (none)) else (none)) = some r := by first | (rw [hji10] at H; exact H) | (simp only [hji10] at H ⊢; exact H)
        (try rw [hji10] at A7)
        have hji10w : (IntKind.i64.wrap (x9_1 - 1)) = ji10 := (i64_w _).trans hji10
        by_cases c11 : 0 ≤ (ji10)
        ·rw [if_pos c11] at H
         have c11b0 := decide_eq_true c11; clear c11
         by_cases c12 : (ji10) < (l1.length : Int)
         ·rw [if_pos c12] at H
          have c12b0 := decide_eq_true c12; clear c12
          by_cases c13 : (rd l1 x9_1) ≤ (rd l1 (ji10))
          ·rw [if_pos c13] at H
           have c13b0 := decide_eq_true c13; clear c13; obtain rfl := Option.some.inj H; have p247 : 0 ≤ (x9_1 : Int) := zD; have q247 : x9_1 < (l1.length : Int) := zD; obtain ⟨ad247, e247, hx247_0⟩ := Kd.at_int HR1.out x9_1 p247 q247
           cases e247
           replace hx247_0 := zw HB.out hx247_0; replace p247 := eq_true p247; replace q247 := eq_true q247; obtain ⟨hcz14_0, hcz14_1, hfz14_0, hfz14_1⟩ := zy2 BK246.out
           go_wp2_with (first | ((with_reducible refine zgc 88 ?_); refine zgo (some 19) Try.func88 #[.int .i64 (rd l1 x9_1), .int .i64 0, .int .i64 (wrap64 ((l0_1.length : Int) - 1))] ?_; (with_reducible refine (impl_within.calls (rd l1 x9_1) 0 (wrap64 ((l0_1.length : Int) - 1)) true _ A7.out).mono ?_); rintro e w' ⟨rfl, ⟨nd, rfl⟩⟩; refine ⟨_, rfl, ?_⟩; have p249 : 0 ≤ ((ji10) : Int) := zD; have q249 : (ji10) < (l1.length : Int) := zD; obtain ⟨ad249, e249, hx249_0⟩ := Kd.at_int HR1.out (ji10) p249 q249; obtain rfl : ad247 = ad249 := (by injection e249); replace hx249_0 := zw HB.out hx249_0; replace p249 := eq_true p249; replace q249 := eq_true q249))
           go_ret
           exact ⟨by first | rfl | (simp [errW_none, errW_some] <;> rfl) | (simp only [← hji10]; first | rfl | (simp [errW_none, errW_some] <;> rfl)) | (simp [*, errW_none, errW_some] <;> rfl), zB2 HB.out GE246.out⟩
          ·rw [if_neg c13] at H
           have c13b0 := decide_eq_false c13; clear c13; have H' := zQ H; clear H; have p247 : 0 ≤ (x9_1 : Int) := zD; have q247 : x9_1 < (l1.length : Int) := zD; obtain ⟨ad247, e247, hx247_0⟩ := Kd.at_int HR1.out x9_1 p247 q247
           cases e247
           replace hx247_0 := zw HB.out hx247_0; replace p247 := eq_true p247; replace q247 := eq_true q247; obtain ⟨hcz15_0, hcz15_1, hfz15_0, hfz15_1⟩ := zy2 BK246.out
           go_wp2_with (first | ((with_reducible refine zgc 88 ?_); refine zgo (some 19) Try.func88 #[.int .i64 (rd l1 x9_1), .int .i64 0, .int .i64 (wrap64 ((l0_1.length : Int) - 1))] ?_; (with_reducible refine (impl_within.calls (rd l1 x9_1) 0 (wrap64 ((l0_1.length : Int) - 1)) true _ A7.out).mono ?_); rintro e w' ⟨rfl, ⟨nd, rfl⟩⟩; refine ⟨_, rfl, ?_⟩; have p249 : 0 ≤ ((ji10) : Int) := zD; have q249 : (ji10) < (l1.length : Int) := zD; obtain ⟨ad249, e249, hx249_0⟩ := Kd.at_int HR1.out (ji10) p249 q249; obtain rfl : ad247 = ad249 := (by injection e249); replace hx249_0 := zw HB.out hx249_0; replace p249 := eq_true p249; replace q249 := eq_true q249))
           go_roundg k1
           case measure => have := HK1.out; omega
           case rel => exact ⟨(wrap64 (x9_1 + 1)), (zF), H', ⟨by have := HK1.out; omega⟩, ⟨zb BK246.out⟩, ⟨zB2 HB.out GE246.out⟩⟩
         ·rw [if_neg c12] at H
          exact absurd H (by simp)
        ·rw [if_neg c11] at H
         exact absurd H (by simp)
       ·rw [if_neg c9] at H
        have c9b0 := decide_eq_false c9; clear c9; have H' := zQ H; clear H; have p247 : 0 ≤ (x9_1 : Int) := zD; have q247 : x9_1 < (l1.length : Int) := zD; obtain ⟨ad247, e247, hx247_0⟩ := Kd.at_int HR1.out x9_1 p247 q247
        cases e247
        replace hx247_0 := zw HB.out hx247_0; replace p247 := eq_true p247; replace q247 := eq_true q247; obtain ⟨hcz16_0, hcz16_1, hfz16_0, hfz16_1⟩ := zy2 BK246.out
        go_wp2_with (first | ((with_reducible refine zgc 88 ?_); refine zgo (some 19) Try.func88 #[.int .i64 (rd l1 x9_1), .int .i64 0, .int .i64 (wrap64 ((l0_1.length : Int) - 1))] ?_; (with_reducible refine (impl_within.calls (rd l1 x9_1) 0 (wrap64 ((l0_1.length : Int) - 1)) true _ A7.out).mono ?_); rintro e w' ⟨rfl, ⟨nd, rfl⟩⟩; refine ⟨_, rfl, ?_⟩))
        go_roundg k1
        case measure => have := HK1.out; omega
        case rel => exact ⟨(wrap64 (x9_1 + 1)), (zF), H', ⟨by have := HK1.out; omega⟩, ⟨zb BK246.out⟩, ⟨zB2 HB.out GE246.out⟩⟩
      ·replace c8 := Bool.eq_false_iff.mpr c8
       subst c8
       have H1 : (some false) = some r := by rw [if_neg (show ¬ (false = true) by decide)] at H; exact H
       clear H; have H := H1; clear H1; obtain rfl := Option.some.inj H; have p247 : 0 ≤ (x9_1 : Int) := zD; have q247 : x9_1 < (l1.length : Int) := zD; obtain ⟨ad247, e247, hx247_0⟩ := Kd.at_int HR1.out x9_1 p247 q247
       cases e247
       replace hx247_0 := zw HB.out hx247_0; replace p247 := eq_true p247; replace q247 := eq_true q247; obtain ⟨hcz17_0, hcz17_1, hfz17_0, hfz17_1⟩ := zy2 BK246.out
       go_wp2_with (first | ((with_reducible refine zgc 88 ?_); refine zgo (some 19) Try.func88 #[.int .i64 (rd l1 x9_1), .int .i64 0, .int .i64 (wrap64 ((l0_1.length : Int) - 1))] ?_; (with_reducible refine (impl_within.calls (rd l1 x9_1) 0 (wrap64 ((l0_1.length : Int) - 1)) false _ A7.out).mono ?_); rintro e w' ⟨rfl, ⟨nd, rfl⟩⟩; refine ⟨_, rfl, ?_⟩))
       go_ret
       exact ⟨zE, zB2 HB.out GE246.out⟩
     ·rw [if_neg c6] at H
      exact absurd H (by simp)
    ·rw [if_neg c5] at H
     exact absurd H (by simp)
   ·rw [if_neg c4] at H
    have c4b0 := decide_eq_false c4; clear c4; obtain rfl := Option.some.inj H
    go_wp2
    go_ret
    exact ⟨zE, zB2 HB.out GE246.out⟩

end
end Go.Proofs.Ytimjblgepbhoaaa.PStays

