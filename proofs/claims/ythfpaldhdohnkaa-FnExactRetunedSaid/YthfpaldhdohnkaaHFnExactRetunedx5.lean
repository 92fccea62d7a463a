/- The walks of the functions that the law reaches: each computes what its Lean function says. No condition beyond each contract's own. -/
import Derived.Test.YthfpaldhdohnkaaHFnExactRetunedx0
import Derived.Test.YthfpaldhdohnkaaHFnExactRetunedx4
namespace Go.Proofs.Ythfpaldhdohnkaa.PFnExactRetuned
open Go.RowKit Go.Proofs.YthfpaldhdohnkaaW.PrintWords Go.Proofs.YthfpaldhdohnkaaW.PrintLast Go.Proofs.YthfpaldhdohnkaaW.PrintMore
attribute [local go_sem] max2_int min2_int max_two min_two max_three min_three max_four min_four   -- for this text's walks alone
set_option linter.unusedVariables false
set_option linter.unusedSimpArgs false

/-! ### spec_l12Ok: function 60 -/
mutual
def spec_l12Ok.l0 : Nat → Int → Int → List Int → List (List Int) → Option (Bool)
 | 0, _, _, _, _ => none
 | k + 1, x3, x4, x1000, x1001 => if x4 < x3 then (if 0 ≤ x4 then (if x4 < (x1000.length : Int) then ((spec_l00In.f (rd x1000 x4) 0 1000000).bind fun t184 => (if t184 = true then (if x4 < (x1001.length : Int) then (spec_l12Ok.j1 k x3 x4 (((rd_L1 x1001 x4).length : Int) != x3) x1000 x1001) else (none)) else (spec_l12Ok.j1 k x3 x4 true x1000 x1001))) else (none)) else (none)) else ((spec_l00In.f x3 1 4).bind fun t182 => (some t182))
def spec_l12Ok.j1 : Nat → Int → Int → Bool → List Int → List (List Int) → Option (Bool)
 | 0, _, _, _, _, _ => none
 | k + 1, x3, x4, x43, x1000, x1001 => if x43 = true then (some false) else (spec_l12Ok.l1 k x3 x4 0 x1000 x1001)
def spec_l12Ok.l1 : Nat → Int → Int → Int → List Int → List (List Int) → Option (Bool)
 | 0, _, _, _, _, _ => none
 | k + 1, x3, x4, x5, x1000, x1001 => if x5 < x3 then (if 0 ≤ x4 then (if x4 < (x1001.length : Int) then (if 0 ≤ x5 then (if x5 < ((rd_L1 x1001 x4).length : Int) then ((spec_l00In.f (rd (rd_L1 x1001 x4) x5) (-1000) 1000).bind fun t188 => (if t188 = true then (spec_l12Ok.l1 k x3 x4 (wrap64 (x5 + 1)) x1000 x1001) else (some false))) else (none)) else (none)) else (none)) else (none)) else (spec_l12Ok.l0 k x3 (wrap64 (x4 + 1)) x1000 x1001)
end
def spec_l12Ok.f (k : Nat) (l0_0 : List Int) (l0_1 : List (List Int)) : Option (Bool) := if (l0_1.length : Int) = (l0_0.length : Int) then (spec_l12Ok.l0 k (l0_0.length : Int) 0 l0_0 l0_1) else (some false)
theorem spec_l12Ok.mono_l : ∀ k, (∀ y0 y1 y2 y3, LeO (spec_l12Ok.l0 k y0 y1 y2 y3) (spec_l12Ok.l0 (k + 1) y0 y1 y2 y3)) ∧ (∀ y0 y1 y2 y3 y4, LeO (spec_l12Ok.j1 k y0 y1 y2 y3 y4) (spec_l12Ok.j1 (k + 1) y0 y1 y2 y3 y4)) ∧ (∀ y0 y1 y2 y3 y4, LeO (spec_l12Ok.l1 k y0 y1 y2 y3 y4) (spec_l12Ok.l1 (k + 1) y0 y1 y2 y3 y4))
 | 0 => ⟨fun _ _ _ _ r h => by simp [spec_l12Ok.l0] at h, fun _ _ _ _ _ r h => by simp [spec_l12Ok.j1] at h, fun _ _ _ _ _ r h => by simp [spec_l12Ok.l1] at h⟩
 | k + 1 => by
  obtain ⟨ih0, ih1, ih2⟩ := spec_l12Ok.mono_l k
  refine ⟨?_, ?_, ?_⟩
  ·intro y0 y1 y2 y3
   unfold spec_l12Ok.l0
   (with_reducible repeat' first | apply ih0 | apply ih1 | apply ih2 | apply LeO.refl | apply LeO.none | refine LeO.ite ?_ ?_ | refine LeO.bind ?_ (fun _ => ?_))
   repeat' first | apply ih0 | apply ih1 | apply ih2 | apply LeO.none | refine LeO.ite ?_ ?_ | refine LeO.bind ?_ (fun _ => ?_)
  ·intro y0 y1 y2 y3 y4
   unfold spec_l12Ok.j1
   (with_reducible repeat' first | apply ih0 | apply ih1 | apply ih2 | apply LeO.refl | apply LeO.none | refine LeO.ite ?_ ?_ | refine LeO.bind ?_ (fun _ => ?_))
   repeat' first | apply ih0 | apply ih1 | apply ih2 | apply LeO.none | refine LeO.ite ?_ ?_ | refine LeO.bind ?_ (fun _ => ?_)
  ·intro y0 y1 y2 y3 y4
   unfold spec_l12Ok.l1
   (with_reducible repeat' first | apply ih0 | apply ih1 | apply ih2 | apply LeO.refl | apply LeO.none | refine LeO.ite ?_ ?_ | refine LeO.bind ?_ (fun _ => ?_))
   repeat' first | apply ih0 | apply ih1 | apply ih2 | apply LeO.none | refine LeO.ite ?_ ?_ | refine LeO.bind ?_ (fun _ => ?_)
theorem spec_l12Ok.mono : ∀ a0 a1 k, LeO (spec_l12Ok.f k a0 a1) (spec_l12Ok.f (k + 1) a0 a1) := by
 intro a0 a1 k
 obtain ⟨ih0, ih1, ih2⟩ := spec_l12Ok.mono_l k
 unfold spec_l12Ok.f
 (with_reducible repeat' first | apply ih0 | apply ih1 | apply ih2 | apply LeO.refl | apply LeO.none | refine LeO.ite ?_ ?_ | refine LeO.bind ?_ (fun _ => ?_))
 repeat' first | apply ih0 | apply ih1 | apply ih2 | apply LeO.none | refine LeO.ite ?_ ?_ | refine LeO.bind ?_ (fun _ => ?_)
set_option maxHeartbeats 8000000 in
set_option maxRecDepth 100000 in
theorem spec_l12Ok.calls (k : Nat) (g0 : Nat) (A0_0 : Option Addr) (c0_0 : Nat) (l0_0 : List Int) (A0_1 : Option Addr) (c0_1 : Nat) (l0_1 : List (List Int)) (r : Bool) (w : World) (hbk0 : w.heap[g0]? = some (.cells #[.slice A0_0 l0_0.length c0_0, .slice A0_1 l0_1.length c0_1] 27 (0, 0))) (hr0_0 : Kd.C (Kd.int .i64) w A0_0 l0_0.length l0_0) (hc0_0 : l0_0.length ≤ c0_0) (hr0_1 : Kd.C (Kd.slice 2 (Kd.int .i64)) w A0_1 l0_1.length l0_1) (hc0_1 : l0_1.length ≤ c0_1) (h : spec_l12Ok.f k l0_0 l0_1 = some r) :
  Calls Try.prog 60 #[.pointer (some ⟨g0, 0, none⟩)] w fun e w' => e = .returned (.bool r) ∧ Below w.heap.size w w' := by
 have HR0_0 := zQ hr0_0
 have HC0_0 := zQ hc0_0
 clear hr0_0 hc0_0
 have HR0_1 := zQ hr0_1
 have HC0_1 := zQ hc0_1
 clear hr0_1 hc0_1
 have BK0 := zQ hbk0
 clear hbk0
 have HB := zQ (Below.refl w.heap.size w)
 have H : (if (l0_1.length : Int) = (l0_0.length : Int) then (spec_l12Ok.l0 k (l0_0.length : Int) 0 l0_0 l0_1) else (some false)) = some r := h
 clear h
 by_cases c2 : (l0_1.length : Int) = (l0_0.length : Int)
 ·rw [if_pos c2] at H
  have c2b0 : ((l0_1.length : Int) == (l0_0.length : Int)) = true := beq_iff_eq.mpr c2; have c2b1 : ((l0_1.length : Int) != (l0_0.length : Int)) = false := bne_eq_false_iff_eq.mpr c2
  have c2b2 : (l0_1.length == l0_0.length) = true := by first | simpa using c2 | (simp at c2 ⊢; omega)
  clear c2; have H' := zQ H; clear H; have hcz3_0 := zc0 BK0.out; have hcz3_1 := zc1 BK0.out; have hfz3_0 := zfz BK0.out 0; have hfz3_1 := zfz BK0.out 1
  go_enter Try.func60, Try.ntmps60
  go_wp2
  go_loopg [4] k (fun kq v4 w' => ∃ (x4_1 : Int), v4 = .int .i64 x4_1 ∧ Aside0 (spec_l12Ok.l0 kq (l0_0.length : Int) x4_1 l0_0 l0_1 = some r) ∧ Aside0 (kq ≤ k) ∧ Aside0 (w'.heap[g0]? = some (.cells #[(.slice A0_0 l0_0.length c0_0), (.slice A0_1 l0_1.length c0_1)] 27 (0, 0))) ∧ Aside0 (Below w.heap.size w w'))
  case atStart => exact ⟨(0), (zF), H', ⟨Nat.le_refl _⟩, ⟨zb BK0.out⟩, ⟨zB HB.out⟩⟩
  case round =>
   clear H'; (try clear c2); (try clear c2b0); (try clear c2b1); (try clear c2b2); (try clear p2); (try clear hcz3_0); (try clear hcz3_1); (try clear hfz3_0); (try clear hfz3_1); obtain ⟨x4_1, rfl, HA, HK1, BK0, HB⟩ := hrel
   cases gk with
   | zero => exact absurd HA.out (by simp [spec_l12Ok.l0])
   | succ k1 =>
    have H := HA.out; clear HA
    simp only [spec_l12Ok.l0] at H
    by_cases c4 : x4_1 < (l0_0.length : Int)
    ·rw [if_pos c4] at H
     have c4b0 : decide (x4_1 < (l0_0.length : Int)) = true := decide_eq_true c4; clear c4; have HC5 := zQ H; clear H
     go_upto_region 7 with (fail)
     go_cut [43] (fun v43 wc => ∃ (kq : Nat) (x43_4 : Bool), v43 = .bool x43_4 ∧ Aside0 (spec_l12Ok.j1 kq (l0_0.length : Int) x4_1 x43_4 l0_0 l0_1 = some r) ∧ Aside0 (kq ≤ k1) ∧ Aside0 (wc.heap[g0]? = some (.cells #[(.slice A0_0 l0_0.length c0_0), (.slice A0_1 l0_1.length c0_1)] 27 (0, 0))) ∧ Aside0 (Below w.heap.size w wc))
     case first =>
      have H := HC5.out; clear HC5
      by_cases c6 : 0 ≤ x4_1
      ·rw [if_pos c6] at H
       have c6b0 : decide (0 ≤ x4_1) = true := decide_eq_true c6; clear c6
       (first | rw [c6b0] | (simp only [i64_w, i32_w]; rw [c6b0]) | skip)
       by_cases c7 : x4_1 < (l0_0.length : Int)
       ·rw [if_pos c7] at H
        have c7b0 : decide (x4_1 < (l0_0.length : Int)) = true := decide_eq_true c7; clear c7; replace H := Option.bind_eq_some_iff.mp H; obtain ⟨t184, A80, H⟩ := H; replace H : (if t184 = true then (if x4_1 < (l0_1.length : Int) then (spec_l12Ok.j1 k1 (l0_0.length : Int) x4_1 (((rd_L1 l0_1 x4_1).length : Int) != (l0_0.length : Int)) l0_0 l0_1) else (none)) else (spec_l12Ok.j1 k1 (l0_0.length : Int) x4_1 true l0_0 l0_1)) = some r := H; have A8 := zQ A80; clear A80
        by_cases c9 : t184 = true
        ·subst c9
         have H1 : (if x4_1 < (l0_1.length : Int) then (spec_l12Ok.j1 k1 (l0_0.length : Int) x4_1 (((rd_L1 l0_1 x4_1).length : Int) != (l0_0.length : Int)) l0_0 l0_1) else (none)) = some r := by rw [if_pos rfl] at H; exact H
         clear H; have H := H1; clear H1
         by_cases c10 : x4_1 < (l0_1.length : Int)
         ·rw [if_pos c10] at H
          have c10b0 : decide (x4_1 < (l0_1.length : Int)) = true := decide_eq_true c10; clear c10; have H' := zQ H; clear H; have hcz11_0 := zc0 BK0.out; have hcz11_1 := zc1 BK0.out; have hfz11_0 := zfz BK0.out 0; have hfz11_1 := zfz BK0.out 1; have p183 : 0 ≤ (x4_1 : Int) := of_decide_eq_true zA; have q183 : x4_1 < (l0_0.length : Int) := of_decide_eq_true zA; obtain ⟨ad183, e183, hx183_0⟩ := Kd.at_int HR0_0.out x4_1 p183 q183
          cases e183
          replace hx183_0 := zw HB.out hx183_0; replace p183 := eq_true p183; replace q183 := eq_true q183
          go_wp2_with (first | ((with_reducible refine zgc 63 ?_); refine zgo (some 30) Try.func63 #[.int .i64 (rd l0_0 x4_1), .int .i64 0, .int .i64 1000000] ?_; (with_reducible refine (spec_l00In.calls (rd l0_0 x4_1) 0 1000000 true _ A8.out).mono ?_); rintro e w' ⟨rfl, ⟨nd, rfl⟩⟩; refine ⟨_, rfl, ?_⟩; have p185 : 0 ≤ (x4_1 : Int) := of_decide_eq_true zA; have q185 : x4_1 < (l0_1.length : Int) := of_decide_eq_true zA; obtain ⟨ad185, A185_0, c185_0, e185, hx185_0, hl185_0, hi185_0⟩ := at_L1 HR0_1.out x4_1 p185 q185; cases e185; replace hx185_0 := zw HB.out hx185_0; have HR185_0 := zQ hi185_0; have HC185_0 := zQ hl185_0; clear hi185_0 hl185_0; replace p185 := eq_true p185; replace q185 := eq_true q185))
          go_meet
          case rel => exact ⟨_, ((((rd_L1 l0_1 x4_1).length : Int) != (l0_0.length : Int))), (zF), H', ⟨by have := HK1.out; first | omega | exact Nat.le_refl _⟩, ⟨zb BK0.out⟩, ⟨zB HB.out⟩⟩
         ·rw [if_neg c10] at H
          exact absurd H (by simp)
        ·replace c9 := Bool.eq_false_iff.mpr c9
         subst c9
         have H1 : (spec_l12Ok.j1 k1 (l0_0.length : Int) x4_1 true l0_0 l0_1) = some r := by rw [if_neg (show ¬ (false = true) by decide)] at H; exact H
         clear H; have H := H1; clear H1; have H' := zQ H; clear H; have hcz12_0 := zc0 BK0.out; have hcz12_1 := zc1 BK0.out; have hfz12_0 := zfz BK0.out 0; have hfz12_1 := zfz BK0.out 1; have p183 : 0 ≤ (x4_1 : Int) := of_decide_eq_true zA; have q183 : x4_1 < (l0_0.length : Int) := of_decide_eq_true zA; obtain ⟨ad183, e183, hx183_0⟩ := Kd.at_int HR0_0.out x4_1 p183 q183
         cases e183
         replace hx183_0 := zw HB.out hx183_0; replace p183 := eq_true p183; replace q183 := eq_true q183
         go_wp2_with (first | ((with_reducible refine zgc 63 ?_); refine zgo (some 30) Try.func63 #[.int .i64 (rd l0_0 x4_1), .int .i64 0, .int .i64 1000000] ?_; (with_reducible refine (spec_l00In.calls (rd l0_0 x4_1) 0 1000000 false _ A8.out).mono ?_); rintro e w' ⟨rfl, ⟨nd, rfl⟩⟩; refine ⟨_, rfl, ?_⟩))
         go_meet
         case rel => exact ⟨_, (true), (zF), H', ⟨by have := HK1.out; first | omega | exact Nat.le_refl _⟩, ⟨zb BK0.out⟩, ⟨zB HB.out⟩⟩
       ·rw [if_neg c7] at H
        exact absurd H (by simp)
      ·rw [if_neg c6] at H
       exact absurd H (by simp)
     case rest =>
      clear HC5; (try clear c1); (try clear p1); (try clear q1); (try clear hx1); (try clear c2); (try clear c2b0); (try clear c2b1); (try clear c2b2); (try clear p2); (try clear c4); (try clear c4b0); (try clear c6); (try clear c6b0); (try clear c7); (try clear c7b0); (try clear c9); (try clear c10); (try clear c10b0); (try clear hcz11_0); (try clear hcz11_1); (try clear hcz12_0); (try clear hcz12_1); (try clear hcz3_0); (try clear hcz3_1); (try clear hfz11_0); (try clear hfz11_1); (try clear hfz12_0); (try clear hfz12_1); (try clear hfz3_0); (try clear hfz3_1); (try clear hx183_0); (try clear hx185_0); (try clear p183); (try clear p185); (try clear p2); (try clear q183); (try clear q185); obtain ⟨kq, x43_4, rfl, HA, HJ4, BK0, HB⟩ := hcut
      cases kq with
      | zero => exact absurd HA.out (by simp [spec_l12Ok.j1])
      | succ kj4 =>
       have H := HA.out; clear HA
       simp only [spec_l12Ok.j1] at H
       by_cases c13 : x43_4 = true
       ·subst c13
        have H1 : (some false) = some r := by rw [if_pos rfl] at H; exact H
        clear H; have H := H1; clear H1; obtain rfl := Option.some.inj H
        go_wp2
        go_ret
        exact ⟨zE, zB HB.out⟩
       ·replace c13 := Bool.eq_false_iff.mpr c13
        subst c13
        have H1 : (spec_l12Ok.l1 kj4 (l0_0.length : Int) x4_1 0 l0_0 l0_1) = some r := by rw [if_neg (show ¬ (false = true) by decide)] at H; exact H
        clear H; have H := H1; clear H1; have H' := zQ H; clear H
        go_wp2
        go_loopg [5] kj4 (fun kq v5 w' => ∃ (x5_3 : Int), v5 = .int .i64 x5_3 ∧ Aside0 (spec_l12Ok.l1 kq (l0_0.length : Int) x4_1 x5_3 l0_0 l0_1 = some r) ∧ Aside0 (kq ≤ kj4) ∧ Aside0 (w'.heap[g0]? = some (.cells #[(.slice A0_0 l0_0.length c0_0), (.slice A0_1 l0_1.length c0_1)] 27 (0, 0))) ∧ Aside0 (Below w.heap.size w w'))
        case atStart => exact ⟨(0), (zF), H', ⟨Nat.le_refl _⟩, ⟨zb BK0.out⟩, ⟨zB HB.out⟩⟩
        case round =>
         clear H'; (try clear c1); (try clear p1); (try clear q1); (try clear hx1); (try clear c2); (try clear c2b0); (try clear c2b1); (try clear c2b2); (try clear p2); (try clear c4); (try clear c4b0); (try clear c6); (try clear c6b0); (try clear c7); (try clear c7b0); (try clear c9); (try clear c10); (try clear c10b0); (try clear c13); (try clear hcz11_0); (try clear hcz11_1); (try clear hcz12_0); (try clear hcz12_1); (try clear hcz3_0); (try clear hcz3_1); (try clear hfz11_0); (try clear hfz11_1); (try clear hfz12_0); (try clear hfz12_1); (try clear hfz3_0); (try clear hfz3_1); (try clear hx183_0); (try clear hx185_0); (try clear p1); (try clear p183); (try clear p185); (try clear p2); (try clear q1); (try clear q183); (try clear q185); obtain ⟨x5_3, rfl, HA, HK3, BK0, HB⟩ := hrel
         cases gk with
         | zero => exact absurd HA.out (by simp [spec_l12Ok.l1])
         | succ k3 =>
          have H := HA.out; clear HA
          simp only [spec_l12Ok.l1] at H
          by_cases c14 : x5_3 < (l0_0.length : Int)
          ·rw [if_pos c14] at H
           have c14b0 : decide (x5_3 < (l0_0.length : Int)) = true := decide_eq_true c14; clear c14
           by_cases c15 : 0 ≤ x4_1
           ·rw [if_pos c15] at H
            have c15b0 : decide (0 ≤ x4_1) = true := decide_eq_true c15; clear c15
            by_cases c16 : x4_1 < (l0_1.length : Int)
            ·rw [if_pos c16] at H
             have c16b0 : decide (x4_1 < (l0_1.length : Int)) = true := decide_eq_true c16; clear c16
             by_cases c17 : 0 ≤ x5_3
             ·rw [if_pos c17] at H
              have c17b0 : decide (0 ≤ x5_3) = true := decide_eq_true c17; clear c17
              by_cases c18 : x5_3 < ((rd_L1 l0_1 x4_1).length : Int)
              ·rw [if_pos c18] at H
               have c18b0 : decide (x5_3 < ((rd_L1 l0_1 x4_1).length : Int)) = true := decide_eq_true c18; clear c18; replace H := Option.bind_eq_some_iff.mp H; obtain ⟨t188, A190, H⟩ := H; replace H : (if t188 = true then (spec_l12Ok.l1 k3 (l0_0.length : Int) x4_1 (wrap64 (x5_3 + 1)) l0_0 l0_1) else (some false)) = some r := H; have A19 := zQ A190; clear A190
               by_cases c20 : t188 = true
               ·subst c20
                have H1 : (spec_l12Ok.l1 k3 (l0_0.length : Int) x4_1 (wrap64 (x5_3 + 1)) l0_0 l0_1) = some r := by rw [if_pos rfl] at H; exact H
                clear H; have H := H1; clear H1; have H' := zQ H; clear H; have hcz21_0 := zc0 BK0.out; have hcz21_1 := zc1 BK0.out; have hfz21_0 := zfz BK0.out 0; have hfz21_1 := zfz BK0.out 1; have p186 : 0 ≤ (x4_1 : Int) := of_decide_eq_true zA; have q186 : x4_1 < (l0_1.length : Int) := of_decide_eq_true zA; obtain ⟨ad186, A186_0, c186_0, e186, hx186_0, hl186_0, hi186_0⟩ := at_L1 HR0_1.out x4_1 p186 q186
                cases e186
                replace hx186_0 := zw HB.out hx186_0; have HR186_0 := zQ hi186_0; have HC186_0 := zQ hl186_0; clear hi186_0 hl186_0; replace p186 := eq_true p186; replace q186 := eq_true q186; have p187 : 0 ≤ (x5_3 : Int) := of_decide_eq_true zA; have q187 : x5_3 < ((rd_L1 l0_1 x4_1).length : Int) := of_decide_eq_true zA; obtain ⟨ad187, e187, hx187_0⟩ := Kd.at_int HR186_0.out x5_3 p187 q187
                cases e187
                replace hx187_0 := zw HB.out hx187_0; replace p187 := eq_true p187; replace q187 := eq_true q187
                go_wp2_with (first | ((with_reducible refine zgc 63 ?_); refine zgo (some 59) Try.func63 #[.int .i64 (rd (rd_L1 l0_1 x4_1) x5_3), .int .i64 (-1000), .int .i64 1000] ?_; (with_reducible refine (spec_l00In.calls (rd (rd_L1 l0_1 x4_1) x5_3) (-1000) 1000 true _ A19.out).mono ?_); rintro e w' ⟨rfl, ⟨nd, rfl⟩⟩; refine ⟨_, rfl, ?_⟩))
                go_roundg k3
                case measure => have := HK1.out; have := HJ4.out; have := HK3.out; omega
                case rel => exact ⟨(wrap64 (x5_3 + 1)), (zF), H', ⟨by have := HK1.out; have := HJ4.out; have := HK3.out; omega⟩, ⟨zb BK0.out⟩, ⟨zB HB.out⟩⟩
               ·replace c20 := Bool.eq_false_iff.mpr c20
                subst c20
                have H1 : (some false) = some r := by rw [if_neg (show ¬ (false = true) by decide)] at H; exact H
                clear H; have H := H1; clear H1; obtain rfl := Option.some.inj H; have hcz22_0 := zc0 BK0.out; have hcz22_1 := zc1 BK0.out; have hfz22_0 := zfz BK0.out 0; have hfz22_1 := zfz BK0.out 1; have p186 : 0 ≤ (x4_1 : Int) := of_decide_eq_true zA; have q186 : x4_1 < (l0_1.length : Int) := of_decide_eq_true zA; obtain ⟨ad186, A186_0, c186_0, e186, hx186_0, hl186_0, hi186_0⟩ := at_L1 HR0_1.out x4_1 p186 q186
                cases e186
                replace hx186_0 := zw HB.out hx186_0; have HR186_0 := zQ hi186_0; have HC186_0 := zQ hl186_0; clear hi186_0 hl186_0; replace p186 := eq_true p186; replace q186 := eq_true q186; have p187 : 0 ≤ (x5_3 : Int) := of_decide_eq_true zA; have q187 : x5_3 < ((rd_L1 l0_1 x4_1).length : Int) := of_decide_eq_true zA; obtain ⟨ad187, e187, hx187_0⟩ := Kd.at_int HR186_0.out x5_3 p187 q187
                cases e187
                replace hx187_0 := zw HB.out hx187_0; replace p187 := eq_true p187; replace q187 := eq_true q187
                go_wp2_with (first | ((with_reducible refine zgc 63 ?_); refine zgo (some 59) Try.func63 #[.int .i64 (rd (rd_L1 l0_1 x4_1) x5_3), .int .i64 (-1000), .int .i64 1000] ?_; (with_reducible refine (spec_l00In.calls (rd (rd_L1 l0_1 x4_1) x5_3) (-1000) 1000 false _ A19.out).mono ?_); rintro e w' ⟨rfl, ⟨nd, rfl⟩⟩; refine ⟨_, rfl, ?_⟩))
                go_ret
                exact ⟨zE, zB HB.out⟩
              ·rw [if_neg c18] at H
               exact absurd H (by simp)
             ·rw [if_neg c17] at H
              exact absurd H (by simp)
            ·rw [if_neg c16] at H
             exact absurd H (by simp)
           ·rw [if_neg c15] at H
            exact absurd H (by simp)
          ·rw [if_neg c14] at H
           have c14b0 : decide (x5_3 < (l0_0.length : Int)) = false := decide_eq_false c14; clear c14; have H' := zQ H; clear H
           go_wp2
           go_roundg k3
           case measure => have := HK1.out; have := HJ4.out; have := HK3.out; omega
           case rel => exact ⟨(wrap64 (x4_1 + 1)), (zF), H', ⟨by have := HK1.out; have := HJ4.out; have := HK3.out; omega⟩, ⟨zb BK0.out⟩, ⟨zB HB.out⟩⟩
    ·rw [if_neg c4] at H
     have c4b0 : decide (x4_1 < (l0_0.length : Int)) = false := decide_eq_false c4; clear c4; replace H := Option.bind_eq_some_iff.mp H; obtain ⟨t182, A230, H⟩ := H; replace H : (some t182) = some r := H; have A23 := zQ A230; clear A230; obtain rfl := Option.some.inj H
     go_wp2_with (first | ((with_reducible refine zgc 63 ?_); refine zgo (some 62) Try.func63 #[.int .i64 (l0_0.length : Int), .int .i64 1, .int .i64 4] ?_; (with_reducible refine (spec_l00In.calls (l0_0.length : Int) 1 4 t182 _ A23.out).mono ?_); rintro e w' ⟨rfl, ⟨nd, rfl⟩⟩; refine ⟨_, rfl, ?_⟩))
     go_ret
     exact ⟨zE, zB HB.out⟩
 ·rw [if_neg c2] at H
  have c2b0 : ((l0_1.length : Int) == (l0_0.length : Int)) = false := beq_eq_false_iff_ne.mpr c2; have c2b1 : ((l0_1.length : Int) != (l0_0.length : Int)) = true := bne_iff_ne.mpr c2
  have c2b2 : (l0_1.length == l0_0.length) = false := by first | simpa using c2 | (simp at c2 ⊢; omega)
  obtain rfl := Option.some.inj H; have hcz24_0 := zc0 BK0.out; have hcz24_1 := zc1 BK0.out; have hfz24_0 := zfz BK0.out 0; have hfz24_1 := zfz BK0.out 1
  go_enter Try.func60, Try.ntmps60
  go_wp2
  go_ret
  exact ⟨zE, zB HB.out⟩

/-! ### spec_l12Code: function 66 -/
def spec_l12Code.l0 : Nat → List Int → Int → List Int → List (List Int) → Option (Int)
 | 0, _, _, _, _ => none
 | k + 1, x1, x5, x1000, x1001 => if x5 < (x1.length : Int) then (if 0 ≤ x5 then ((spec_l00In.f (rd x1 x5) (-6) 6).bind fun t191 => (if t191 = true then (spec_l12Code.l0 k x1 (wrap64 (x5 + 1)) x1000 x1001) else (some 2))) else (none)) else (if (x1.length : Int) = (x1000.length : Int) then (some 0) else (some 2))
def spec_l12Code.f (k : Nat) (l0_0 : List Int) (l0_1 : List (List Int)) (l1 : List Int) : Option (Int) := (spec_l12Ok.f k l0_0 l0_1).bind fun t189 => (if t189 = true then (spec_l12Code.l0 k l1 0 l0_0 l0_1) else (some 1))
theorem spec_l12Code.mono_l : ∀ k, (∀ y0 y1 y2 y3, LeO (spec_l12Code.l0 k y0 y1 y2 y3) (spec_l12Code.l0 (k + 1) y0 y1 y2 y3))
 | 0 => fun _ _ _ _ r h => by simp [spec_l12Code.l0] at h
 | k + 1 => by
  have ih0 := spec_l12Code.mono_l k
  ·intro y0 y1 y2 y3
   unfold spec_l12Code.l0
   (with_reducible repeat' first | apply ih0 | apply spec_l12Ok.mono | apply LeO.refl | apply LeO.none | refine LeO.ite ?_ ?_ | refine LeO.bind ?_ (fun _ => ?_))
   repeat' first | apply ih0 | apply spec_l12Ok.mono | apply LeO.none | refine LeO.ite ?_ ?_ | refine LeO.bind ?_ (fun _ => ?_)
theorem spec_l12Code.mono : ∀ a0 a1 a2 k, LeO (spec_l12Code.f k a0 a1 a2) (spec_l12Code.f (k + 1) a0 a1 a2) := by
 intro a0 a1 a2 k
 have ih0 := spec_l12Code.mono_l k
 unfold spec_l12Code.f
 (with_reducible repeat' first | apply ih0 | apply spec_l12Ok.mono | apply LeO.refl | apply LeO.none | refine LeO.ite ?_ ?_ | refine LeO.bind ?_ (fun _ => ?_))
 repeat' first | apply ih0 | apply spec_l12Ok.mono | apply LeO.none | refine LeO.ite ?_ ?_ | refine LeO.bind ?_ (fun _ => ?_)
set_option maxHeartbeats 8000000 in
set_option maxRecDepth 100000 in
theorem spec_l12Code.calls (k : Nat) (g0 : Nat) (A0_0 : Option Addr) (c0_0 : Nat) (l0_0 : List Int) (A0_1 : Option Addr) (c0_1 : Nat) (l0_1 : List (List Int)) (A1 : Option Addr) (c1 : Nat) (l1 : List Int) (r : Int) (w : World) (hbk0 : w.heap[g0]? = some (.cells #[.slice A0_0 l0_0.length c0_0, .slice A0_1 l0_1.length c0_1] 27 (0, 0))) (hr0_0 : Kd.C (Kd.int .i64) w A0_0 l0_0.length l0_0) (hc0_0 : l0_0.length ≤ c0_0) (hr0_1 : Kd.C (Kd.slice 2 (Kd.int .i64)) w A0_1 l0_1.length l0_1) (hc0_1 : l0_1.length ≤ c0_1) (hr1 : Kd.C (Kd.int .i64) w A1 l1.length l1) (hc1 : l1.length ≤ c1) (h : spec_l12Code.f k l0_0 l0_1 l1 = some r) :
  Calls Try.prog 66 #[.pointer (some ⟨g0, 0, none⟩), .slice A1 l1.length c1] w fun e w' => e = .returned (.int .i64 r) ∧ Below w.heap.size w w' := by
 have HR0_0 := zQ hr0_0
 have HC0_0 := zQ hc0_0
 clear hr0_0 hc0_0
 have HR0_1 := zQ hr0_1
 have HC0_1 := zQ hc0_1
 clear hr0_1 hc0_1
 have HR1 := zQ hr1
 have HC1 := zQ hc1
 clear hr1 hc1
 have BK0 := zQ hbk0
 clear hbk0
 have HB := zQ (Below.refl w.heap.size w)
 have H : ((spec_l12Ok.f k l0_0 l0_1).bind fun t189 => (if t189 = true then (spec_l12Code.l0 k l1 0 l0_0 l0_1) else (some 1))) = some r := h
 clear h
 replace H := Option.bind_eq_some_iff.mp H
 obtain ⟨t189, A30, H⟩ := H
 replace H : (if t189 = true then (spec_l12Code.l0 k l1 0 l0_0 l0_1) else (some 1)) = some r := H
 have A3 := zQ A30
 clear A30
 by_cases c4 : t189 = true
 ·subst c4
  have H1 : (spec_l12Code.l0 k l1 0 l0_0 l0_1) = some r := by rw [if_pos rfl] at H; exact H
  clear H; have H := H1; clear H1; have H' := zQ H; clear H
  go_enter Try.func66, Try.ntmps66
  go_wp2_with (first | ((with_reducible refine zgc 60 ?_); refine zgo (some 7) Try.func60 #[.pointer (some ⟨g0, 0, none⟩)] ?_; (with_reducible refine (spec_l12Ok.calls k g0 A0_0 c0_0 l0_0 A0_1 c0_1 l0_1 true _ (zb BK0.out) ?side2 HC0_0.out ?side4 HC0_1.out A3.out).mono ?_); (case side2 => repeat (first | exact HR0_0.out | (with_reducible refine Kd.C_alloc ?_ _) | (with_reducible refine Kd.C_drewN ?_ _) | (with_reducible refine Kd.C_drew ?_))); (case side4 => repeat (first | exact HR0_1.out | (with_reducible refine Kd.C_alloc ?_ _) | (with_reducible refine Kd.C_drewN ?_ _) | (with_reducible refine Kd.C_drew ?_))); rintro e w5 ⟨rfl, hb⟩; refine ⟨_, rfl, ?_⟩; replace BK0 := zbl BK0.out hb; replace HB := zbs HB.out hb; (try clear hb)))
  go_loopg [5] k (fun kq v5 w' => ∃ (x5_1 : Int), v5 = .int .i64 x5_1 ∧ Aside0 (spec_l12Code.l0 kq l1 x5_1 l0_0 l0_1 = some r) ∧ Aside0 (kq ≤ k) ∧ Aside0 (w'.heap[g0]? = some (.cells #[(.slice A0_0 l0_0.length c0_0), (.slice A0_1 l0_1.length c0_1)] 27 (0, 0))) ∧ Aside0 (Below w.heap.size w w'))
  case atStart => exact ⟨(0), (zF), H', ⟨Nat.le_refl _⟩, ⟨zb BK0.out⟩, ⟨zB HB.out⟩⟩
  case round =>
   clear H'; (try clear c1); (try clear p2); (try clear c4); obtain ⟨x5_1, rfl, HA, HK1, BK0, HB⟩ := hrel
   cases gk with
   | zero => exact absurd HA.out (by simp [spec_l12Code.l0])
   | succ k1 =>
    have H := HA.out; clear HA
    simp only [spec_l12Code.l0] at H
    by_cases c6 : x5_1 < (l1.length : Int)
    ·rw [if_pos c6] at H
     have c6b0 : decide (x5_1 < (l1.length : Int)) = true := decide_eq_true c6; clear c6
     by_cases c7 : 0 ≤ x5_1
     ·rw [if_pos c7] at H
      have c7b0 : decide (0 ≤ x5_1) = true := decide_eq_true c7; clear c7; replace H := Option.bind_eq_some_iff.mp H; obtain ⟨t191, A80, H⟩ := H; replace H : (if t191 = true then (spec_l12Code.l0 k1 l1 (wrap64 (x5_1 + 1)) l0_0 l0_1) else (some 2)) = some r := H; have A8 := zQ A80; clear A80
      by_cases c9 : t191 = true
      ·subst c9
       have H1 : (spec_l12Code.l0 k1 l1 (wrap64 (x5_1 + 1)) l0_0 l0_1) = some r := by rw [if_pos rfl] at H; exact H
       clear H; have H := H1; clear H1; have H' := zQ H; clear H; have p190 : 0 ≤ (x5_1 : Int) := of_decide_eq_true zA; have q190 : x5_1 < (l1.length : Int) := of_decide_eq_true zA; obtain ⟨ad190, e190, hx190_0⟩ := Kd.at_int HR1.out x5_1 p190 q190
       cases e190
       replace hx190_0 := zw HB.out hx190_0; replace p190 := eq_true p190; replace q190 := eq_true q190
       go_wp2_with (first | ((with_reducible refine zgc 63 ?_); refine zgo (some 19) Try.func63 #[.int .i64 (rd l1 x5_1), .int .i64 (-6), .int .i64 6] ?_; (with_reducible refine (spec_l00In.calls (rd l1 x5_1) (-6) 6 true _ A8.out).mono ?_); rintro e w' ⟨rfl, ⟨nd, rfl⟩⟩; refine ⟨_, rfl, ?_⟩))
       go_roundg k1
       case measure => have := HK1.out; omega
       case rel => exact ⟨(wrap64 (x5_1 + 1)), (zF), H', ⟨by have := HK1.out; omega⟩, ⟨zb BK0.out⟩, ⟨zB HB.out⟩⟩
      ·replace c9 := Bool.eq_false_iff.mpr c9
       subst c9
       have H1 : (some 2) = some r := by rw [if_neg (show ¬ (false = true) by decide)] at H; exact H
       clear H; have H := H1; clear H1; obtain rfl := Option.some.inj H; have p190 : 0 ≤ (x5_1 : Int) := of_decide_eq_true zA; have q190 : x5_1 < (l1.length : Int) := of_decide_eq_true zA; obtain ⟨ad190, e190, hx190_0⟩ := Kd.at_int HR1.out x5_1 p190 q190
       cases e190
       replace hx190_0 := zw HB.out hx190_0; replace p190 := eq_true p190; replace q190 := eq_true q190
       go_wp2_with (first | ((with_reducible refine zgc 63 ?_); refine zgo (some 19) Try.func63 #[.int .i64 (rd l1 x5_1), .int .i64 (-6), .int .i64 6] ?_; (with_reducible refine (spec_l00In.calls (rd l1 x5_1) (-6) 6 false _ A8.out).mono ?_); rintro e w' ⟨rfl, ⟨nd, rfl⟩⟩; refine ⟨_, rfl, ?_⟩))
       go_ret
       exact ⟨zE, zB HB.out⟩
     ·rw [if_neg c7] at H
      exact absurd H (by simp)
    ·rw [if_neg c6] at H
     have c6b0 : decide (x5_1 < (l1.length : Int)) = false := decide_eq_false c6; clear c6
     by_cases c10 : (l1.length : Int) = (l0_0.length : Int)
     ·rw [if_pos c10] at H
      have c10b0 : ((l1.length : Int) == (l0_0.length : Int)) = true := beq_iff_eq.mpr c10; have c10b1 : ((l1.length : Int) != (l0_0.length : Int)) = false := bne_eq_false_iff_eq.mpr c10
      have c10b2 : (l1.length == l0_0.length) = true := by first | simpa using c10 | (simp at c10 ⊢; omega)
      clear c10; obtain rfl := Option.some.inj H; have hcz11_0 := zc0 BK0.out; have hcz11_1 := zc1 BK0.out; have hfz11_0 := zfz BK0.out 0; have hfz11_1 := zfz BK0.out 1
      go_wp2
      go_ret
      exact ⟨zE, zB HB.out⟩
     ·rw [if_neg c10] at H
      have c10b0 : ((l1.length : Int) == (l0_0.length : Int)) = false := beq_eq_false_iff_ne.mpr c10; have c10b1 : ((l1.length : Int) != (l0_0.length : Int)) = true := bne_iff_ne.mpr c10
      have c10b2 : (l1.length == l0_0.length) = false := by first | simpa using c10 | (simp at c10 ⊢; omega)
      obtain rfl := Option.some.inj H; have hcz12_0 := zc0 BK0.out; have hcz12_1 := zc1 BK0.out; have hfz12_0 := zfz BK0.out 0; have hfz12_1 := zfz BK0.out 1
      go_wp2
      go_ret
      exact ⟨zE, zB HB.out⟩
 ·replace c4 := Bool.eq_false_iff.mpr c4
  subst c4
  have H1 : (some 1) = some r := by rw [if_neg (show ¬ (false = true) by decide)] at H; exact H
  clear H; have H := H1; clear H1; obtain rfl := Option.some.inj H
  go_enter Try.func66, Try.ntmps66
  go_wp2_with (first | ((with_reducible refine zgc 60 ?_); refine zgo (some 7) Try.func60 #[.pointer (some ⟨g0, 0, none⟩)] ?_; (with_reducible refine (spec_l12Ok.calls k g0 A0_0 c0_0 l0_0 A0_1 c0_1 l0_1 false _ (zb BK0.out) ?side2 HC0_0.out ?side4 HC0_1.out A3.out).mono ?_); (case side2 => repeat (first | exact HR0_0.out | (with_reducible refine Kd.C_alloc ?_ _) | (with_reducible refine Kd.C_drewN ?_ _) | (with_reducible refine Kd.C_drew ?_))); (case side4 => repeat (first | exact HR0_1.out | (with_reducible refine Kd.C_alloc ?_ _) | (with_reducible refine Kd.C_drewN ?_ _) | (with_reducible refine Kd.C_drew ?_))); rintro e w13 ⟨rfl, hb⟩; refine ⟨_, rfl, ?_⟩; replace BK0 := zbl BK0.out hb; replace HB := zbs HB.out hb; (try clear hb)))
  go_ret
  exact ⟨zE, zB HB.out⟩

/-! ### spec_l00Own: function 77 -/
def spec_l00Own.f (l0 : List Int) : Option (List Int) := (some (([] : List Int) : List Int)).bind fun y192 => (if y192.length + l0.length < 17592186044416 then (some (y192 ++ l0)) else (none))
set_option maxHeartbeats 8000000 in
set_option maxRecDepth 100000 in
theorem spec_l00Own.calls (A0 : Option Addr) (c0 : Nat) (l0 : List Int) (r : List Int) (w : World) (hr0 : Kd.C (Kd.int .i64) w A0 l0.length l0) (hc0 : l0.length ≤ c0) (h : spec_l00Own.f l0 = some r) :
  Calls Try.prog 77 #[.slice A0 l0.length c0] w fun e w' => ∃ v0_ : Value, e = .returned (v0_) ∧ Kd.R (Kd.int .i64) 2 w' w.heap.size (fun _ => True) v0_ r ∧ Below w.heap.size w w' := by
 have HR0 := zQ hr0
 have HC0 := zQ hc0
 clear hr0 hc0
 have HB := zQ (Below.refl w.heap.size w)
 have H : ((some (([] : List Int) : List Int)).bind fun y192 => (if y192.length + l0.length < 17592186044416 then (some (y192 ++ l0)) else (none))) = some r := h
 clear h
 obtain ⟨y192, hy192⟩ : ∃ y_ : List Int, y_ = (([] : List Int)) := ⟨_, rfl⟩
 replace H : (if y192.length + l0.length < 17592186044416 then (some (y192 ++ l0)) else (none)) = some r := zh H
 have Ny192 := zQ hy192
 clear hy192
 by_cases c2 : y192.length + l0.length < 17592186044416
 ·rw [if_pos c2] at H
  have LMc2 := zQ c2; clear c2; obtain ⟨y195, hy195⟩ : ∃ y_ : List Int, y_ = (y192 ++ l0) := ⟨_, rfl⟩; replace H : (some y195) = some r := zh H; have Ny195 := zQ hy195; clear hy195; obtain rfl := Option.some.inj H
  go_enter Try.func77, Try.ntmps77
  go_wp2_with (first | ((with_reducible refine zd 3 ?_); refine Kd.R_lit (Kd.int .i64) _ 2 ?hg (N := 3) ?hd (xs := ([] : List Int)) (inner := []) (ok := fun _ => True) (okp := fun _ => True) ?hr ?hp (fun _ hk => hk) trivial (Below.refl _ _) (Nat.le_refl _) (by simp) ?_; (case hd => rfl); (case hg => rfl); (case hr => first | (go_simp; done) | (go_simp; rfl)); (case hp => exact (Reps.none _ _)); intro v193 w3 ho4 hb hg_ hnew_; clear hg_ hnew_; (first | rw [← Ny192.out] at ho4 | (simp only [Int.reduceToNat] at ho4; rw [← Ny192.out] at ho4)); have HO194 := zQ (Kd.R_lower ho4 (below_size (zB HB.out))); replace HB := zbs HB.out hb; clear hb ho4) | ((with_reducible refine gate_builtin (b := .append) (xs := #[.tmp 3, .tmp 4]) rfl ?_); at_builtin; refine Kd.R_append_rows (Kd.int .i64) (w0 := w) w.heap.size rfl (.tmp 3) (.tmp 4) 24 2 (.int .i64 0) 8 rfl Try.underlying24 info2 rfl (by decide) (by omega) v193 y192 l0 _ _ _ (fun _ => True) (fun _ => False) rfl rfl ?aO ?aR (fun _ _ h => h) (fun _ h => h.elim) ?aF ?aB ?aS ?aL ?_; (case aR => exact zC HR0.out HB.out); (case aB => exact (zB HB.out)); (case aF => exact (fun _ _ => trivial)); (case aO => exact (zR HO194.out)); (case aS => exact (below_size (zB HB.out))); (case aL => have := LMc2.out; omega); intro v196 w5 ho hb hg hat; rw [← Ny195.out] at ho; have HO197 := zQ (ho); replace HB := zQ (hb); clear HO194 ho hb hg hat))
  go_ret
  exact ⟨_, zE, zR HO197.out, zB HB.out⟩
 ·rw [if_neg c2] at H
  exact absurd H (by simp)

end Go.Proofs.Ythfpaldhdohnkaa.PFnExactRetuned
