import Derived.Test.YtimjblgepbhoaaaHStays0
import Derived.Test.YtimjblgepbhoaaaHStaysa
namespace Go.Proofs.Ytimjblgepbhoaaa.PStays
noncomputable section
open Go.RowKit Go.Proofs.YtimjblgepbhoaaaW.PrintWords Go.Proofs.YtimjblgepbhoaaaW.PrintLast Go.Proofs.YtimjblgepbhoaaaW.PrintMore
attribute [local go_sem] max2_int min2_int max_two min_two max_three min_three max_four min_four   -- for this text's walks alone
set_option linter.unusedVariables false
set_option linter.unusedSimpArgs false
set_option maxHeartbeats 8000000
set_option maxRecDepth 100000

def spec_l09Loads.l0 : Nat → List (S113) → Int → Option (Bool)
 | 0, _, _ => none
 | k + 1, x1, x5 => if x5 < (x1.length : Int) then (if 0 ≤ x5 then ((spec_l00In.f ((rd_T113 x1 x5).f0) (-100) 100).bind fun oD => (if oD = true then ((spec_l00In.f ((rd_T113 x1 x5).f1) (-100) 100).bind fun nD => (if nD = true then (spec_l09Loads.l0 k x1 (wrap64 (x5 + 1))) else (some false))) else (some false))) else (none)) else (some true)
def spec_l09Loads.f (k : Nat) (l0_0 : List (S164)) (l0_1 : List (S115)) (l1 : List (S113)) : Option (Bool) := if (l1.length : Int) = (l0_0.length : Int) then (spec_l09Loads.l0 k l1 0) else (some false)
theorem spec_l09Loads.calls (k : Nat) (g0 : Nat) (A0_0 : Option Addr) (c0_0 : Nat) (l0_0 : List (S164)) (A0_1 : Option Addr) (c0_1 : Nat) (l0_1 : List (S115)) (A1 : Option Addr) (c1 : Nat) (l1 : List (S113)) (r : Bool) (w : World) (QB : w.heap[g0]? = some (.cells #[.slice A0_0 l0_0.length c0_0, .slice A0_1 l0_1.length c0_1] 27 (0, 0))) (QA : Kd.C k164 w A0_0 l0_0.length l0_0) (SA : l0_0.length ≤ c0_0) (PA : Kd.C k115 w A0_1 l0_1.length l0_1) (RA : l0_1.length ≤ c0_1) (JD : Kd.C k113 w A1 l1.length l1) (PD : l1.length ≤ c1) (h : spec_l09Loads.f k l0_0 l0_1 l1 = some r) :
  Calls Try.prog 118 #[.pointer (some ⟨g0, 0, none⟩), .slice A1 l1.length c1] w fun e w' => e = .returned (.bool r) ∧ Below w.heap.size w w' := by
 have KC := zQ QA
 have MC := zQ SA
 clear QA SA
 have iB := zQ PA
 have LC := zQ RA
 clear PA RA
 have CD := zQ JD
 have qG := zQ PD
 clear JD PD
 have mB := zQ QB
 clear QB
 have HB := zQ (Below.refl w.heap.size w)
 have H := h; unfold spec_l09Loads.f at H
 clear h
 by_cases c3 : (l1.length : Int) = (l0_0.length : Int)
 ·rw [if_pos c3] at H
  have TC : ((l1.length : Int) == (l0_0.length : Int)) = true := beq_iff_eq.mpr c3; have SC : ((l1.length : Int) != (l0_0.length : Int)) = false := bne_eq_false_iff_eq.mpr c3
  have UD : (l1.length == l0_0.length) = true := by first | simpa using c3 | (simp at c3 ⊢; omega)
  clear c3; have H' := zQ H; clear H; obtain ⟨zC, yC, xC, wC⟩ := zy2 mB.out
  go_enter Try.func118, Try.ntmps118
  go_wp2
  go_loopg [5] k (fun kq v5 w' => ∃ (bA : Int), v5 = .int .i64 bA ∧ Aside0 (spec_l09Loads.l0 kq l1 bA = some r) ∧ Aside0 (kq ≤ k) ∧ Aside0 (w'.heap[g0]? = some (.cells #[(.slice A0_0 l0_0.length c0_0), (.slice A0_1 l0_1.length c0_1)] 27 (0, 0))) ∧ Aside0 (Below w.heap.size w w'))
  case atStart => exact ⟨(0), (zF), H', ⟨Nat.le_refl _⟩, ⟨zb mB.out⟩, ⟨zB HB.out⟩⟩
  case round =>
   clear H'; (try clear c1); (try clear p2); (try clear c3); (try clear TC); (try clear SC); (try clear UD); (try clear zC yC xC wC); obtain ⟨bA, rfl, HA, ZA, mB, HB⟩ := hrel
   cases gk with
   | zero => exact absurd HA.out (by simp [spec_l09Loads.l0])
   | succ k1 =>
    have H := HA.out; clear HA
    simp only [spec_l09Loads.l0] at H
    by_cases c5 : bA < (l1.length : Int)
    ·rw [if_pos c5] at H
     have SB := decide_eq_true c5; clear c5
     by_cases c6 : 0 ≤ bA
     ·rw [if_pos c6] at H
      have RC := decide_eq_true c6; clear c6; replace H := zob H; obtain ⟨oD, A7, H⟩ := H
      by_cases c8 : oD = true
      ·subst c8
       rw [if_pos rfl] at H; replace H := zob H; obtain ⟨nD, A9, H⟩ := H
       by_cases DB : nD = true
       ·subst DB
        rw [if_pos rfl] at H; have H' := zQ H; clear H; have yB : 0 ≤ (bA : Int) := zD; have vB : bA < (l1.length : Int) := zD; obtain ⟨jC, DC, JA, IA⟩ := at_T113 CD.out bA yB vB
        cases DC
        replace JA := zw HB.out JA; replace IA := zw HB.out IA; replace yB := eq_true yB; replace vB := eq_true vB
        go_wp2_with (first | ((with_reducible refine zgc 89 ?_); refine zgo (some 25) Try.func89 #[.int .i64 ((rd_T113 l1 bA).f0), .int .i64 (-100), .int .i64 100] ?_; (with_reducible refine (spec_l00In.calls ((rd_T113 l1 bA).f0) (-100) 100 true _ A7.out).mono ?_); rintro e w' ⟨rfl, ⟨nd, rfl⟩⟩; refine ⟨_, rfl, ?_⟩; have aC : 0 ≤ (bA : Int) := zD; have XB : bA < (l1.length : Int) := zD; obtain ⟨JC, yD, gB, fB⟩ := at_T113 CD.out bA aC XB; obtain rfl : jC = JC := (by injection yD); replace gB := zw HB.out gB; replace fB := zw HB.out fB; replace aC := eq_true aC; replace XB := eq_true XB) | (go_at_call 89; (with_reducible refine (spec_l00In.calls ((rd_T113 l1 bA).f1) (-100) 100 true _ A9.out).mono ?_); rintro e w' ⟨rfl, ⟨nd, rfl⟩⟩))
        go_roundg k1
        case measure => have := ZA.out; omega
        case rel => exact ⟨(wrap64 (bA + 1)), (zF), H', ⟨by have := ZA.out; omega⟩, ⟨zb mB.out⟩, ⟨zB HB.out⟩⟩
       ·replace DB := Bool.eq_false_iff.mpr DB
        subst DB
        rw [if_neg Bool.false_ne_true] at H; obtain rfl := Option.some.inj H; have yB : 0 ≤ (bA : Int) := zD; have vB : bA < (l1.length : Int) := zD; obtain ⟨jC, DC, JA, IA⟩ := at_T113 CD.out bA yB vB
        cases DC
        replace JA := zw HB.out JA; replace IA := zw HB.out IA; replace yB := eq_true yB; replace vB := eq_true vB
        go_wp2_with (first | ((with_reducible refine zgc 89 ?_); refine zgo (some 25) Try.func89 #[.int .i64 ((rd_T113 l1 bA).f0), .int .i64 (-100), .int .i64 100] ?_; (with_reducible refine (spec_l00In.calls ((rd_T113 l1 bA).f0) (-100) 100 true _ A7.out).mono ?_); rintro e w' ⟨rfl, ⟨nd, rfl⟩⟩; refine ⟨_, rfl, ?_⟩; have aC : 0 ≤ (bA : Int) := zD; have XB : bA < (l1.length : Int) := zD; obtain ⟨JC, yD, gB, fB⟩ := at_T113 CD.out bA aC XB; obtain rfl : jC = JC := (by injection yD); replace gB := zw HB.out gB; replace fB := zw HB.out fB; replace aC := eq_true aC; replace XB := eq_true XB) | (go_at_call 89; (with_reducible refine (spec_l00In.calls ((rd_T113 l1 bA).f1) (-100) 100 false _ A9.out).mono ?_); rintro e w' ⟨rfl, ⟨nd, rfl⟩⟩))
        go_ret
        exact ⟨zE, zB HB.out⟩
      ·replace c8 := Bool.eq_false_iff.mpr c8
       subst c8
       rw [if_neg Bool.false_ne_true] at H; obtain rfl := Option.some.inj H; have yB : 0 ≤ (bA : Int) := zD; have vB : bA < (l1.length : Int) := zD; obtain ⟨jC, DC, JA, IA⟩ := at_T113 CD.out bA yB vB
       cases DC
       replace JA := zw HB.out JA; replace IA := zw HB.out IA; replace yB := eq_true yB; replace vB := eq_true vB
       go_wp2_with (first | ((with_reducible refine zgc 89 ?_); refine zgo (some 25) Try.func89 #[.int .i64 ((rd_T113 l1 bA).f0), .int .i64 (-100), .int .i64 100] ?_; (with_reducible refine (spec_l00In.calls ((rd_T113 l1 bA).f0) (-100) 100 false _ A7.out).mono ?_); rintro e w' ⟨rfl, ⟨nd, rfl⟩⟩; refine ⟨_, rfl, ?_⟩))
       go_ret
       exact ⟨zE, zB HB.out⟩
     ·rw [if_neg c6] at H
      exact absurd H (by simp)
    ·rw [if_neg c5] at H
     have SB := decide_eq_false c5; clear c5; obtain rfl := Option.some.inj H
     go_wp2
     go_ret
     exact ⟨zE, zB HB.out⟩
 ·rw [if_neg c3] at H
  have TC : ((l1.length : Int) == (l0_0.length : Int)) = false := beq_eq_false_iff_ne.mpr c3; have SC : ((l1.length : Int) != (l0_0.length : Int)) = true := bne_iff_ne.mpr c3
  have UD : (l1.length == l0_0.length) = false := by first | simpa using c3 | (simp at c3 ⊢; omega)
  obtain rfl := Option.some.inj H; obtain ⟨wF, vF, QE, PE⟩ := zy2 mB.out
  go_enter Try.func118, Try.ntmps118
  go_wp2
  go_ret
  exact ⟨zE, zB HB.out⟩

def spec_l00Rises.l0 : Nat → List Int → Int → Int → Int → Option (Bool)
 | 0, _, _, _, _ => none
 | k + 1, x0, x1, x2, x7 => if x7 < (x0.length : Int) then (if 0 ≤ x7 then ((spec_l00In.f (rd x0 x7) x1 x2).bind fun mD => (if mD = true then (if x7 > 0 then (if 0 ≤ (wrap64 (x7 - 1)) then (if (wrap64 (x7 - 1)) < (x0.length : Int) then (if (rd x0 (wrap64 (x7 - 1))) ≥ (rd x0 x7) then (some false) else (spec_l00Rises.l0 k x0 x1 x2 (wrap64 (x7 + 1)))) else (none)) else (none)) else (spec_l00Rises.l0 k x0 x1 x2 (wrap64 (x7 + 1)))) else (some false))) else (none)) else (some true)
def spec_l00Rises.f (k : Nat) (l0 : List Int) (a1 : Int) (a2 : Int) : Option (Bool) := spec_l00Rises.l0 k l0 a1 a2 0
theorem spec_l00Rises.calls (k : Nat) (A0 : Option Addr) (c0 : Nat) (l0 : List Int) (a1 : Int) (a2 : Int) (r : Bool) (w : World) (KD : Kd.C (Kd.int .i64) w A0 l0.length l0) (QD : l0.length ≤ c0) (h : spec_l00Rises.f k l0 a1 a2 = some r) :
  Calls Try.prog 135 #[.slice A0 l0.length c0, .int .i64 a1, .int .i64 a2] w fun e w' => e = .returned (.bool r) ∧ Drawn0 w w' := by
 have LB := zQ KD
 have HG := zQ QD
 clear KD QD
 have H : (spec_l00Rises.l0 k l0 a1 a2 0) = some r := h
 clear h
 have H' := zQ H
 clear H
 go_enter Try.func135, Try.ntmps135
 go_wp2
 repeat (go_quiet (fail); try go_wp2)
 go_loopg [7] k (fun kq v7 w' => ∃ (dA : Int), v7 = .int .i64 dA ∧ Aside0 (spec_l00Rises.l0 kq l0 a1 a2 dA = some r) ∧ Aside0 (kq ≤ k) ∧ Drawn0 w w')
 case atStart => exact ⟨(0), (zF), H', ⟨Nat.le_refl _⟩, by repeat (first | exact Drawn0.refl _ | apply Drawn0.step)⟩
 case round =>
  clear H'; (try clear c1); (try clear p2); obtain ⟨dA, rfl, HA, ZA, ⟨m1, rfl⟩⟩ := hrel
  cases gk with
  | zero => exact absurd HA.out (by simp [spec_l00Rises.l0])
  | succ k1 =>
   have H := HA.out; clear HA
   simp only [spec_l00Rises.l0] at H
   by_cases c4 : dA < (l0.length : Int)
   ·rw [if_pos c4] at H
    have KF := decide_eq_true c4; clear c4
    by_cases c5 : 0 ≤ dA
    ·rw [if_pos c5] at H
     have SB := decide_eq_true c5; clear c5; replace H := zob H; obtain ⟨mD, A6, H⟩ := H
     by_cases c7 : mD = true
     ·subst c7
      rw [if_pos rfl] at H
      by_cases c8 : dA > 0
      ·rw [if_pos c8] at H
       have JF := decide_eq_true c8; clear c8; obtain ⟨qB, vC⟩ : ∃ j_ : Int, (wrap64 (dA - 1)) = j_ := ⟨_, rfl⟩
       replace H : (if 0 ≤ (qB) then (if (qB) < (l0.length : Int) then (if (rd l0 (qB)) ≥ (rd l0 dA) then (some false) else (spec_l00Rises.l0 k1 l0 a1 a2 (wrap64 (dA + 1)))) else (none)) else (none)) = some r := by first | (rw [vC] at H; exact H) | (simp only [vC] at H ⊢; exact H)
       (try rw [vC] at A6)
       have hji9w : (IntKind.i64.wrap (dA - 1)) = qB := (i64_w _).trans vC
       by_cases DB : 0 ≤ (qB)
       ·rw [if_pos DB] at H
        have hB := decide_eq_true DB; clear DB
        by_cases GB : (qB) < (l0.length : Int)
        ·rw [if_pos GB] at H
         have iC := decide_eq_true GB; clear GB
         by_cases hC : (rd l0 (qB)) ≥ (rd l0 dA)
         ·rw [if_pos hC] at H
          have GC := decide_eq_true hC; clear hC; obtain rfl := Option.some.inj H; have YA : 0 ≤ (dA : Int) := zD; have XA : dA < (l0.length : Int) := zD; obtain ⟨BA, bC, KB⟩ := Kd.at_int LB.out dA YA XA
          cases bC
          replace YA := eq_true YA; replace XA := eq_true XA
          go_wp2_with (first | (go_at_call 89; (with_reducible refine (spec_l00In.calls (rd l0 dA) a1 a2 true _ A6.out).mono ?_); rintro e w' ⟨rfl, ⟨nd, rfl⟩⟩; (try first | exact ⟨rfl, _, World.drewN_drewN _ _ _⟩ | exact ⟨rfl, _, Eq.trans (World.drewN_drewN _ _ _) (congrArg (World.drewN _) (Nat.add_assoc _ _ _))⟩); have AA : 0 ≤ ((qB) : Int) := zD; have yA : (qB) < (l0.length : Int) := zD; obtain ⟨UA, CB, eB⟩ := Kd.at_int LB.out (qB) AA yA; obtain rfl : BA = UA := (by injection CB); replace AA := eq_true AA; replace yA := eq_true yA; have zA : 0 ≤ (dA : Int) := zD; have xA : dA < (l0.length : Int) := zD; obtain ⟨TA, BB, dB⟩ := Kd.at_int LB.out dA zA xA; obtain rfl : BA = TA := (by injection BB); replace zA := eq_true zA; replace xA := eq_true xA))
          repeat (go_quiet (first | (go_at_call 89; (with_reducible refine (spec_l00In.calls (rd l0 dA) a1 a2 true _ A6.out).mono ?_); rintro e w' ⟨rfl, ⟨nd, rfl⟩⟩; (try first | exact ⟨rfl, _, World.drewN_drewN _ _ _⟩ | exact ⟨rfl, _, Eq.trans (World.drewN_drewN _ _ _) (congrArg (World.drewN _) (Nat.add_assoc _ _ _))⟩); have AA : 0 ≤ ((qB) : Int) := zD; have yA : (qB) < (l0.length : Int) := zD; obtain ⟨UA, CB, eB⟩ := Kd.at_int LB.out (qB) AA yA; obtain rfl : BA = UA := (by injection CB); replace AA := eq_true AA; replace yA := eq_true yA; have zA : 0 ≤ (dA : Int) := zD; have xA : dA < (l0.length : Int) := zD; obtain ⟨TA, BB, dB⟩ := Kd.at_int LB.out dA zA xA; obtain rfl : BA = TA := (by injection BB); replace zA := eq_true zA; replace xA := eq_true xA)); try go_wp2_with (first | (go_at_call 89; (with_reducible refine (spec_l00In.calls (rd l0 dA) a1 a2 true _ A6.out).mono ?_); rintro e w' ⟨rfl, ⟨nd, rfl⟩⟩; (try first | exact ⟨rfl, _, World.drewN_drewN _ _ _⟩ | exact ⟨rfl, _, Eq.trans (World.drewN_drewN _ _ _) (congrArg (World.drewN _) (Nat.add_assoc _ _ _))⟩); have AA : 0 ≤ ((qB) : Int) := zD; have yA : (qB) < (l0.length : Int) := zD; obtain ⟨UA, CB, eB⟩ := Kd.at_int LB.out (qB) AA yA; obtain rfl : BA = UA := (by injection CB); replace AA := eq_true AA; replace yA := eq_true yA; have zA : 0 ≤ (dA : Int) := zD; have xA : dA < (l0.length : Int) := zD; obtain ⟨TA, BB, dB⟩ := Kd.at_int LB.out dA zA xA; obtain rfl : BA = TA := (by injection BB); replace zA := eq_true zA; replace xA := eq_true xA)))
          go_ret
          exact ⟨by first | rfl | (simp; done) | (simp only [← vC] <;> (first | rfl | simp)) | (simp [*]; done), by repeat (first | exact Drawn0.refl _ | apply Drawn0.step)⟩
         ·rw [if_neg hC] at H
          have GC := decide_eq_false hC; clear hC; have H' := zQ H; clear H; have YA : 0 ≤ (dA : Int) := zD; have XA : dA < (l0.length : Int) := zD; obtain ⟨BA, bC, KB⟩ := Kd.at_int LB.out dA YA XA
          cases bC
          replace YA := eq_true YA; replace XA := eq_true XA
          go_wp2_with (first | (go_at_call 89; (with_reducible refine (spec_l00In.calls (rd l0 dA) a1 a2 true _ A6.out).mono ?_); rintro e w' ⟨rfl, ⟨nd, rfl⟩⟩; (try first | exact ⟨rfl, _, World.drewN_drewN _ _ _⟩ | exact ⟨rfl, _, Eq.trans (World.drewN_drewN _ _ _) (congrArg (World.drewN _) (Nat.add_assoc _ _ _))⟩); have AA : 0 ≤ ((qB) : Int) := zD; have yA : (qB) < (l0.length : Int) := zD; obtain ⟨UA, CB, eB⟩ := Kd.at_int LB.out (qB) AA yA; obtain rfl : BA = UA := (by injection CB); replace AA := eq_true AA; replace yA := eq_true yA; have zA : 0 ≤ (dA : Int) := zD; have xA : dA < (l0.length : Int) := zD; obtain ⟨TA, BB, dB⟩ := Kd.at_int LB.out dA zA xA; obtain rfl : BA = TA := (by injection BB); replace zA := eq_true zA; replace xA := eq_true xA))
          repeat (go_quiet (first | (go_at_call 89; (with_reducible refine (spec_l00In.calls (rd l0 dA) a1 a2 true _ A6.out).mono ?_); rintro e w' ⟨rfl, ⟨nd, rfl⟩⟩; (try first | exact ⟨rfl, _, World.drewN_drewN _ _ _⟩ | exact ⟨rfl, _, Eq.trans (World.drewN_drewN _ _ _) (congrArg (World.drewN _) (Nat.add_assoc _ _ _))⟩); have AA : 0 ≤ ((qB) : Int) := zD; have yA : (qB) < (l0.length : Int) := zD; obtain ⟨UA, CB, eB⟩ := Kd.at_int LB.out (qB) AA yA; obtain rfl : BA = UA := (by injection CB); replace AA := eq_true AA; replace yA := eq_true yA; have zA : 0 ≤ (dA : Int) := zD; have xA : dA < (l0.length : Int) := zD; obtain ⟨TA, BB, dB⟩ := Kd.at_int LB.out dA zA xA; obtain rfl : BA = TA := (by injection BB); replace zA := eq_true zA; replace xA := eq_true xA)); try go_wp2_with (first | (go_at_call 89; (with_reducible refine (spec_l00In.calls (rd l0 dA) a1 a2 true _ A6.out).mono ?_); rintro e w' ⟨rfl, ⟨nd, rfl⟩⟩; (try first | exact ⟨rfl, _, World.drewN_drewN _ _ _⟩ | exact ⟨rfl, _, Eq.trans (World.drewN_drewN _ _ _) (congrArg (World.drewN _) (Nat.add_assoc _ _ _))⟩); have AA : 0 ≤ ((qB) : Int) := zD; have yA : (qB) < (l0.length : Int) := zD; obtain ⟨UA, CB, eB⟩ := Kd.at_int LB.out (qB) AA yA; obtain rfl : BA = UA := (by injection CB); replace AA := eq_true AA; replace yA := eq_true yA; have zA : 0 ≤ (dA : Int) := zD; have xA : dA < (l0.length : Int) := zD; obtain ⟨TA, BB, dB⟩ := Kd.at_int LB.out dA zA xA; obtain rfl : BA = TA := (by injection BB); replace zA := eq_true zA; replace xA := eq_true xA)))
          go_roundg k1
          case measure => have := ZA.out; omega
          case rel => exact ⟨(wrap64 (dA + 1)), (zF), H', ⟨by have := ZA.out; omega⟩, by repeat (first | exact Drawn0.refl _ | apply Drawn0.step)⟩
        ·rw [if_neg GB] at H
         exact absurd H (by simp)
       ·rw [if_neg DB] at H
        exact absurd H (by simp)
      ·rw [if_neg c8] at H
       have JF := decide_eq_false c8; clear c8; have H' := zQ H; clear H; have YA : 0 ≤ (dA : Int) := zD; have XA : dA < (l0.length : Int) := zD; obtain ⟨BA, bC, KB⟩ := Kd.at_int LB.out dA YA XA
       cases bC
       replace YA := eq_true YA; replace XA := eq_true XA
       go_wp2_with (first | (go_at_call 89; (with_reducible refine (spec_l00In.calls (rd l0 dA) a1 a2 true _ A6.out).mono ?_); rintro e w' ⟨rfl, ⟨nd, rfl⟩⟩; (try first | exact ⟨rfl, _, World.drewN_drewN _ _ _⟩ | exact ⟨rfl, _, Eq.trans (World.drewN_drewN _ _ _) (congrArg (World.drewN _) (Nat.add_assoc _ _ _))⟩)))
       repeat (go_quiet (first | (go_at_call 89; (with_reducible refine (spec_l00In.calls (rd l0 dA) a1 a2 true _ A6.out).mono ?_); rintro e w' ⟨rfl, ⟨nd, rfl⟩⟩; (try first | exact ⟨rfl, _, World.drewN_drewN _ _ _⟩ | exact ⟨rfl, _, Eq.trans (World.drewN_drewN _ _ _) (congrArg (World.drewN _) (Nat.add_assoc _ _ _))⟩))); try go_wp2_with (first | (go_at_call 89; (with_reducible refine (spec_l00In.calls (rd l0 dA) a1 a2 true _ A6.out).mono ?_); rintro e w' ⟨rfl, ⟨nd, rfl⟩⟩; (try first | exact ⟨rfl, _, World.drewN_drewN _ _ _⟩ | exact ⟨rfl, _, Eq.trans (World.drewN_drewN _ _ _) (congrArg (World.drewN _) (Nat.add_assoc _ _ _))⟩))))
       go_roundg k1
       case measure => have := ZA.out; omega
       case rel => exact ⟨(wrap64 (dA + 1)), (zF), H', ⟨by have := ZA.out; omega⟩, by repeat (first | exact Drawn0.refl _ | apply Drawn0.step)⟩
     ·replace c7 := Bool.eq_false_iff.mpr c7
      subst c7
      rw [if_neg Bool.false_ne_true] at H; obtain rfl := Option.some.inj H; have YA : 0 ≤ (dA : Int) := zD; have XA : dA < (l0.length : Int) := zD; obtain ⟨BA, bC, KB⟩ := Kd.at_int LB.out dA YA XA
      cases bC
      replace YA := eq_true YA; replace XA := eq_true XA
      go_wp2_with (first | (go_at_call 89; (with_reducible refine (spec_l00In.calls (rd l0 dA) a1 a2 false _ A6.out).mono ?_); rintro e w' ⟨rfl, ⟨nd, rfl⟩⟩; (try first | exact ⟨rfl, _, World.drewN_drewN _ _ _⟩ | exact ⟨rfl, _, Eq.trans (World.drewN_drewN _ _ _) (congrArg (World.drewN _) (Nat.add_assoc _ _ _))⟩)))
      repeat (go_quiet (first | (go_at_call 89; (with_reducible refine (spec_l00In.calls (rd l0 dA) a1 a2 false _ A6.out).mono ?_); rintro e w' ⟨rfl, ⟨nd, rfl⟩⟩; (try first | exact ⟨rfl, _, World.drewN_drewN _ _ _⟩ | exact ⟨rfl, _, Eq.trans (World.drewN_drewN _ _ _) (congrArg (World.drewN _) (Nat.add_assoc _ _ _))⟩))); try go_wp2_with (first | (go_at_call 89; (with_reducible refine (spec_l00In.calls (rd l0 dA) a1 a2 false _ A6.out).mono ?_); rintro e w' ⟨rfl, ⟨nd, rfl⟩⟩; (try first | exact ⟨rfl, _, World.drewN_drewN _ _ _⟩ | exact ⟨rfl, _, Eq.trans (World.drewN_drewN _ _ _) (congrArg (World.drewN _) (Nat.add_assoc _ _ _))⟩))))
      go_ret
      exact ⟨zF, by repeat (first | exact Drawn0.refl _ | apply Drawn0.step)⟩
    ·rw [if_neg c5] at H
     exact absurd H (by simp)
   ·rw [if_neg c4] at H
    have KF := decide_eq_false c4; clear c4; obtain rfl := Option.some.inj H
    go_wp2
    repeat (go_quiet (fail); try go_wp2)
    go_ret
    exact ⟨zF, by repeat (first | exact Drawn0.refl _ | apply Drawn0.step)⟩

def spec_l09Some.f (k : Nat) (l0_0 : List (S164)) (l0_1 : List (S115)) (l1 : List Int) : Option (Bool) := (spec_l00Rises.f k l1 0 (wrap64 ((l0_1.length : Int) - 1))).bind fun lD => (some lD)
theorem spec_l09Some.calls (k : Nat) (g0 : Nat) (A0_0 : Option Addr) (c0_0 : Nat) (l0_0 : List (S164)) (A0_1 : Option Addr) (c0_1 : Nat) (l0_1 : List (S115)) (A1 : Option Addr) (c1 : Nat) (l1 : List Int) (r : Bool) (w : World) (QB : w.heap[g0]? = some (.cells #[.slice A0_0 l0_0.length c0_0, .slice A0_1 l0_1.length c0_1] 27 (0, 0))) (QA : Kd.C k164 w A0_0 l0_0.length l0_0) (SA : l0_0.length ≤ c0_0) (PA : Kd.C k115 w A0_1 l0_1.length l0_1) (RA : l0_1.length ≤ c0_1) (JD : Kd.C (Kd.int .i64) w A1 l1.length l1) (PD : l1.length ≤ c1) (h : spec_l09Some.f k l0_0 l0_1 l1 = some r) :
  Calls Try.prog 119 #[.pointer (some ⟨g0, 0, none⟩), .slice A1 l1.length c1] w fun e w' => e = .returned (.bool r) ∧ Below w.heap.size w w' := by
 have KC := zQ QA
 have MC := zQ SA
 clear QA SA
 have iB := zQ PA
 have LC := zQ RA
 clear PA RA
 have CD := zQ JD
 have qG := zQ PD
 clear JD PD
 have mB := zQ QB
 clear QB
 have HB := zQ (Below.refl w.heap.size w)
 have H := h; unfold spec_l09Some.f at H
 clear h
 replace H := zob H; obtain ⟨lD, A3, H⟩ := H
 obtain rfl := Option.some.inj H
 have zC := zc0 mB.out
 have yC := zc1 mB.out
 have xC := zfz mB.out 0
 have wC := zfz mB.out 1
 go_enter Try.func119, Try.ntmps119
 go_wp2_with (first | ((with_reducible refine zgc 135 ?_); refine zgo (some 12) Try.func135 #[.slice A1 l1.length c1, .int .i64 0, .int .i64 (wrap64 ((l0_1.length : Int) - 1))] ?_; (with_reducible refine (spec_l00Rises.calls k _ _ l1 0 (wrap64 ((l0_1.length : Int) - 1)) lD _ ?side1 qG.out A3.out).mono ?_); (case side1 => repeat (first | exact CD.out | (with_reducible refine Kd.C_alloc ?_ _) | (with_reducible refine Kd.C_drewN ?_ _) | (with_reducible refine Kd.C_drew ?_))); rintro e w' ⟨rfl, ⟨nd, rfl⟩⟩; refine ⟨_, rfl, ?_⟩))
 go_ret
 exact ⟨zE, zB HB.out⟩

def spec_l00Size.f (a0 : Int) : Option (Int) := if a0 < 0 then (some (wrap64 (-a0))) else (some a0)
theorem spec_l00Size.calls (a0 : Int) (r : Int) (w : World) (h : spec_l00Size.f a0 = some r) :
  Calls Try.prog 90 #[.int .i64 a0] w fun e w' => e = .returned (.int .i64 r) ∧ Drawn0 w w' := by
 have H := h; unfold spec_l00Size.f at H
 clear h
 by_cases c2 : a0 < 0
 ·rw [if_pos c2] at H
  have LF := decide_eq_true c2; clear c2; obtain rfl := Option.some.inj H
  go_enter Try.func90, Try.ntmps90
  go_wp2
  go_ret
  exact ⟨zF, by repeat (first | exact Drawn0.refl _ | apply Drawn0.step)⟩
 ·rw [if_neg c2] at H
  have LF := decide_eq_false c2; clear c2; obtain rfl := Option.some.inj H
  go_enter Try.func90, Try.ntmps90
  go_wp2
  go_ret
  exact ⟨zF, by repeat (first | exact Drawn0.refl _ | apply Drawn0.step)⟩

def spec_l00Gcd.l0 : Nat → Int → Int → Option (Int)
 | 0, _, _ => none
 | k + 1, x0, x1 => if x1 = 0 then (some x0) else (spec_l00Gcd.l0 k x1 (Int.tmod x0 x1))
def spec_l00Gcd.f (k : Nat) (a0 : Int) (a1 : Int) : Option (Int) := spec_l00Gcd.l0 k a0 a1
theorem spec_l00Gcd.calls (k : Nat) (a0 : Int) (a1 : Int) (r : Int) (w : World) (h : spec_l00Gcd.f k a0 a1 = some r) :
  Calls Try.prog 141 #[.int .i64 a0, .int .i64 a1] w fun e w' => e = .returned (.int .i64 r) ∧ Drawn0 w w' := by
 have H : (spec_l00Gcd.l0 k a0 a1) = some r := h
 clear h
 have H' := zQ H
 clear H
 go_enter Try.func141, Try.ntmps141
 go_wp2
 go_loopg [0, 1] k (fun kq v0 v1 w' => ∃ (OC : Int) (FB : Int), v0 = .int .i64 OC ∧ v1 = .int .i64 FB ∧ Aside0 (spec_l00Gcd.l0 kq OC FB = some r) ∧ Aside0 (kq ≤ k) ∧ Drawn0 w w')
 case atStart => exact ⟨(a0), (a1), (zF), (zF), H', ⟨Nat.le_refl _⟩, by repeat (first | exact Drawn0.refl _ | apply Drawn0.step)⟩
 case round =>
  clear H'; (try clear c1); (try clear p2); obtain ⟨OC, FB, rfl, rfl, HA, ZA, ⟨m1, rfl⟩⟩ := hrel
  cases gk with
  | zero => exact absurd HA.out (by simp [spec_l00Gcd.l0])
  | succ k1 =>
   have H := HA.out; clear HA
   simp only [spec_l00Gcd.l0] at H
   by_cases c3 : FB = 0
   ·rw [if_pos c3] at H
    have TC : (FB == 0) = true := beq_iff_eq.mpr c3; have SC : (FB != 0) = false := bne_eq_false_iff_eq.mpr c3; clear c3; obtain rfl := Option.some.inj H
    go_wp2
    go_ret
    exact ⟨zF, by repeat (first | exact Drawn0.refl _ | apply Drawn0.step)⟩
   ·rw [if_neg c3] at H
    have TC : (FB == 0) = false := beq_eq_false_iff_ne.mpr c3; have SC : (FB != 0) = true := bne_iff_ne.mpr c3; have H' := zQ H; clear H
    go_wp2
    go_roundg k1
    case measure => have := ZA.out; omega
    case rel => exact ⟨(FB), (Int.tmod OC FB), (zF), (zF), H', ⟨by have := ZA.out; omega⟩, by repeat (first | exact Drawn0.refl _ | apply Drawn0.step)⟩

mutual
def spec_l09Lowest.l0 : Nat → List Int → Int → Int → Int → Option (List Int × Int)
 | 0, _, _, _, _ => none
 | k + 1, x0, x1, x5, x6 => if x6 < (x0.length : Int) then (if 0 ≤ x6 then ((spec_l00Size.f (rd x0 x6)).bind fun rC => ((spec_l00Gcd.f k x5 rC).bind fun PC => (spec_l09Lowest.l0 k x0 x1 PC (wrap64 (x6 + 1))))) else (none)) else (if x1 < 0 then (spec_l09Lowest.j1 k x0 x1 (wrap64 (-x5))) else (spec_l09Lowest.j1 k x0 x1 x5))
def spec_l09Lowest.j1 : Nat → List Int → Int → Int → Option (List Int × Int)
 | 0, _, _, _ => none
 | k + 1, x0, x1, x5 => if x5 = 0 then (none) else (spec_l09Lowest.l1 k x0 x5 0 (([] : List Int)) (wrap64 (Int.tdiv x1 x5)))
def spec_l09Lowest.l1 : Nat → List Int → Int → Int → List Int → Int → Option (List Int × Int)
 | 0, _, _, _, _, _ => none
 | k + 1, x0, x5, x8, JB, cC => if x8 < (x0.length : Int) then (if 0 ≤ x8 then (if x5 = 0 then (none) else (if JB.length < 17592186044416 then (spec_l09Lowest.l1 k x0 x5 (wrap64 (x8 + 1)) (JB ++ [wrap64 (Int.tdiv (rd x0 x8) x5)]) cC) else (none))) else (none)) else (some (JB, cC))
end
def spec_l09Lowest.f (k : Nat) (l0 : List Int) (a1 : Int) : Option (List Int × Int) := (spec_l00Size.f a1).bind fun QC => (spec_l09Lowest.l0 k l0 a1 QC 0)
def spec_l09Lowest.T12 : Bool × List (List Nat × List Nat) := (true, [([], []), ([0], [0]), ([], []), ([], []), ([2, 3], [2, 3]), ([4], [4]), ([], []), ([5, 6], [5, 6]), ([7], [7]), ([1, 8], [1, 8]), ([0, 1, 2, 3, 4, 5, 6, 7, 8, 9], []), ([10, 9, 9, 0, 1, 2, 3, 4, 5, 6, 7, 8, 9], [9, 10])])
def spec_l09Lowest.B12 : List Nat := [0, 1, 0, 0, 12, 28, 0, 124, 252, 511, 1023, 2047]
theorem spec_l09Lowest.tab12 : rtab .any (opsOf Try.f129 12) = spec_l09Lowest.T12 := by kernel_rfl
theorem spec_l09Lowest.bits12 : waitsOk spec_l09Lowest.T12.2 spec_l09Lowest.B12 = true := by kernel_rfl
theorem spec_l09Lowest.calls (k : Nat) (A0 : Option Addr) (c0 : Nat) (l0 : List Int) (a1 : Int) (r1 : List Int) (r2 : Int) (w : World) (KD : Kd.C (Kd.int .i64) w A0 l0.length l0) (QD : l0.length ≤ c0) (h : spec_l09Lowest.f k l0 a1 = some (r1, r2)) :
  Calls Try.prog 129 #[.slice A0 l0.length c0, .int .i64 a1] w fun e w' => ∃ v0_ : Value, e = .returned (.agg #[v0_, .int .i64 r2]) ∧ Kd.R (Kd.int .i64) 2 w' w.heap.size (fun _ => True) v0_ r1 ∧ Below w.heap.size w w' := by
 have CF := Try.underlying35
 have LB := zQ KD
 have HG := zQ QD
 clear KD QD
 have HB := zQ (Below.refl w.heap.size w)
 have H := h; unfold spec_l09Lowest.f at H
 clear h
 replace H := zob H; obtain ⟨QC, A3, H⟩ := H
 have H' := zQ H
 clear H
 go_enter Try.func129, Try.ntmps129
 go_wp2_with (first | ((with_reducible refine zd 4 ?_); refine zbx (N := 4) (cs := #[.slice none 0 0, .int .i64 0]) (t := 35) ?_; intro AB hg w4 LA hb; have jA := zQ (LA); have lE := zgz hg HB.out; have OA := lE; replace HB := zbs HB.out hb; clear hb LA hg) | ((with_reducible refine zgc 90 ?_); refine zgo (some 10) Try.func90 #[.int .i64 a1] ?_; (with_reducible refine (spec_l00Size.calls a1 QC _ A3.out).mono ?_); rintro e w' ⟨rfl, ⟨nd, rfl⟩⟩; refine ⟨_, rfl, ?_⟩))
 go_loopg [5, 6] k (fun kq v5 v6 w' => ∃ (bA : Int) (gA : Int), v5 = .int .i64 bA ∧ v6 = .int .i64 gA ∧ Aside0 (spec_l09Lowest.l0 kq l0 a1 bA gA = some (r1, r2)) ∧ Aside0 (kq ≤ k) ∧ Aside0 (w'.heap[AB]? = some (.cells #[(.slice none 0 0), .int .i64 0] 35 (0, 0))) ∧ Aside0 (Below w.heap.size w w'))
 case atStart => exact ⟨(QC), (0), (zF), (zF), H', ⟨Nat.le_refl _⟩, ⟨zb jA.out⟩, ⟨zB2 HB.out OA.out⟩⟩
 case round =>
  clear H'; (try clear c1); (try clear p2); obtain ⟨bA, gA, rfl, rfl, HA, ZA, jA, HB⟩ := hrel
  cases gk with
  | zero => exact absurd HA.out (by simp [spec_l09Lowest.l0])
  | succ k1 =>
   have H := HA.out; clear HA
   simp only [spec_l09Lowest.l0] at H
   by_cases c5 : gA < (l0.length : Int)
   ·rw [if_pos c5] at H
    have SB := decide_eq_true c5; clear c5
    by_cases c6 : 0 ≤ gA
    ·rw [if_pos c6] at H
     have RC := decide_eq_true c6; clear c6; replace H := zob H; obtain ⟨rC, A7, H⟩ := H; replace H := zob H; obtain ⟨PC, A8, H⟩ := H; have H' := zQ H; clear H; have tC : 0 ≤ (gA : Int) := zD; have sC : gA < (l0.length : Int) := zD; obtain ⟨oG, GF, sB⟩ := Kd.at_int LB.out gA tC sC
     cases GF
     replace sB := zw HB.out sB; replace tC := eq_true tC; replace sC := eq_true sC
     go_wp2_with (first | ((with_reducible refine zgc 90 ?_); refine zgo (some 22) Try.func90 #[.int .i64 (rd l0 gA)] ?_; (with_reducible refine (spec_l00Size.calls (rd l0 gA) rC _ A7.out).mono ?_); rintro e w' ⟨rfl, ⟨nd, rfl⟩⟩; refine ⟨_, rfl, ?_⟩) | ((with_reducible refine zgc 141 ?_); refine zgo (some 23) Try.func141 #[.int .i64 bA, .int .i64 rC] ?_; (with_reducible refine (spec_l00Gcd.calls k1 bA rC PC _ A8.out).mono ?_); rintro e w' ⟨rfl, ⟨nd, rfl⟩⟩; refine ⟨_, rfl, ?_⟩))
     go_roundg k1
     case measure => have := ZA.out; omega
     case rel => exact ⟨(PC), (wrap64 (gA + 1)), (zF), (zF), H', ⟨by have := ZA.out; omega⟩, ⟨zb jA.out⟩, ⟨zB2 HB.out OA.out⟩⟩
    ·rw [if_neg c6] at H
     exact absurd H (by simp)
   ·rw [if_neg c5] at H
    have SB := decide_eq_false c5; clear c5; have MF := zQ H; clear H
    go_upto_if 25 with (fail)
    go_cut [5] (fun v5 wc => ∃ (kq : Nat) (sA : Int), v5 = .int .i64 sA ∧ Aside0 (spec_l09Lowest.j1 kq l0 a1 sA = some (r1, r2)) ∧ Aside0 (kq ≤ k1) ∧ Aside0 (wc.heap[AB]? = some (.cells #[(.slice none 0 0), .int .i64 0] 35 (0, 0))) ∧ Aside0 (Below w.heap.size w wc))
    case first =>
     have H := MF.out; clear MF
     by_cases DB : a1 < 0
     ·rw [if_pos DB] at H
      have hB := decide_eq_true DB; clear DB
      (first | rw [hB] | (simp only [i64_w, i32_w]; rw [hB]) | skip)
      have H' := zQ H; clear H
      go_wp2
      go_meet
      case rel => exact ⟨_, (wrap64 (-bA)), (zF), H', ⟨by have := ZA.out; first | omega | exact Nat.le_refl _⟩, ⟨zb jA.out⟩, ⟨zB2 HB.out OA.out⟩⟩
     ·rw [if_neg DB] at H
      have hB := decide_eq_false DB; clear DB
      (first | rw [hB] | (simp only [i64_w, i32_w]; rw [hB]) | skip)
      have H' := zQ H; clear H
      go_wp2
      go_meet
      case rel => exact ⟨_, (bA), (zF), H', ⟨by have := ZA.out; first | omega | exact Nat.le_refl _⟩, ⟨zb jA.out⟩, ⟨zB2 HB.out OA.out⟩⟩
    case rest =>
     clear MF; (try clear c1); (try clear p1); (try clear q1); (try clear AG); (try clear p2); (try clear c5); (try clear SB); (try clear c6); (try clear RC); (try clear p6); (try clear c9); (try clear DB); (try clear hB); (try clear sB); (try clear tC); (try clear p2); (try clear sC); obtain ⟨kq, sA, rfl, HA, pG, jA, HB⟩ := hcut
     cases kq with
     | zero => exact absurd HA.out (by simp [spec_l09Lowest.j1])
     | succ BF =>
      have H := HA.out; clear HA
      simp only [spec_l09Lowest.j1] at H
      obtain ⟨oC, bD⟩ : ∃ y_ : List Int, y_ = (([] : List Int)) := ⟨_, rfl⟩; replace H : (if sA = 0 then (none) else (spec_l09Lowest.l1 BF l0 sA 0 oC (wrap64 (Int.tdiv a1 sA)))) = some (r1, r2) := zh H; have jD := zQ bD; clear bD
      by_cases GB : sA = 0
      ·rw [if_pos GB] at H
       exact absurd H (by simp)
      ·rw [if_neg GB] at H
       have iC : (sA == 0) = false := beq_eq_false_iff_ne.mpr GB; have VD : (sA != 0) = true := bne_iff_ne.mpr GB; have H' := zQ H; clear H
       go_wp2_with (first | ((with_reducible refine zd 28 ?_); refine Kd.R_lit (Kd.int .i64) _ 2 ?hg (N := 28) ?hd (xs := ([] : List Int)) (inner := []) (ok := fun _ => True) (okp := fun _ => True) ?hr ?hp (fun _ hk => hk) trivial (Below.refl _ _) (Nat.le_refl _) (by simp) ?_; (case hd => rfl); (case hg => rfl); (case hr => first | (go_simp; done) | (go_simp; rfl)); (case hp => exact (Reps.none _ _)); intro xG PG uC hb hg_ hnew_; clear hg_ hnew_; (first | rw [← jD.out] at uC | (simp only [Int.reduceToNat] at uC; rw [← jD.out] at uC)); have mC := zQ (Kd.R_lower uC (below_size (zB2 HB.out OA.out))); replace jA := zbl jA.out hb; replace HB := zbs2 HB.out OA.out hb; clear hb uC; obtain ⟨ED, BD, EF⟩ := Kd.R_slice mC.out; subst EF) | ((with_reducible refine zd 7 ?_); refine zbx (N := 7) (cs := #[.slice none 0 0, .int .i64 0]) (t := 35) ?_; intro nB hg NG LA hb; have mA := zQ (LA); have kE := zgz2 hg HB.out OA.out; have UB := kE; have wA := zn1 hg jA.out; have lB := zn2 hg jA.out; replace mC := zRb mC.out hb; replace jA := zbl jA.out hb; replace HB := zbs2 HB.out OA.out hb; clear hb LA hg; have OD := lB.out; have ND := wA.out; obtain ⟨gC, fC, eC, dC⟩ := zy2 mA.out))
       go_loopg [8] BF (fun kq v8 w' => ∃ (WA : Int) (nA : List Int) (u180000 : Value), v8 = .int .i64 WA ∧ Aside0 (spec_l09Lowest.l1 kq l0 sA WA nA (wrap64 (Int.tdiv a1 sA)) = some (r1, r2)) ∧ Aside0 (kq ≤ BF) ∧ Aside0 (Kd.R (Kd.int .i64) 2 w' w.heap.size (fun _ => True) u180000 nA) ∧ Aside0 (w'.heap[AB]? = some (.cells #[(.slice none 0 0), .int .i64 0] 35 (0, 0))) ∧ Aside0 (w'.heap[nB]? = some (.cells #[u180000, .int .i64 (wrap64 (Int.tdiv a1 sA))] 35 (0, 0))) ∧ Aside0 (Below w.heap.size w w'))
       case atStart => exact ⟨(0), (oC), (.slice ED oC.length BD), (zF), H', ⟨Nat.le_refl _⟩, ⟨by (with_reducible repeat (first | apply Kd.R_alloc | apply Kd.R_drewN | apply Kd.R_drew)); exact Kd.R_mono (Kd.R_far (p := ⟨nB, 1, none⟩) (Kd.R_far (p := ⟨nB, 0, none⟩) (Kd.R_types mC.out mA.out (by decide)) (fun _ hk => hk.2) (.slice ED oC.length BD)) (fun _ hk => hk.2) (.int .i64 (wrap64 (Int.tdiv a1 sA)))) (fun _ hk => trivial)⟩, ⟨by refine zb ?_; refine blk_far ?_ wA.out _; refine zb ?_; refine blk_far ?_ wA.out _; refine zb ?_; exact jA.out⟩, ⟨by refine zb ?_; refine blk_put (cs := #[.slice ED oC.length BD, .int .i64 0]) ?_ 1 _ rfl; refine zb ?_; refine blk_put (cs := #[.slice none 0 0, .int .i64 0]) ?_ 0 _ rfl; refine zb ?_; exact mA.out⟩, ⟨zB3 HB.out OA.out UB.out⟩⟩
       case round =>
        clear H'; (try clear c1); (try clear p1); (try clear q1); (try clear AG); (try clear p2); (try clear c5); (try clear SB); (try clear c6); (try clear RC); (try clear p6); (try clear c9); (try clear DB); (try clear hB); (try clear GB); (try clear iC); (try clear VD); (try clear hC); (try clear TG); (try clear SG); (try clear RG); (try clear QG); (try clear zG); (try clear gC fC eC dC); (try clear sB); (try clear p1); (try clear tC); (try clear p2); (try clear p6); (try clear q1); (try clear sC); obtain ⟨WA, nA, u180000, rfl, HA, HK3, kA, jA, mA, HB⟩ := hrel
        cases gk with
        | zero => exact absurd HA.out (by simp [spec_l09Lowest.l1])
        | succ k3 =>
         have H := HA.out; clear HA
         simp only [spec_l09Lowest.l1] at H
         by_cases FC : WA < (l0.length : Int)
         ·rw [if_pos FC] at H
          have fD := decide_eq_true FC; clear FC
          by_cases EC : 0 ≤ WA
          ·rw [if_pos EC] at H
           have eD := decide_eq_true EC; clear EC
           by_cases UC : sA = 0
           ·rw [if_pos UC] at H
            exact absurd H (by simp)
           ·rw [if_neg UC] at H
            have nG : (sA == 0) = false := beq_eq_false_iff_ne.mpr UC; have mG : (sA != 0) = true := bne_iff_ne.mpr UC
            by_cases AF : nA.length < 17592186044416
            ·rw [if_pos AF] at H
             have aE := zQ AF; clear AF; obtain ⟨NC, aD⟩ : ∃ y_ : List Int, y_ = (nA ++ [wrap64 (Int.tdiv (rd l0 WA) sA)]) := ⟨_, rfl⟩; replace H : (spec_l09Lowest.l1 k3 l0 sA (wrap64 (WA + 1)) NC (wrap64 (Int.tdiv a1 sA))) = some (r1, r2) := zh H; have ZD := zQ aD; clear aD; have H' := zQ H; clear H
             try go_wp2
             have n0_ := zQ (Kd.R_drew kA.out); have n1_ := zQ (blk_drew jA.out); have n2_ := zQ (blk_drew mA.out); have n3_ := zQ (below_drew1 HB.out); clear kA; clear jA; clear mA; clear HB; have kA := n0_; have jA := n1_; have mA := n2_; have HB := n3_; clear n0_ n1_ n2_ n3_; have qD : 0 ≤ (WA : Int) := zD; have pD : WA < (l0.length : Int) := zD; obtain ⟨WD, FF, rB⟩ := Kd.at_int LB.out WA qD pD; have KA := rB
             cases FF
             replace rB := zw HB.out rB; replace qD := eq_true qD; replace pD := eq_true pD
             refine zs (fun w' => w'.cell? ⟨nB, 0, none⟩ = some (u180000) ∧ w'.cell? ⟨nB, 1, none⟩ = some (.int .i64 (wrap64 (Int.tdiv a1 sA))) ∧ w'.cell? (WD.add (WA).toNat) = some (.int .i64 (rd l0 WA))) [11] 12 ⟨(blk_cell mA.out 0).trans rfl, (blk_cell mA.out 1).trans rfl, ((HB.out.cell (World.block_lt_of_cell? w _ KA)).trans KA)⟩ (fun RB => ?_); refine with_tabW spec_l09Lowest.tab12 spec_l09Lowest.bits12 (fun HT_ HW_ => ?_)
             generalize wr.drew = KG at kA jA mA HB rB RB ⊢
             refine zp 0 39 ?_
             refine zp 2 41 ?_
             refine zp 3 42 ?_
             refine zp 4 43 ?_
             refine zp 6 45 ?_
             refine zt 1 40 RB ?_
             refine zt 5 44 RB ?_
             refine zp 7 46 ?_
             refine zo 8 (some 47) (fun K hK => ?_)
             refine value_ (w1 := ?_) (v := ?_) (by rfl) rfl ?_ ?_
             rotate_left 2
             ·go_simp
              constructor
              ·rfl
              ·rfl
             refine hK.out _ _ ⟨(blk_cell (blk_alloc mA.out _) 0).trans rfl, (blk_cell (blk_alloc mA.out _) 1).trans rfl, (World.cell?_alloc_lt _ _ _ (World.block_lt_of_cell? _ _ (((HB.out.cell (World.block_lt_of_cell? w _ KA)).trans KA)))).trans (((HB.out.cell (World.block_lt_of_cell? w _ KA)).trans KA))⟩ (fun RB => ?_)
             clear hK K
             refine zn 47 ?_
             refine zo 9 (some 48) (fun K hK => ?_)
             refine Kd.R_append_step (Kd.int .i64) (w0 := w) w.heap.size (by rfl) (.tmp 40) (.tmp 47) 31 2 (.int .i64 0) 8 rfl Try.underlying31 info2 rfl (by decide) (by omega) u180000 nA (wrap64 (Int.tdiv (rd l0 WA) sA)) [.int .i64 (wrap64 (Int.tdiv (rd l0 WA) sA))] (fun _ => True) (fun _ => False) rfl rfl ?aP (fun _ hk => hk.elim) ?aF ?aO ?aB ?aS ?aL ?_
             (case aP => exact rfl)
             (case aB => exact (zB3 HB.out OA.out UB.out))
             (case aF => exact (fun _ _ => trivial))
             (case aO => exact (zR kA.out))
             (case aS => exact (below_size (zB3 HB.out OA.out UB.out)))
             (case aL => have := aE.out; omega)
             intro wG rG ho hb hg hat
             rw [← ZD.out] at ho; have n0_ := zQ (blk_grown (g := AB) (o := .cells #[.slice none 0 0, .int .i64 0] 35 (0, 0)) (zb jA.out) hg (Kd.R_ne kA.out jA.out (by decide))); have n1_ := zQ (blk_grown (g := nB) (o := .cells #[u180000, .int .i64 (wrap64 (Int.tdiv a1 sA))] 35 (0, 0)) (zb mA.out) hg (Kd.R_ne kA.out mA.out (by decide))); have n2_ := zQ (hb); have n3_ := zQ (ho); clear jA; clear mA; clear HB; clear kA; have jA := n0_; have mA := n1_; have HB := n2_; have kD := n3_; clear n0_ n1_ n2_ n3_; clear ho hb hg hat; obtain ⟨mE, TD, SD⟩ := Kd.R_slice kD.out
             (first | subst SD | (injection SD with f1_ f2_ f3_; have f4_ := f1_.symm; have f5_ := f3_.symm; clear f1_ f2_ f3_; subst f4_; subst f5_))
             refine hK.out _ _ ⟨(blk_cell mA.out 0).trans rfl, (blk_cell mA.out 1).trans rfl, ((HB.out.cell (World.block_lt_of_cell? w _ KA)).trans KA)⟩ (fun RB => ?_)
             clear hK K
             refine zn 48 ?_
             refine zp 10 49 ?_
             refine last_ (i := 11) (N := none) (zm 12 4095) rfl rfl (one_of HT_.out (by kernel_rfl)) (by decide) (fun K hK => ?_)
             have CG : rG.cell? ⟨nB, 0, none⟩ = some (u180000) := (blk_cell mA.out 0).trans rfl; have lG := zfz mA.out 0; have nE := wA.out; have oE := lB.out
             refine skip_ (w1 := ?_) (by rfl) rfl ?_ ?_
             rotate_left
             ·go_simp
              rfl
             refine hK.out _ _ ?_
             clear hK K
             refine done_ (done_of HT_.out (by kernel_rfl)) ?_
             try go_wp2
             go_roundg k3
             case measure => have := ZA.out; have := pG.out; have := HK3.out; omega
             case rel => exact ⟨(wrap64 (WA + 1)), (NC), (.slice mE NC.length TD), (zF), H', ⟨by have := ZA.out; have := pG.out; have := HK3.out; omega⟩, ⟨by (with_reducible repeat (first | apply Kd.R_alloc | apply Kd.R_drewN | apply Kd.R_drew)); exact Kd.R_mono (Kd.R_far (p := ⟨nB, 0, none⟩) (Kd.R_types kD.out mA.out (by decide)) (fun _ hk => hk.2) (.slice mE NC.length TD)) (fun _ hk => trivial)⟩, ⟨by refine zb ?_; refine blk_far ?_ wA.out _; refine zb ?_; exact jA.out⟩, ⟨by refine zb ?_; refine blk_put (cs := #[u180000, .int .i64 (wrap64 (Int.tdiv a1 sA))]) ?_ 0 _ rfl; refine zb ?_; exact mA.out⟩, ⟨zB3 HB.out OA.out UB.out⟩⟩
            ·rw [if_neg AF] at H
             exact absurd H (by simp)
          ·rw [if_neg EC] at H
           exact absurd H (by simp)
         ·rw [if_neg FC] at H
          have fD := decide_eq_false FC; clear FC
          simp only [Option.some.injEq, Prod.mk.injEq] at H
          obtain ⟨rfl, rfl⟩ := H; have dG := lB.out; have SF := wA.out; obtain ⟨cF, bF, xE, wE⟩ := zy2 mA.out; obtain ⟨DD, AD, DF⟩ := Kd.R_slice kA.out; subst DF; obtain ⟨ZE, YE, vE, uE⟩ := zy2 jA.out
          go_wp2
          refine bodyPost_ret (results_cell_row rfl _ _ AB 35 #[.slice DD nA.length AD, .int .i64 (wrap64 (Int.tdiv a1 sA))] (0, 0) _ rfl (by refine zb ?_; refine blk_put (cs := #[.slice DD nA.length AD, .int .i64 0]) ?_ 1 _ rfl; refine zb ?_; refine blk_put (cs := #[.slice none 0 0, .int .i64 0]) ?_ 0 _ rfl; refine zb ?_; exact jA.out) Try.underlying35 rfl (by kernel_rfl)) rfl ?_
          exact ⟨_, zE, by (with_reducible repeat (first | apply Kd.R_alloc | apply Kd.R_drewN | apply Kd.R_drew)); exact Kd.R_mono (Kd.R_far (p := ⟨AB, 1, none⟩) (Kd.R_far (p := ⟨AB, 0, none⟩) (Kd.R_types kA.out jA.out (by decide)) (fun _ hk => hk.2) (.slice DD nA.length AD)) (fun _ hk => hk.2) (.int .i64 (wrap64 (Int.tdiv a1 sA)))) (fun _ hk => trivial), zB3 HB.out OA.out UB.out⟩

def spec_l09Pushed.l0 : Nat → List Int → Int → List (S164) → List (S115) → List Int → Int → Option (List Int)
 | 0, _, _, _, _, _, _ => none
 | k + 1, x5, x6, qC, NB, MB, pC => if x6 < (NB.length : Int) then (if 0 ≤ x6 then (if ((rd_T115 NB x6).f2 = true) then (spec_l09Pushed.l0 k x5 (wrap64 (x6 + 1)) qC NB MB pC) else (if x6 < (MB.length : Int) then (if (rd MB x6) < 0 then (if x5.length < 17592186044416 then (spec_l09Pushed.l0 k (x5 ++ [x6]) (wrap64 (x6 + 1)) qC NB MB pC) else (none)) else (spec_l09Pushed.l0 k x5 (wrap64 (x6 + 1)) qC NB MB pC)) else (none))) else (none)) else (some x5)
def spec_l09Pushed.f (k : Nat) (l0_0 : List (S164)) (l0_1 : List (S115)) (l1_0 : List Int) (a1_1 : Int) : Option (List Int) := spec_l09Pushed.l0 k (([] : List Int)) 0 l0_0 l0_1 l1_0 a1_1
theorem spec_l09Pushed.calls (k : Nat) (g0 : Nat) (A0_0 : Option Addr) (c0_0 : Nat) (l0_0 : List (S164)) (A0_1 : Option Addr) (c0_1 : Nat) (l0_1 : List (S115)) (g1 : Nat) (A1_0 : Option Addr) (c1_0 : Nat) (l1_0 : List Int) (a1_1 : Int) (r : List Int) (w : World) (QB : w.heap[g0]? = some (.cells #[.slice A0_0 l0_0.length c0_0, .slice A0_1 l0_1.length c0_1] 27 (0, 0))) (RD : w.heap[g1]? = some (.cells #[.slice A1_0 l1_0.length c1_0, .int .i64 a1_1] 35 (0, 0))) (QA : Kd.C k164 w A0_0 l0_0.length l0_0) (SA : l0_0.length ≤ c0_0) (PA : Kd.C k115 w A0_1 l0_1.length l0_1) (RA : l0_1.length ≤ c0_1) (OB : Kd.C (Kd.int .i64) w A1_0 l1_0.length l1_0) (PB : l1_0.length ≤ c1_0) (h : spec_l09Pushed.f k l0_0 l0_1 l1_0 a1_1 = some r) :
  Calls Try.prog 81 #[.pointer (some ⟨g0, 0, none⟩), .pointer (some ⟨g1, 0, none⟩)] w fun e w' => ∃ v0_ : Value, e = .returned (v0_) ∧ Kd.R (Kd.int .i64) 2 w' w.heap.size (fun _ => True) v0_ r ∧ Below w.heap.size w w' := by
 have KC := zQ QA
 have MC := zQ SA
 clear QA SA
 have iB := zQ PA
 have LC := zQ RA
 clear PA RA
 have TB := zQ OB
 have hE := zQ PB
 clear OB PB
 have mB := zQ QB
 clear QB
 have nC := zQ RD
 clear RD
 have lC := zQ (show g0 ≠ g1 from fun e_ => by have h_ := mB.out; rw [e_, nC.out] at h_; simp at h_)
 have kC := zQ (show g1 ≠ g0 from fun e_ => by have h_ := nC.out; rw [e_, mB.out] at h_; simp at h_)
 have HB := zQ (Below.refl w.heap.size w)
 have H := h; unfold spec_l09Pushed.f at H
 clear h
 obtain ⟨ID, ZC⟩ : ∃ y_ : List Int, y_ = (([] : List Int)) := ⟨_, rfl⟩
 replace H : (spec_l09Pushed.l0 k ID 0 l0_0 l0_1 l1_0 a1_1) = some r := zh H
 have iD := zQ ZC
 clear ZC
 have H' := zQ H
 clear H
 go_enter Try.func81, Try.ntmps81
 go_wp2_with (first | ((with_reducible refine zd 7 ?_); refine Kd.R_lit (Kd.int .i64) _ 2 ?hg (N := 7) ?hd (xs := ([] : List Int)) (inner := []) (ok := fun _ => True) (okp := fun _ => True) ?hr ?hp (fun _ hk => hk) trivial (Below.refl _ _) (Nat.le_refl _) (by simp) ?_; (case hd => rfl); (case hg => rfl); (case hr => first | (go_simp; done) | (go_simp; rfl)); (case hp => exact (Reps.none _ _)); intro vG w3 MD hb hg_ hnew_; clear hg_ hnew_; (first | rw [← iD.out] at MD | (simp only [Int.reduceToNat] at MD; rw [← iD.out] at MD)); have gE := zQ (Kd.R_lower MD (below_size (zB HB.out))); replace mB := zbl mB.out hb; replace nC := zbl nC.out hb; replace HB := zbs HB.out hb; clear hb MD))
 go_loopg [5, 6] k (fun kq v5 v6 w' => ∃ (bA : List Int) (gA : Int), v6 = .int .i64 gA ∧ Aside0 (spec_l09Pushed.l0 kq bA gA l0_0 l0_1 l1_0 a1_1 = some r) ∧ Aside0 (kq ≤ k) ∧ Aside0 (Kd.R (Kd.int .i64) 2 w' w.heap.size (fun _ => True) v5 bA) ∧ Aside0 (w'.heap[g0]? = some (.cells #[(.slice A0_0 l0_0.length c0_0), (.slice A0_1 l0_1.length c0_1)] 27 (0, 0))) ∧ Aside0 (w'.heap[g1]? = some (.cells #[(.slice A1_0 l1_0.length c1_0), .int .i64 a1_1] 35 (0, 0))) ∧ Aside0 (Below w.heap.size w w'))
 case atStart => exact ⟨(ID), (0), (zF), H', ⟨Nat.le_refl _⟩, ⟨zR gE.out⟩, ⟨zb mB.out⟩, ⟨zb nC.out⟩, ⟨zB HB.out⟩⟩
 case round =>
  clear H'; (try clear c1); (try clear p2); obtain ⟨bA, gA, rfl, HA, ZA, CA, mB, nC, HB⟩ := hrel
  cases gk with
  | zero => exact absurd HA.out (by simp [spec_l09Pushed.l0])
  | succ k1 =>
   have H := HA.out; clear HA
   simp only [spec_l09Pushed.l0] at H
   by_cases c5 : gA < (l0_1.length : Int)
   ·rw [if_pos c5] at H
    have SB := decide_eq_true c5; clear c5
    by_cases c6 : 0 ≤ gA
    ·rw [if_pos c6] at H
     have RC := decide_eq_true c6; clear c6; obtain ⟨bq7, vD⟩ : ∃ b_ : Bool, b_ = ((rd_T115 l0_1 gA).f2) := ⟨_, rfl⟩
     replace H : (if (bq7 = true) then (spec_l09Pushed.l0 k1 bA (wrap64 (gA + 1)) l0_0 l0_1 l1_0 a1_1) else (if gA < (l1_0.length : Int) then (if (rd l1_0 gA) < 0 then (if bA.length < 17592186044416 then (spec_l09Pushed.l0 k1 (bA ++ [gA]) (wrap64 (gA + 1)) l0_0 l0_1 l1_0 a1_1) else (none)) else (spec_l09Pushed.l0 k1 bA (wrap64 (gA + 1)) l0_0 l0_1 l1_0 a1_1)) else (none))) = some r := by rw [← vD] at H; exact H
     have Nbq7 := zQ vD; clear vD
     by_cases c8 : (bq7 = true)
     ·subst c8
      rw [if_pos rfl] at H; have H' := zQ H; clear H; have FG := lC.out; have DG := kC.out; obtain ⟨yF, xF, SE, RE⟩ := zy2 mB.out; have xB : 0 ≤ (gA : Int) := zD; have uB : gA < (l0_1.length : Int) := zD; obtain ⟨IC, CC, GA, FA, qA⟩ := at_T115 iB.out gA xB uB
      (try rw [← Nbq7.out] at qA)
      cases CC
      replace GA := zw HB.out GA; replace FA := zw HB.out FA; replace qA := zw HB.out qA; replace xB := eq_true xB; replace uB := eq_true uB
      go_wp2
      go_roundg k1
      case measure => have := ZA.out; omega
      case rel => exact ⟨(bA), (wrap64 (gA + 1)), (zF), H', ⟨by have := ZA.out; omega⟩, ⟨zR CA.out⟩, ⟨zb mB.out⟩, ⟨zb nC.out⟩, ⟨zB HB.out⟩⟩
     ·replace c8 := Bool.eq_false_iff.mpr c8
      subst c8
      rw [if_neg Bool.false_ne_true] at H
      by_cases GB : gA < (l1_0.length : Int)
      ·rw [if_pos GB] at H
       have iC := decide_eq_true GB; clear GB
       by_cases hC : (rd l1_0 gA) < 0
       ·rw [if_pos hC] at H
        have GC := decide_eq_true hC; clear hC
        by_cases VC : bA.length < 17592186044416
        ·rw [if_pos VC] at H
         have cE := zQ VC; clear VC; obtain ⟨HD, YC⟩ : ∃ y_ : List Int, y_ = (bA ++ [gA]) := ⟨_, rfl⟩; replace H : (spec_l09Pushed.l0 k1 HD (wrap64 (gA + 1)) l0_0 l0_1 l1_0 a1_1) = some r := zh H; have YD := zQ YC; clear YC; have H' := zQ H; clear H; have kG := lC.out; have ZF := kC.out; obtain ⟨uF, tF, OE, NE⟩ := zy2 mB.out; have xB : 0 ≤ (gA : Int) := zD; have uB : gA < (l0_1.length : Int) := zD; obtain ⟨IC, CC, GA, FA, qA⟩ := at_T115 iB.out gA xB uB
         (try rw [← Nbq7.out] at qA)
         cases CC
         replace GA := zw HB.out GA; replace FA := zw HB.out FA; replace qA := zw HB.out qA; replace xB := eq_true xB; replace uB := eq_true uB; obtain ⟨sF, rF, ME, LE⟩ := zy2 nC.out; have ZB : 0 ≤ (gA : Int) := zD; have WB : gA < (l1_0.length : Int) := zD; obtain ⟨gD, xD, cB⟩ := Kd.at_int TB.out gA ZB WB
         cases xD
         replace cB := zw HB.out cB; replace ZB := eq_true ZB; replace WB := eq_true WB
         go_wp2_with (first | ((with_reducible refine gate_builtin (b := .append) (xs := #[.tmp 36, .tmp 38]) rfl ?_); at_builtin; refine Kd.R_append (Kd.int .i64) (w0 := w) w.heap.size rfl (.tmp 36) (.tmp 38) 31 2 (.int .i64 0) 8 rfl Try.underlying31 info2 rfl (by decide) (by omega) u5 bA gA [.int .i64 gA] (fun _ => True) (fun _ => False) rfl rfl ?aP (fun _ hk => hk.elim) ?aF ?aO ?aB ?aS ?aL ?_; (case aP => exact rfl); (case aB => exact (zB HB.out)); (case aF => exact (fun _ _ => trivial)); (case aO => exact (zR CA.out)); (case aS => exact (below_size (zB HB.out))); (case aL => have := cE.out; omega); intro uG MG ho hb hg hat; rw [← YD.out] at ho; have fE := zQ (ho); replace mB := zQ (blk_grown (g := g0) (o := .cells #[.slice A0_0 l0_0.length c0_0, .slice (some IC) l0_1.length c0_1] 27 (0, 0)) (zb mB.out) hg (Kd.R_ne CA.out mB.out (by decide))); replace nC := zQ (blk_grown (g := g1) (o := .cells #[.slice (some gD) l1_0.length c1_0, .int .i64 a1_1] 35 (0, 0)) (zb nC.out) hg (Kd.R_ne CA.out nC.out (by decide))); replace HB := zQ (hb); clear CA ho hb hg hat))
         go_roundg k1
         case measure => have := ZA.out; omega
         case rel => exact ⟨(HD), (wrap64 (gA + 1)), (zF), H', ⟨by have := ZA.out; omega⟩, ⟨zR fE.out⟩, ⟨zb mB.out⟩, ⟨zb nC.out⟩, ⟨zB HB.out⟩⟩
        ·rw [if_neg VC] at H
         exact absurd H (by simp)
       ·rw [if_neg hC] at H
        have GC := decide_eq_false hC; clear hC; have H' := zQ H; clear H; have iG := lC.out; have XF := kC.out; obtain ⟨pF, nF, JE, IE⟩ := zy2 mB.out; have xB : 0 ≤ (gA : Int) := zD; have uB : gA < (l0_1.length : Int) := zD; obtain ⟨IC, CC, GA, FA, qA⟩ := at_T115 iB.out gA xB uB
        (try rw [← Nbq7.out] at qA)
        cases CC
        replace GA := zw HB.out GA; replace FA := zw HB.out FA; replace qA := zw HB.out qA; replace xB := eq_true xB; replace uB := eq_true uB; obtain ⟨mF, lF, HE, GE⟩ := zy2 nC.out; have ZB : 0 ≤ (gA : Int) := zD; have WB : gA < (l1_0.length : Int) := zD; obtain ⟨gD, xD, cB⟩ := Kd.at_int TB.out gA ZB WB
        cases xD
        replace cB := zw HB.out cB; replace ZB := eq_true ZB; replace WB := eq_true WB
        go_wp2
        go_roundg k1
        case measure => have := ZA.out; omega
        case rel => exact ⟨(bA), (wrap64 (gA + 1)), (zF), H', ⟨by have := ZA.out; omega⟩, ⟨zR CA.out⟩, ⟨zb mB.out⟩, ⟨zb nC.out⟩, ⟨zB HB.out⟩⟩
      ·rw [if_neg GB] at H
       exact absurd H (by simp)
    ·rw [if_neg c6] at H
     exact absurd H (by simp)
   ·rw [if_neg c5] at H
    have SB := decide_eq_false c5; clear c5; obtain rfl := Option.some.inj H; have hG := lC.out; have WF := kC.out; obtain ⟨kF, jF, FE, EE⟩ := zy2 mB.out
    go_wp2
    go_ret
    exact ⟨_, zE, zR CA.out, zB HB.out⟩

def impl_pushedWires.l0 : Nat → List Int → List (S115) → Int → Int → List Int → Int → Option (List Int)
 | 0, _, _, _, _, _, _ => none
 | k + 1, x5, x10, x11, x12, bB, IB => if x12 < x11 then (if 0 ≤ x12 then (if x12 < (x10.length : Int) then (if ((rd_T115 x10 x12).f2 = true) then (impl_pushedWires.l0 k x5 x10 x11 (wrap64 (x12 + 1)) bB IB) else (if x12 < (bB.length : Int) then (if (rd bB x12) < 0 then (if x5.length < 17592186044416 then (impl_pushedWires.l0 k (x5 ++ [x12]) x10 x11 (wrap64 (x12 + 1)) bB IB) else (none)) else (impl_pushedWires.l0 k x5 x10 x11 (wrap64 (x12 + 1)) bB IB)) else (none))) else (none)) else (none)) else (some x5)
def impl_pushedWires.f (k : Nat) (l0_0 : List (S164)) (l0_1 : List (S115)) (l1_0 : List Int) (a1_1 : Int) : Option (List Int) := impl_pushedWires.l0 k (([] : List Int)) l0_1 (l0_1.length : Int) 0 l1_0 a1_1
theorem impl_pushedWires.calls (k : Nat) (A0_0 : Option Addr) (c0_0 : Nat) (l0_0 : List (S164)) (A0_1 : Option Addr) (c0_1 : Nat) (l0_1 : List (S115)) (A1_0 : Option Addr) (c1_0 : Nat) (l1_0 : List Int) (a1_1 : Int) (r : List Int) (w : World) (QA : Kd.C k164 w A0_0 l0_0.length l0_0) (SA : l0_0.length ≤ c0_0) (PA : Kd.C k115 w A0_1 l0_1.length l0_1) (RA : l0_1.length ≤ c0_1) (OB : Kd.C (Kd.int .i64) w A1_0 l1_0.length l1_0) (PB : l1_0.length ≤ c1_0) (h : impl_pushedWires.f k l0_0 l0_1 l1_0 a1_1 = some r) :
  Calls Try.prog 77 #[.agg #[.slice A0_0 l0_0.length c0_0, .slice A0_1 l0_1.length c0_1], .agg #[.slice A1_0 l1_0.length c1_0, .int .i64 a1_1]] w fun e w' => ∃ v0_ : Value, e = .returned (v0_) ∧ Kd.R (Kd.int .i64) 2 w' w.heap.size (fun _ => True) v0_ r ∧ Below w.heap.size w w' := by
 have BG := Try.underlying27
 have CF := Try.underlying35
 have NF := Try.underlying115
 have KC := zQ QA
 have MC := zQ SA
 clear QA SA
 have iB := zQ PA
 have LC := zQ RA
 clear PA RA
 have TB := zQ OB
 have hE := zQ PB
 clear OB PB
 have HB := zQ (Below.refl w.heap.size w)
 have H := h; unfold impl_pushedWires.f at H
 clear h
 obtain ⟨GD, XC⟩ : ∃ y_ : List Int, y_ = (([] : List Int)) := ⟨_, rfl⟩
 replace H : (impl_pushedWires.l0 k GD l0_1 (l0_1.length : Int) 0 l1_0 a1_1) = some r := zh H
 have hD := zQ XC
 clear XC
 have H' := zQ H
 clear H
 go_enter Try.func77, Try.ntmps77
 go_wp2_with (first | ((with_reducible refine zd 2 ?_); refine zbx (N := 2) (cs := #[.slice A0_0 l0_0.length c0_0, .slice A0_1 l0_1.length c0_1]) (t := 27) ?_; intro dD hg w3 LA hb; have iA := zQ (LA); have jE := zgz hg HB.out; have oA := jE; replace HB := zbs HB.out hb; clear hb LA hg) | ((with_reducible refine zd 3 ?_); refine zbx (N := 3) (cs := #[.slice A1_0 l1_0.length c1_0, .int .i64 a1_1]) (t := 35) ?_; intro cD hg w4 LA hb; have lA := zQ (LA); have iE := zgz2 hg HB.out oA.out; have rA := iE; have kB := zn1 hg iA.out; have jB := zn2 hg iA.out; replace iA := zbl iA.out hb; replace HB := zbs2 HB.out oA.out hb; clear hb LA hg) | ((with_reducible refine zd 8 ?_); refine Kd.R_lit (Kd.int .i64) _ 2 ?hg (N := 8) ?hd (xs := ([] : List Int)) (inner := []) (ok := fun _ => True) (okp := fun _ => True) ?hr ?hp (fun _ hk => hk) trivial (Below.refl _ _) (Nat.le_refl _) (by simp) ?_; (case hd => rfl); (case hg => rfl); (case hr => first | (go_simp; done) | (go_simp; rfl)); (case hp => exact (Reps.none _ _)); intro tG w5 LD hb hg_ hnew_; clear hg_ hnew_; (first | rw [← hD.out] at LD | (simp only [Int.reduceToNat] at LD; rw [← hD.out] at LD)); have eE := zQ (Kd.R_lower LD (below_size (zB3 HB.out oA.out rA.out))); replace iA := zbl iA.out hb; replace lA := zbl lA.out hb; replace HB := zQ (below_step (zB3 HB.out oA.out rA.out) hb); clear hb LD; have GG := kB.out; have EG := jB.out; obtain ⟨uD, tD, sD, rD⟩ := zy2 iA.out))
 go_loopg [5, 12] k (fun kq v5 yG w' => ∃ (bA : List Int) (aA : Int), yG = .int .i64 aA ∧ Aside0 (impl_pushedWires.l0 kq bA l0_1 (l0_1.length : Int) aA l1_0 a1_1 = some r) ∧ Aside0 (kq ≤ k) ∧ Aside0 (Kd.R (Kd.int .i64) 2 w' w.heap.size (fun _ => True) v5 bA) ∧ Aside0 (w'.heap[dD]? = some (.cells #[(.slice A0_0 l0_0.length c0_0), (.slice A0_1 l0_1.length c0_1)] 27 (0, 0))) ∧ Aside0 (w'.heap[cD]? = some (.cells #[(.slice A1_0 l1_0.length c1_0), .int .i64 a1_1] 35 (0, 0))) ∧ Aside0 (Below w.heap.size w w'))
 case atStart => exact ⟨(GD), (0), (zF), H', ⟨Nat.le_refl _⟩, ⟨zR eE.out⟩, ⟨zb iA.out⟩, ⟨zb lA.out⟩, ⟨zB3 HB.out oA.out rA.out⟩⟩
 case round =>
  clear H'; (try clear c1); (try clear p2); (try clear c7); (try clear uD tD sD rD); obtain ⟨bA, aA, rfl, HA, ZA, CA, iA, lA, HB⟩ := hrel
  cases gk with
  | zero => exact absurd HA.out (by simp [impl_pushedWires.l0])
  | succ k1 =>
   have H := HA.out; clear HA
   simp only [impl_pushedWires.l0] at H
   by_cases c9 : aA < (l0_1.length : Int)
   ·rw [if_pos c9] at H
    have HF := decide_eq_true c9; clear c9
    by_cases DB : 0 ≤ aA
    ·rw [if_pos DB] at H
     have hB := decide_eq_true DB; clear DB
     by_cases GB : aA < (l0_1.length : Int)
     ·rw [if_pos GB] at H
      have iC := decide_eq_true GB; clear GB; obtain ⟨bq12, AC⟩ : ∃ b_ : Bool, b_ = ((rd_T115 l0_1 aA).f2) := ⟨_, rfl⟩
      replace H : (if (bq12 = true) then (impl_pushedWires.l0 k1 bA l0_1 (l0_1.length : Int) (wrap64 (aA + 1)) l1_0 a1_1) else (if aA < (l1_0.length : Int) then (if (rd l1_0 aA) < 0 then (if bA.length < 17592186044416 then (impl_pushedWires.l0 k1 (bA ++ [aA]) l0_1 (l0_1.length : Int) (wrap64 (aA + 1)) l1_0 a1_1) else (none)) else (impl_pushedWires.l0 k1 bA l0_1 (l0_1.length : Int) (wrap64 (aA + 1)) l1_0 a1_1)) else (none))) = some r := by rw [← AC] at H; exact H
      have Nbq12 := zQ AC; clear AC
      by_cases VC : (bq12 = true)
      ·subst VC
       rw [if_pos rfl] at H; have H' := zQ H; clear H; have wB : 0 ≤ (aA : Int) := zD; have tB : aA < (l0_1.length : Int) := zD; obtain ⟨HC, BC, EA, DA, pA⟩ := at_T115 iB.out aA wB tB
       (try rw [← Nbq12.out] at pA)
       cases BC
       replace EA := zw HB.out EA; replace DA := zw HB.out DA; replace pA := zw HB.out pA; replace wB := eq_true wB; replace tB := eq_true tB
       go_wp2_with (first | ((with_reducible refine zd 7 ?_); refine zbx (N := 7) (cs := #[.int .i64 0, .int .i64 0, .bool false]) (t := 115) ?_; intro hA hg OG LA hb; have VA := zQ (LA); have pB := zQ ((by rw [hg]; exact (below_size (zB3 HB.out oA.out rA.out)) : w.heap.size ≤ hA)); have EB := zQ ((by rw [hg]; exact (below_size (zB3 HB.out oA.out rA.out)) : w.heap.size ≤ hA)); have fA := zn1 hg iA.out; have NA := zn2 hg iA.out; have eA := zn1 hg lA.out; have MA := zn2 hg lA.out; replace CA := zRb CA.out hb; replace iA := zbl iA.out hb; replace lA := zbl lA.out hb; replace HB := zQ (below_step (zB3 HB.out oA.out rA.out) hb); clear hb LA hg; have jG := NA.out; have YF := fA.out; have OD := MA.out; have ND := eA.out; obtain ⟨gC, fC, qF, eC, dC, KE⟩ := zy3 VA.out))
       go_roundg k1
       case measure => have := ZA.out; omega
       case rel => exact ⟨(bA), (wrap64 (aA + 1)), (zF), H', ⟨by have := ZA.out; omega⟩, ⟨by (with_reducible repeat (first | apply Kd.R_alloc | apply Kd.R_drewN | apply Kd.R_drew)); exact Kd.R_mono (Kd.R_far (p := ⟨hA, 2, none⟩) (Kd.R_far (p := ⟨hA, 1, none⟩) (Kd.R_far (p := ⟨hA, 0, none⟩) (Kd.R_types CA.out VA.out (by decide)) (fun _ hk => hk.2) (.int .i64 ((rd_T115 l0_1 aA).f0))) (fun _ hk => hk.2) (.int .i64 ((rd_T115 l0_1 aA).f1))) (fun _ hk => hk.2) (.bool true)) (fun _ hk => trivial)⟩, ⟨by refine zb ?_; refine blk_far ?_ fA.out _; refine zb ?_; refine blk_far ?_ fA.out _; refine zb ?_; refine blk_far ?_ fA.out _; refine zb ?_; exact iA.out⟩, ⟨by refine zb ?_; refine blk_far ?_ eA.out _; refine zb ?_; refine blk_far ?_ eA.out _; refine zb ?_; refine blk_far ?_ eA.out _; refine zb ?_; exact lA.out⟩, ⟨by repeat (first | (with_reducible first | exact HB.out | apply below_alloc | apply pw_below_drewN | apply below_drew1 | refine below_set ?_ oA.out | refine below_set ?_ rA.out | refine below_set ?_ EB.out) | exact HB.out)⟩⟩
      ·replace VC := Bool.eq_false_iff.mpr VC
       subst VC
       rw [if_neg Bool.false_ne_true] at H
       by_cases FC : aA < (l1_0.length : Int)
       ·rw [if_pos FC] at H
        have fD := decide_eq_true FC; clear FC
        by_cases EC : (rd l1_0 aA) < 0
        ·rw [if_pos EC] at H
         have eD := decide_eq_true EC; clear EC
         by_cases UC : bA.length < 17592186044416
         ·rw [if_pos UC] at H
          have bE := zQ UC; clear UC; obtain ⟨FD, WC⟩ : ∃ y_ : List Int, y_ = (bA ++ [aA]) := ⟨_, rfl⟩; replace H : (impl_pushedWires.l0 k1 FD l0_1 (l0_1.length : Int) (wrap64 (aA + 1)) l1_0 a1_1) = some r := zh H; have XD := zQ WC; clear WC; have H' := zQ H; clear H; have wB : 0 ≤ (aA : Int) := zD; have tB : aA < (l0_1.length : Int) := zD; obtain ⟨HC, BC, EA, DA, pA⟩ := at_T115 iB.out aA wB tB
          (try rw [← Nbq12.out] at pA)
          cases BC
          replace EA := zw HB.out EA; replace DA := zw HB.out DA; replace pA := zw HB.out pA; replace wB := eq_true wB; replace tB := eq_true tB
          go_wp2_with (first | ((with_reducible refine zd 7 ?_); refine zbx (N := 7) (cs := #[.int .i64 0, .int .i64 0, .bool false]) (t := 115) ?_; intro hA hg LG LA hb; have VA := zQ (LA); have pB := zQ ((by rw [hg]; exact (below_size (zB3 HB.out oA.out rA.out)) : w.heap.size ≤ hA)); have EB := zQ ((by rw [hg]; exact (below_size (zB3 HB.out oA.out rA.out)) : w.heap.size ≤ hA)); have fA := zn1 hg iA.out; have NA := zn2 hg iA.out; have eA := zn1 hg lA.out; have MA := zn2 hg lA.out; replace CA := zRb CA.out hb; replace iA := zbl iA.out hb; replace lA := zbl lA.out hb; replace HB := zQ (below_step (zB3 HB.out oA.out rA.out) hb); clear hb LA hg; have gG := NA.out; have VF := fA.out; have fG := MA.out; have UF := eA.out; obtain ⟨hF, gF, fF, DE, CE, BE⟩ := zy3 VA.out; have eG := jB.out; have TF := kB.out; obtain ⟨eF, dF, AE, yE⟩ := zy2 lA.out; have YB : 0 ≤ (aA : Int) := zD; have VB : aA < (l1_0.length : Int) := zD; obtain ⟨oB, wD, cA⟩ := Kd.at_int TB.out aA YB VB; cases wD; have vA : oB.block ≠ hA := Nat.ne_of_lt (Nat.lt_of_lt_of_le (by have := World.block_lt_of_cell? _ _ cA; first | rwa [add_block] at this | exact this) pB.out); have uA : oB.block ≠ hA := Nat.ne_of_lt (Nat.lt_of_lt_of_le (by have := World.block_lt_of_cell? _ _ cA; first | rwa [add_block] at this | exact this) pB.out); have tA : oB.block ≠ hA := Nat.ne_of_lt (Nat.lt_of_lt_of_le (by have := World.block_lt_of_cell? _ _ cA; first | rwa [add_block] at this | exact this) pB.out); replace cA := zw HB.out cA; replace cA := (cell_far (p := ⟨hA, 0, none⟩) (by first | (rw [add_block]; exact vA) | (show (Addr.add _ _).block ≠ _; rw [add_block]; exact vA) | exact vA) (.int .i64 ((rd_T115 l0_1 aA).f0))).trans cA; replace cA := (cell_far (p := ⟨hA, 1, none⟩) (by first | (rw [add_block]; exact uA) | (show (Addr.add _ _).block ≠ _; rw [add_block]; exact uA) | exact uA) (.int .i64 ((rd_T115 l0_1 aA).f1))).trans cA; replace cA := (cell_far (p := ⟨hA, 2, none⟩) (by first | (rw [add_block]; exact tA) | (show (Addr.add _ _).block ≠ _; rw [add_block]; exact tA) | exact tA) (.bool false)).trans cA; clear vA; clear uA; clear tA; replace YB := eq_true YB; replace VB := eq_true VB) | ((with_reducible refine gate_builtin (b := .append) (xs := #[.tmp 28, .tmp 30]) rfl ?_); at_builtin; refine Kd.R_append (Kd.int .i64) (w0 := w) w.heap.size rfl (.tmp 28) (.tmp 30) 31 2 (.int .i64 0) 8 rfl Try.underlying31 info2 rfl (by decide) (by omega) u5 bA aA [.int .i64 aA] (fun _ => True) (fun _ => False) rfl (by first | (go_simp; done) | (go_simp; rfl)) ?aP (fun _ hk => hk.elim) ?aF ?aO ?aB ?aS ?aL ?_; (case aP => exact rfl); (case aB => exact (by repeat (first | (with_reducible first | exact HB.out | apply below_alloc | apply pw_below_drewN | apply below_drew1 | refine below_set ?_ oA.out | refine below_set ?_ rA.out | refine below_set ?_ EB.out) | exact HB.out))); (case aF => exact (fun _ _ => trivial)); (case aO => exact (by (with_reducible repeat (first | apply Kd.R_alloc | apply Kd.R_drewN | apply Kd.R_drew)); exact Kd.R_mono (Kd.R_far (p := ⟨hA, 2, none⟩) (Kd.R_far (p := ⟨hA, 1, none⟩) (Kd.R_far (p := ⟨hA, 0, none⟩) (Kd.R_types CA.out VA.out (by decide)) (fun _ hk => hk.2) (.int .i64 ((rd_T115 l0_1 aA).f0))) (fun _ hk => hk.2) (.int .i64 ((rd_T115 l0_1 aA).f1))) (fun _ hk => hk.2) (.bool false)) (fun _ hk => trivial))); (case aS => exact (below_size (by repeat (first | (with_reducible first | exact HB.out | apply below_alloc | apply pw_below_drewN | apply below_drew1 | refine below_set ?_ oA.out | refine below_set ?_ rA.out | refine below_set ?_ EB.out) | exact HB.out)))); (case aL => have := bE.out; omega); intro sG JG ho hb hg hat; rw [← XD.out] at ho; have dE := zQ (ho); replace iA := zQ (blk_grown (g := dD) (o := .cells #[.slice A0_0 l0_0.length c0_0, .slice (some HC) l0_1.length c0_1] 27 (0, 0)) (by refine zb ?_; refine blk_far ?_ fA.out _; refine zb ?_; refine blk_far ?_ fA.out _; refine zb ?_; refine blk_far ?_ fA.out _; refine zb ?_; exact iA.out) hg (Kd.R_ne CA.out iA.out (by decide))); replace lA := zQ (blk_grown (g := cD) (o := .cells #[.slice (some oB) l1_0.length c1_0, .int .i64 a1_1] 35 (0, 0)) (by refine zb ?_; refine blk_far ?_ eA.out _; refine zb ?_; refine blk_far ?_ eA.out _; refine zb ?_; refine blk_far ?_ eA.out _; refine zb ?_; exact lA.out) hg (Kd.R_ne CA.out lA.out (by decide))); replace VA := zQ (blk_grown (g := hA) (o := .cells #[.int .i64 ((rd_T115 l0_1 aA).f0), .int .i64 ((rd_T115 l0_1 aA).f1), .bool false] 115 (0, 0)) (by refine zb ?_; refine blk_put (cs := #[.int .i64 ((rd_T115 l0_1 aA).f0), .int .i64 ((rd_T115 l0_1 aA).f1), .bool false]) ?_ 2 _ rfl; refine zb ?_; refine blk_put (cs := #[.int .i64 ((rd_T115 l0_1 aA).f0), .int .i64 0, .bool false]) ?_ 1 _ rfl; refine zb ?_; refine blk_put (cs := #[.int .i64 0, .int .i64 0, .bool false]) ?_ 0 _ rfl; refine zb ?_; exact VA.out) hg (Kd.R_ne CA.out VA.out (by decide))); replace HB := zQ (hb); clear CA ho hb hg hat))
          go_roundg k1
          case measure => have := ZA.out; omega
          case rel => exact ⟨(FD), (wrap64 (aA + 1)), (zF), H', ⟨by have := ZA.out; omega⟩, ⟨zR dE.out⟩, ⟨zb iA.out⟩, ⟨zb lA.out⟩, ⟨by repeat (first | (with_reducible first | exact HB.out | apply below_alloc | apply pw_below_drewN | apply below_drew1 | refine below_set ?_ oA.out | refine below_set ?_ rA.out | refine below_set ?_ EB.out) | exact HB.out)⟩⟩
         ·rw [if_neg UC] at H
          exact absurd H (by simp)
        ·rw [if_neg EC] at H
         have eD := decide_eq_false EC; clear EC; have H' := zQ H; clear H; have wB : 0 ≤ (aA : Int) := zD; have tB : aA < (l0_1.length : Int) := zD; obtain ⟨HC, BC, EA, DA, pA⟩ := at_T115 iB.out aA wB tB
         (try rw [← Nbq12.out] at pA)
         cases BC
         replace EA := zw HB.out EA; replace DA := zw HB.out DA; replace pA := zw HB.out pA; replace wB := eq_true wB; replace tB := eq_true tB
         go_wp2_with (first | ((with_reducible refine zd 7 ?_); refine zbx (N := 7) (cs := #[.int .i64 0, .int .i64 0, .bool false]) (t := 115) ?_; intro hA hg IG LA hb; have VA := zQ (LA); have pB := zQ ((by rw [hg]; exact (below_size (zB3 HB.out oA.out rA.out)) : w.heap.size ≤ hA)); have EB := zQ ((by rw [hg]; exact (below_size (zB3 HB.out oA.out rA.out)) : w.heap.size ≤ hA)); have fA := zn1 hg iA.out; have NA := zn2 hg iA.out; have eA := zn1 hg lA.out; have MA := zn2 hg lA.out; replace CA := zRb CA.out hb; replace iA := zbl iA.out hb; replace lA := zbl lA.out hb; replace HB := zQ (below_step (zB3 HB.out oA.out rA.out) hb); clear hb LA hg; have cG := NA.out; have RF := fA.out; have bG := MA.out; have QF := eA.out; obtain ⟨XE, WE, VE, tE, sE, rE⟩ := zy3 VA.out; have aG := jB.out; have PF := kB.out; obtain ⟨UE, TE, qE, pE⟩ := zy2 lA.out; have YB : 0 ≤ (aA : Int) := zD; have VB : aA < (l1_0.length : Int) := zD; obtain ⟨oB, wD, cA⟩ := Kd.at_int TB.out aA YB VB; cases wD; have vA : oB.block ≠ hA := Nat.ne_of_lt (Nat.lt_of_lt_of_le (by have := World.block_lt_of_cell? _ _ cA; first | rwa [add_block] at this | exact this) pB.out); have uA : oB.block ≠ hA := Nat.ne_of_lt (Nat.lt_of_lt_of_le (by have := World.block_lt_of_cell? _ _ cA; first | rwa [add_block] at this | exact this) pB.out); have tA : oB.block ≠ hA := Nat.ne_of_lt (Nat.lt_of_lt_of_le (by have := World.block_lt_of_cell? _ _ cA; first | rwa [add_block] at this | exact this) pB.out); replace cA := zw HB.out cA; replace cA := (cell_far (p := ⟨hA, 0, none⟩) (by first | (rw [add_block]; exact vA) | (show (Addr.add _ _).block ≠ _; rw [add_block]; exact vA) | exact vA) (.int .i64 ((rd_T115 l0_1 aA).f0))).trans cA; replace cA := (cell_far (p := ⟨hA, 1, none⟩) (by first | (rw [add_block]; exact uA) | (show (Addr.add _ _).block ≠ _; rw [add_block]; exact uA) | exact uA) (.int .i64 ((rd_T115 l0_1 aA).f1))).trans cA; replace cA := (cell_far (p := ⟨hA, 2, none⟩) (by first | (rw [add_block]; exact tA) | (show (Addr.add _ _).block ≠ _; rw [add_block]; exact tA) | exact tA) (.bool false)).trans cA; clear vA; clear uA; clear tA; replace YB := eq_true YB; replace VB := eq_true VB))
         go_roundg k1
         case measure => have := ZA.out; omega
         case rel => exact ⟨(bA), (wrap64 (aA + 1)), (zF), H', ⟨by have := ZA.out; omega⟩, ⟨by (with_reducible repeat (first | apply Kd.R_alloc | apply Kd.R_drewN | apply Kd.R_drew)); exact Kd.R_mono (Kd.R_far (p := ⟨hA, 2, none⟩) (Kd.R_far (p := ⟨hA, 1, none⟩) (Kd.R_far (p := ⟨hA, 0, none⟩) (Kd.R_types CA.out VA.out (by decide)) (fun _ hk => hk.2) (.int .i64 ((rd_T115 l0_1 aA).f0))) (fun _ hk => hk.2) (.int .i64 ((rd_T115 l0_1 aA).f1))) (fun _ hk => hk.2) (.bool false)) (fun _ hk => trivial)⟩, ⟨by refine zb ?_; refine blk_far ?_ fA.out _; refine zb ?_; refine blk_far ?_ fA.out _; refine zb ?_; refine blk_far ?_ fA.out _; refine zb ?_; exact iA.out⟩, ⟨by refine zb ?_; refine blk_far ?_ eA.out _; refine zb ?_; refine blk_far ?_ eA.out _; refine zb ?_; refine blk_far ?_ eA.out _; refine zb ?_; exact lA.out⟩, ⟨by repeat (first | (with_reducible first | exact HB.out | apply below_alloc | apply pw_below_drewN | apply below_drew1 | refine below_set ?_ oA.out | refine below_set ?_ rA.out | refine below_set ?_ EB.out) | exact HB.out)⟩⟩
       ·rw [if_neg FC] at H
        exact absurd H (by simp)
     ·rw [if_neg GB] at H
      exact absurd H (by simp)
    ·rw [if_neg DB] at H
     exact absurd H (by simp)
   ·rw [if_neg c9] at H
    have HF := decide_eq_false c9; clear c9; obtain rfl := Option.some.inj H
    go_wp2
    go_ret
    exact ⟨_, zE, zR CA.out, zB3 HB.out oA.out rA.out⟩

end
end Go.Proofs.Ytimjblgepbhoaaa.PStays

