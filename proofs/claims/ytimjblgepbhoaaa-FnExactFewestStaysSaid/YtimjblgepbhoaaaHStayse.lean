import Derived.Test.YtimjblgepbhoaaaHStays0
import Derived.Test.YtimjblgepbhoaaaHStaysa
import Derived.Test.YtimjblgepbhoaaaHStaysb
import Derived.Test.YtimjblgepbhoaaaHStaysc
import Derived.Test.YtimjblgepbhoaaaHStaysd
import Derived.Test.YtimjblgepbhoaaaHStaysl
import Derived.Test.YtimjblgepbhoaaaHStaysm
namespace Go.Proofs.Ytimjblgepbhoaaa.PStays
noncomputable section
open Go.RowKit Go.Proofs.YtimjblgepbhoaaaW.PrintWords Go.Proofs.YtimjblgepbhoaaaW.PrintLast Go.Proofs.YtimjblgepbhoaaaW.PrintMore
attribute [local go_sem] max2_int min2_int max_two min_two max_three min_three max_four min_four   -- for this text's walks alone
set_option linter.unusedVariables false
set_option linter.unusedSimpArgs false
set_option maxHeartbeats 8000000
set_option maxRecDepth 100000

def laws_szPullSS.l0 : Nat → List (List (S122)) → Int → Int → Option (Int)
 | 0, _, _, _ => none
 | k + 1, x0, x1, x5 => if x5 < (x0.length : Int) then (if 0 ≤ x5 then ((laws_szPullS.f (rd_L7 x0 x5) x1).bind fun WA => (if WA < 0 then (some (-1)) else (laws_szPullSS.l0 k x0 WA (wrap64 (x5 + 1))))) else (none)) else (some x1)
def laws_szPullSS.f (k : Nat) (l0 : List (List (S122))) (a1 : Int) : Option (Int) := if (wrap64 (a1 - (l0.length : Int))) < 0 then (some (-1)) else (laws_szPullSS.l0 k l0 (wrap64 (a1 - (l0.length : Int))) 0)
theorem laws_szPullSS.calls (k : Nat) (A0 : Option Addr) (c0 : Nat) (l0 : List (List (S122))) (a1 : Int) (r : Int) (w : World) (IB : Kd.C (Kd.slice 122 k122) w A0 l0.length l0) (OB : l0.length ≤ c0) (h : laws_szPullSS.f k l0 a1 = some r) :
  Calls Try.prog 46 #[.slice A0 l0.length c0, .int .i64 a1] w fun e w' => e = .returned (.int .i64 r) ∧ Drawn0 w w' := by
 have qC := zQ IB
 have FD := zQ OB
 clear IB OB
 have H := h; unfold laws_szPullSS.f at H
 clear h
 by_cases c3 : (wrap64 (a1 - (l0.length : Int))) < 0
 ·rw [if_pos c3] at H
  have hB := decide_eq_true c3; clear c3; obtain rfl := Option.some.inj H
  go_enter Try.func46, Try.ntmps46
  go_wp2
  go_ret
  exact ⟨zF, by repeat (first | exact Drawn0.refl _ | apply Drawn0.step)⟩
 ·rw [if_neg c3] at H
  have hB := decide_eq_false c3; clear c3; have H' := zQ H; clear H
  go_enter Try.func46, Try.ntmps46
  go_wp2
  go_loopg [1, 5] k (fun kq v1 v5 w' => ∃ (VA : Int) (aA : Int), v1 = .int .i64 VA ∧ v5 = .int .i64 aA ∧ Aside0 (laws_szPullSS.l0 kq l0 VA aA = some r) ∧ Aside0 (kq ≤ k) ∧ Drawn0 w w')
  case atStart => exact ⟨(wrap64 (a1 - (l0.length : Int))), (0), (zF), (zF), H', ⟨Nat.le_refl _⟩, by repeat (first | exact Drawn0.refl _ | apply Drawn0.step)⟩
  case round =>
   clear H'; (try clear p2); (try clear c3); (try clear hB); obtain ⟨VA, aA, rfl, rfl, HA, lB, ⟨m1, rfl⟩⟩ := hrel
   cases gk with
   | zero => exact absurd HA.out (by simp [laws_szPullSS.l0])
   | succ k1 =>
    have H := HA.out; clear HA
    simp only [laws_szPullSS.l0] at H
    by_cases c4 : aA < (l0.length : Int)
    ·rw [if_pos c4] at H
     have pC := decide_eq_true c4; clear c4
     by_cases c5 : 0 ≤ aA
     ·rw [if_pos c5] at H
      have wD := decide_eq_true c5; clear c5; replace H := zob H; obtain ⟨WA, A6, H⟩ := H
      by_cases c7 : WA < 0
      ·rw [if_pos c7] at H
       have yB := decide_eq_true c7; clear c7; obtain rfl := Option.some.inj H; have gB : 0 ≤ (aA : Int) := zD; have bB : aA < (l0.length : Int) := zD; obtain ⟨OC, A156_0, c156_0, oC, xB, vA, AA⟩ := at_L7 qC.out aA gB bB
       cases oC
       have LA := zQ AA; have QA := zQ vA; clear AA vA; replace gB := eq_true gB; replace bB := eq_true bB
       go_wp2_with (first | ((with_reducible refine zgc 35 ?_); refine zgo (some 23) Try.func35 #[.slice A156_0 (rd_L7 l0 aA).length c156_0, .int .i64 VA] ?_; (with_reducible refine (laws_szPullS.calls _ _ (rd_L7 l0 aA) VA WA _ ?side1 QA.out A6.out).mono ?_); (case side1 => repeat (first | exact LA.out | (with_reducible refine Kd.C_alloc ?_ _) | (with_reducible refine Kd.C_drewN ?_ _) | (with_reducible refine Kd.C_drew ?_))); rintro e w' ⟨rfl, ⟨nd, rfl⟩⟩; refine ⟨_, rfl, ?_⟩))
       go_ret
       exact ⟨zF, by repeat (first | exact Drawn0.refl _ | apply Drawn0.step)⟩
      ·rw [if_neg c7] at H
       have yB := decide_eq_false c7; clear c7; have H' := zQ H; clear H; have gB : 0 ≤ (aA : Int) := zD; have bB : aA < (l0.length : Int) := zD; obtain ⟨OC, A156_0, c156_0, oC, xB, vA, AA⟩ := at_L7 qC.out aA gB bB
       cases oC
       have LA := zQ AA; have QA := zQ vA; clear AA vA; replace gB := eq_true gB; replace bB := eq_true bB
       go_wp2_with (first | ((with_reducible refine zgc 35 ?_); refine zgo (some 23) Try.func35 #[.slice A156_0 (rd_L7 l0 aA).length c156_0, .int .i64 VA] ?_; (with_reducible refine (laws_szPullS.calls _ _ (rd_L7 l0 aA) VA WA _ ?side1 QA.out A6.out).mono ?_); (case side1 => repeat (first | exact LA.out | (with_reducible refine Kd.C_alloc ?_ _) | (with_reducible refine Kd.C_drewN ?_ _) | (with_reducible refine Kd.C_drew ?_))); rintro e w' ⟨rfl, ⟨nd, rfl⟩⟩; refine ⟨_, rfl, ?_⟩))
       go_roundg k1
       case measure => have := lB.out; omega
       case rel => exact ⟨(WA), (wrap64 (aA + 1)), (zF), (zF), H', ⟨by have := lB.out; omega⟩, by repeat (first | exact Drawn0.refl _ | apply Drawn0.step)⟩
     ·rw [if_neg c5] at H
      exact absurd H (by simp)
    ·rw [if_neg c4] at H
     have pC := decide_eq_false c4; clear c4; obtain rfl := Option.some.inj H
     go_wp2
     go_ret
     exact ⟨zF, by repeat (first | exact Drawn0.refl _ | apply Drawn0.step)⟩

def spec_l11Winds.l0 : Nat → List (List (S113)) → List Int → Int → List (S164) → List (S115) → Option (Int)
 | 0, _, _, _, _, _ => none
 | k + 1, x1, x2, x7, oB, nB => if x7 < (x1.length : Int) then (if 0 ≤ x7 then ((spec_l09Loads.f k oB nB (rd_L9 x1 x7)).bind fun YB => (if YB = true then (spec_l11Winds.l0 k x1 x2 (wrap64 (x7 + 1)) oB nB) else (some 1))) else (none)) else (if (x1.length : Int) > 4 then (some 2) else ((spec_l09Some.f k oB nB x2).bind fun XB => (if XB = true then (some 0) else (some 2))))
def spec_l11Winds.f (k : Nat) (l0_0 : List (S164)) (l0_1 : List (S115)) (l1 : List (List (S113))) (l2 : List Int) : Option (Int) := (spec_l09Ok.f k l0_0 l0_1).bind fun ZB => (if ZB = true then (spec_l11Winds.l0 k l1 l2 0 l0_0 l0_1) else (some 1))
theorem spec_l11Winds.calls (k : Nat) (g0 : Nat) (A0_0 : Option Addr) (c0_0 : Nat) (l0_0 : List (S164)) (A0_1 : Option Addr) (c0_1 : Nat) (l0_1 : List (S115)) (A1 : Option Addr) (c1 : Nat) (l1 : List (List (S113))) (A2 : Option Addr) (c2 : Nat) (l2 : List Int) (r : Int) (w : World) (AC : w.heap[g0]? = some (.cells #[.slice A0_0 l0_0.length c0_0, .slice A0_1 l0_1.length c0_1] 27 (0, 0))) (SA : Kd.C k164 w A0_0 l0_0.length l0_0) (UA : l0_0.length ≤ c0_0) (RA : Kd.C k115 w A0_1 l0_1.length l0_1) (TA : l0_1.length ≤ c0_1) (GB : Kd.C (Kd.slice 113 k113) w A1 l1.length l1) (NB : l1.length ≤ c1) (uC : Kd.C (Kd.int .i64) w A2 l2.length l2) (yC : l2.length ≤ c2) (h : spec_l11Winds.f k l0_0 l0_1 l1 l2 = some r) :
  Calls Try.prog 105 #[.pointer (some ⟨g0, 0, none⟩), .slice A1 l1.length c1, .slice A2 l2.length c2] w fun e w' => e = .returned (.int .i64 r) ∧ Below w.heap.size w w' := by
 have kA := zQ SA
 have mA := zQ UA
 clear SA UA
 have jA := zQ RA
 have lA := zQ TA
 clear RA TA
 have RB := zQ GB
 have ED := zQ NB
 clear GB NB
 have QC := zQ uC
 have SC := zQ yC
 clear uC yC
 have FA := zQ AC
 clear AC
 have HB := zQ (Below.refl w.heap.size w)
 have H := h; unfold spec_l11Winds.f at H
 clear h
 replace H := zob H; obtain ⟨ZB, A4, H⟩ := H
 by_cases c5 : ZB = true
 ·subst c5
  rw [if_pos rfl] at H; have H' := zQ H; clear H
  go_enter Try.func105, Try.ntmps105
  go_wp2_with (first | ((with_reducible refine zgc 117 ?_); refine zgo (some 9) Try.func117 #[.pointer (some ⟨g0, 0, none⟩)] ?_; (with_reducible refine (spec_l09Ok.calls k g0 A0_0 c0_0 l0_0 A0_1 c0_1 l0_1 true _ (zb FA.out) ?side2 mA.out ?side4 lA.out A4.out).mono ?_); (case side2 => repeat (first | exact kA.out | (with_reducible refine Kd.C_alloc ?_ _) | (with_reducible refine Kd.C_drewN ?_ _) | (with_reducible refine Kd.C_drew ?_))); (case side4 => repeat (first | exact jA.out | (with_reducible refine Kd.C_alloc ?_ _) | (with_reducible refine Kd.C_drewN ?_ _) | (with_reducible refine Kd.C_drew ?_))); rintro e w6 ⟨rfl, hb⟩; refine ⟨_, rfl, ?_⟩; replace FA := zbl FA.out hb; replace HB := zbs HB.out hb; (try clear hb)))
  go_loopg [7] k (fun kq v7 w' => ∃ (nA : Int), v7 = .int .i64 nA ∧ Aside0 (spec_l11Winds.l0 kq l1 l2 nA l0_0 l0_1 = some r) ∧ Aside0 (kq ≤ k) ∧ Aside0 (w'.heap[g0]? = some (.cells #[(.slice A0_0 l0_0.length c0_0), (.slice A0_1 l0_1.length c0_1)] 27 (0, 0))) ∧ Aside0 (Below w.heap.size w w'))
  case atStart => exact ⟨(0), (zF), H', ⟨Nat.le_refl _⟩, ⟨zb FA.out⟩, ⟨zB HB.out⟩⟩
  case round =>
   clear H'; (try clear c1); (try clear c2); (try clear p2); (try clear c5); obtain ⟨nA, rfl, HA, lB, FA, HB⟩ := hrel
   cases gk with
   | zero => exact absurd HA.out (by simp [spec_l11Winds.l0])
   | succ k1 =>
    have H := HA.out; clear HA
    simp only [spec_l11Winds.l0] at H
    by_cases c7 : nA < (l1.length : Int)
    ·rw [if_pos c7] at H
     have yB := decide_eq_true c7; clear c7
     by_cases c8 : 0 ≤ nA
     ·rw [if_pos c8] at H
      have ND := decide_eq_true c8; clear c8; replace H := zob H; obtain ⟨YB, A9, H⟩ := H
      by_cases BB : YB = true
      ·subst BB
       rw [if_pos rfl] at H; have H' := zQ H; clear H; have fB : 0 ≤ (nA : Int) := zD; have aB : nA < (l1.length : Int) := zD; obtain ⟨NC, A168_0, c168_0, nC, qA, uA, zA⟩ := at_L9 RB.out nA fB aB
       cases nC
       replace qA := zw HB.out qA; have KA := zQ zA; have PA := zQ uA; clear zA uA; replace fB := eq_true fB; replace aB := eq_true aB
       go_wp2_with (first | ((with_reducible refine zgc 118 ?_); refine zgo (some 22) Try.func118 #[.pointer (some ⟨g0, 0, none⟩), .slice A168_0 (rd_L9 l1 nA).length c168_0] ?_; (with_reducible refine (spec_l09Loads.calls k1 g0 A0_0 c0_0 l0_0 A0_1 c0_1 l0_1 _ _ (rd_L9 l1 nA) true _ (zb FA.out) (zC kA.out HB.out) mA.out (zC jA.out HB.out) lA.out (zC KA.out HB.out) PA.out A9.out).mono ?_); rintro e tC ⟨rfl, hb⟩; refine ⟨_, rfl, ?_⟩; replace FA := zbl FA.out hb; replace HB := zbs HB.out hb; (try clear hb)))
       go_roundg k1
       case measure => have := lB.out; omega
       case rel => exact ⟨(wrap64 (nA + 1)), (zF), H', ⟨by have := lB.out; omega⟩, ⟨zb FA.out⟩, ⟨zB HB.out⟩⟩
      ·replace BB := Bool.eq_false_iff.mpr BB
       subst BB
       rw [if_neg Bool.false_ne_true] at H; obtain rfl := Option.some.inj H; have fB : 0 ≤ (nA : Int) := zD; have aB : nA < (l1.length : Int) := zD; obtain ⟨NC, A168_0, c168_0, nC, qA, uA, zA⟩ := at_L9 RB.out nA fB aB
       cases nC
       replace qA := zw HB.out qA; have KA := zQ zA; have PA := zQ uA; clear zA uA; replace fB := eq_true fB; replace aB := eq_true aB
       go_wp2_with (first | ((with_reducible refine zgc 118 ?_); refine zgo (some 22) Try.func118 #[.pointer (some ⟨g0, 0, none⟩), .slice A168_0 (rd_L9 l1 nA).length c168_0] ?_; (with_reducible refine (spec_l09Loads.calls k1 g0 A0_0 c0_0 l0_0 A0_1 c0_1 l0_1 _ _ (rd_L9 l1 nA) false _ (zb FA.out) (zC kA.out HB.out) mA.out (zC jA.out HB.out) lA.out (zC KA.out HB.out) PA.out A9.out).mono ?_); rintro e KD ⟨rfl, hb⟩; refine ⟨_, rfl, ?_⟩; replace FA := zbl FA.out hb; replace HB := zbs HB.out hb; (try clear hb)))
       go_ret
       exact ⟨zE, zB HB.out⟩
     ·rw [if_neg c8] at H
      exact absurd H (by simp)
    ·rw [if_neg c7] at H
     have yB := decide_eq_false c7; clear c7
     by_cases rB : (l1.length : Int) > 4
     ·rw [if_pos rB] at H
      have LC := decide_eq_true rB; have KC : decide (4 < l1.length) = true := decide_eq_true (by omega); clear rB; obtain rfl := Option.some.inj H
      go_wp2
      go_ret
      exact ⟨zE, zB HB.out⟩
     ·rw [if_neg rB] at H
      have LC := decide_eq_false rB; have KC : decide (4 < l1.length) = false := decide_eq_false (by omega); clear rB; replace H := zob H; obtain ⟨XB, HD, H⟩ := H
      by_cases pD : XB = true
      ·subst pD
       rw [if_pos rfl] at H; obtain rfl := Option.some.inj H
       go_wp2_with (first | (go_at_call 119; (with_reducible refine (spec_l09Some.calls k1 g0 A0_0 c0_0 l0_0 A0_1 c0_1 l0_1 _ _ l2 true _ (zb FA.out) (zC kA.out HB.out) mA.out (zC jA.out HB.out) lA.out (zC QC.out HB.out) SC.out HD.out).mono ?_); rintro e TD ⟨rfl, hb⟩; replace FA := zbl FA.out hb; replace HB := zbs HB.out hb; (try clear hb); (try clear BC); (try clear hk); (try clear hi)))
       go_ret
       exact ⟨zE, zB HB.out⟩
      ·replace pD := Bool.eq_false_iff.mpr pD
       subst pD
       rw [if_neg Bool.false_ne_true] at H; obtain rfl := Option.some.inj H
       go_wp2_with (first | (go_at_call 119; (with_reducible refine (spec_l09Some.calls k1 g0 A0_0 c0_0 l0_0 A0_1 c0_1 l0_1 _ _ l2 false _ (zb FA.out) (zC kA.out HB.out) mA.out (zC jA.out HB.out) lA.out (zC QC.out HB.out) SC.out HD.out).mono ?_); rintro e JD ⟨rfl, hb⟩; replace FA := zbl FA.out hb; replace HB := zbs HB.out hb; (try clear hb); (try clear BC); (try clear hk); (try clear hi)))
       go_ret
       exact ⟨zE, zB HB.out⟩
 ·replace c5 := Bool.eq_false_iff.mpr c5
  subst c5
  rw [if_neg Bool.false_ne_true] at H; obtain rfl := Option.some.inj H
  go_enter Try.func105, Try.ntmps105
  go_wp2_with (first | ((with_reducible refine zgc 117 ?_); refine zgo (some 9) Try.func117 #[.pointer (some ⟨g0, 0, none⟩)] ?_; (with_reducible refine (spec_l09Ok.calls k g0 A0_0 c0_0 l0_0 A0_1 c0_1 l0_1 false _ (zb FA.out) ?side2 mA.out ?side4 lA.out A4.out).mono ?_); (case side2 => repeat (first | exact kA.out | (with_reducible refine Kd.C_alloc ?_ _) | (with_reducible refine Kd.C_drewN ?_ _) | (with_reducible refine Kd.C_drew ?_))); (case side4 => repeat (first | exact jA.out | (with_reducible refine Kd.C_alloc ?_ _) | (with_reducible refine Kd.C_drewN ?_ _) | (with_reducible refine Kd.C_drew ?_))); rintro e SD ⟨rfl, hb⟩; refine ⟨_, rfl, ?_⟩; replace FA := zbl FA.out hb; replace HB := zbs HB.out hb; (try clear hb)))
  go_ret
  exact ⟨zE, zB HB.out⟩

def laws_toPullSS.l0 : Nat → List (List (S122)) → List (List (S113)) → Int → Option ((List (List (S113))))
 | 0, _, _, _ => none
 | k + 1, x0, x3, x4 => if x4 < (x0.length : Int) then (if 0 ≤ x4 then ((laws_toPullS.f k (rd_L7 x0 x4)).bind fun pB => (if x4 < (x3.length : Int) then (laws_toPullSS.l0 k x0 (x3.set (x4 : Int).toNat pB) (wrap64 (x4 + 1))) else (none))) else (none)) else (some x3)
def laws_toPullSS.f (k : Nat) (l0 : List (List (S122))) : Option ((List (List (S113)))) := if 0 ≤ (l0.length : Int) then (if ((l0.length : Int) : Int).toNat ≤ 11728124029610 then (laws_toPullSS.l0 k l0 (List.replicate ((l0.length : Int) : Int).toNat []) 0) else (none)) else (none)
theorem laws_toPullSS.calls (k : Nat) (A0 : Option Addr) (c0 : Nat) (l0 : List (List (S122))) (r : List (List (S113))) (w : World) (IB : Kd.C (Kd.slice 122 k122) w A0 l0.length l0) (OB : l0.length ≤ c0) (h : laws_toPullSS.f k l0 = some r) :
  Calls Try.prog 48 #[.slice A0 l0.length c0] w fun e w' => ∃ v0_ : Value, e = .returned (v0_) ∧ Kd.S (Kd.slice 113 k113) 28 w' w.heap.size (fun _ => True) v0_ r ∧ Below w.heap.size w w' := by
 have qC := zQ IB
 have FD := zQ OB
 clear IB OB
 have HB := zQ (Below.refl w.heap.size w)
 have H := h; unfold laws_toPullSS.f at H
 clear h
 by_cases c2 : 0 ≤ (l0.length : Int)
 ·rw [if_pos c2] at H
  have yD := eq_true c2; have xD := decide_eq_true c2; clear c2
  by_cases c3 : ((l0.length : Int) : Int).toNat ≤ 11728124029610
  ·rw [if_pos c3] at H
   have hB := eq_true c3; have AB := decide_eq_true c3; clear c3; obtain ⟨sC, FB⟩ : ∃ y_ : List (List (S113)), y_ = (List.replicate ((l0.length : Int) : Int).toNat []) := ⟨_, rfl⟩; replace H : (laws_toPullSS.l0 k l0 sC 0) = some r := zh H; have QB := zQ FB; clear FB; have H' := zQ H; clear H
   go_enter Try.func48, Try.ntmps48
   go_wp2_with (first | ((with_reducible refine zd 7 ?_); refine Kd.S_make (Kd.slice 113 k113) _ 28 rfl (N := 7) rfl 71 _ _ rfl (l0.length : Int) rfl rfl Try.underlying71 (.slice none 0 0) 24 info28 rfl (by decide) (by omega) [] (ok := fun _ => True) (okp := fun _ => True) ⟨_, rfl, Kd.R_nil _ _ _ _ _⟩ (fun _ hk => hk) trivial (zD) (Nat.le_trans (Nat.mul_le_mul_right _ (zD : (l0.length : Int).toNat ≤ 11728124029610)) (by omega)) (Below.refl _ _) (Nat.le_refl _) ?_; intro sD w4 vC hb hg_ hnew_; clear hg_ hnew_; (first | rw [← QB.out] at vC | (simp only [Int.reduceToNat] at vC; rw [← QB.out] at vC)); have RC := zQ (Kd.S_lower vC (below_size (zB HB.out))); replace HB := zbs HB.out hb; clear hb vC))
   go_loopg [4] k (fun kq v4 w' => ∃ (EA : List (List (S113))) (iA : Int), v4 = .int .i64 iA ∧ Aside0 (laws_toPullSS.l0 kq l0 EA iA = some r) ∧ Aside0 (kq ≤ k) ∧ Aside0 (Kd.S (Kd.slice 113 k113) 28 w' w.heap.size (fun _ => True) sD EA) ∧ Aside0 (Below w.heap.size w w'))
   case atStart => exact ⟨(sC), (0), (zF), H', ⟨Nat.le_refl _⟩, ⟨zS RC.out⟩, ⟨zB HB.out⟩⟩
   case round =>
    clear H'; (try clear c2); (try clear yD); (try clear xD); (try clear p2); (try clear c3); (try clear hB); (try clear AB); (try clear c4); obtain ⟨EA, iA, rfl, HA, lB, oA, HB⟩ := hrel
    cases gk with
    | zero => exact absurd HA.out (by simp [laws_toPullSS.l0])
    | succ k1 =>
     have H := HA.out; clear HA
     simp only [laws_toPullSS.l0] at H
     by_cases c6 : iA < (l0.length : Int)
     ·rw [if_pos c6] at H
      have GC := decide_eq_true c6; clear c6
      by_cases c7 : 0 ≤ iA
      ·rw [if_pos c7] at H
       have yB := decide_eq_true c7; clear c7; replace H := zob H; obtain ⟨pB, A8, H⟩ := H
       by_cases c9 : iA < (EA.length : Int)
       ·rw [if_pos c9] at H
        have FC := decide_eq_true c9; clear c9; obtain ⟨SB, EB⟩ : ∃ y_ : List (List (S113)), y_ = (EA.set (iA : Int).toNat pB) := ⟨_, rfl⟩; replace H : (laws_toPullSS.l0 k1 l0 SB (wrap64 (iA + 1))) = some r := zh H; have PC := zQ EB; clear EB; have H' := zQ H; clear H; have bC : 0 ≤ (iA : Int) := zD; have aC : iA < (l0.length : Int) := zD; obtain ⟨DD, A226_0, c226_0, vD, iB, jB, kB⟩ := at_L7 qC.out iA bC aC
        cases vD
        replace iB := zw HB.out iB; have CB := zQ kB; have DB := zQ jB; clear kB jB; replace bC := eq_true bC; replace aC := eq_true aC
        go_wp2_with (first | ((with_reducible refine zgc 37 ?_); refine zgo (some 20) Try.func37 #[.slice A226_0 (rd_L7 l0 iA).length c226_0] ?_; (with_reducible refine (laws_toPullS.calls k1 _ _ (rd_L7 l0 iA) pB _ (zC CB.out HB.out) DB.out A8.out).mono ?_); rintro e tC ⟨wB, rfl, TC, hb⟩; (try have ev228 := Kd.R_slice TC); refine ⟨_, rfl, ?_⟩; have uB := zQ (Kd.R_lower TC (below_size (zB HB.out))); replace oA := zQ (Kd.S_elder' (zS oA.out) (Kd.R_base TC) hb); replace HB := zbs HB.out hb; (try clear hb); (try clear TC); have uD : 0 ≤ (iA : Int) := zD; have tD : (iA : Int) < ((EA.length : Int) : Int) := zD; obtain ⟨mB, EC, DC, CC, gl10, cl10, HG10⟩ := Kd.S_form oA.out (by omega); (first | cases DC | (injection DC with ea_ en_ ec_; (first | subst ea_ | (injection ea_ with ea_; subst ea_)); subst ec_; clear en_)); have GB10 := zQ CC; have GG10 := zQ HG10; clear CC gl10 HG10; obtain ⟨_, ce10, xC, hM10, MB, KB, _, _⟩ := Kd.S_elem oA.out [] (iA : Int) uD tD; obtain ⟨ve10_0, rfl, ge10_0⟩ := hM10; have dC := MB 0 _ rfl; have hC := KB 0; (try simp only [show ((Kd.slice 113 k113)).sz = 1 from rfl, Nat.mul_one, Nat.add_zero] at dC); (try simp only [show ((Kd.slice 113 k113)).sz = 1 from rfl, Nat.mul_one, Nat.add_zero] at hC); (try clear hM10); clear xC MB KB; replace uD := eq_true uD; replace tD := eq_true tD; have n_ := zQ (Kd.S_mono (ok' := (fun k_ => some k_ ≠ (wB : Value).ownBlock)) oA.out (fun k_ hk => hk.2)); clear oA; have oA := n_; clear n_; have AD := zQ (show Kd.S (Kd.slice 113 k113) 28 tC w.heap.size (fun k_ => ((fun _ => True)) k_ ∧ ¬ ((fun k_ => some k_ = (wB : Value).ownBlock)) k_) (.slice (some ⟨mB, 0, none⟩) EA.length EC) EA from (by (with_reducible repeat (first | apply Kd.S_alloc | apply Kd.S_drewN | apply Kd.S_drew)); exact Kd.S_mono oA.out (fun k_ hk => ⟨trivial, fun e_ => hk e_⟩))); obtain ⟨oki12, ce12, wC, hM12, LB, JB, hoki12, hH12⟩ := Kd.S_elem AD.out [] (iA : Int) (zD) (by have h_ : (iA : Int) < ((EA.length : Int) : Int) := zD; first | exact h_ | (have e_ := (Kd.S_reads' oA.out).1; omega) | simpa using h_); obtain ⟨ve12_0, rfl, ge12_0⟩ := hM12; have HP12 := Kd.S_seg hH12 (zD) (by have h_ : (iA : Int) < ((EA.length : Int) : Int) := zD; first | exact h_ | (have e_ := (Kd.S_reads' oA.out).1; omega) | simpa using h_) (seg := [wB]) (j := 0) (show 1 ≤ 1 from by decide) (x' := pB) (Kd.M_row (Kd.R_mono (Kd.R_tight rfl (Kd.R_mono (ok' := fun k_ => ((fun _ => True)) k_ ∧ k_ ≠ mB) (Kd.R_apart' (uB.out) (Kd.S_typed oA.out) (by decide)) (fun k_ hk => ⟨trivial, fun e_ => (hk.2) (by rw [e_]; rfl)⟩))) (fun _ h_ => Or.inr (h_)))) (fun _ hk => hk) (fun k_ hk_ => ((Kd.R_mono (ok' := fun k_ => ((fun _ => True)) k_ ∧ k_ ≠ mB) (Kd.R_apart' (uB.out) (Kd.S_typed oA.out) (by decide)) (fun k_ hk => ⟨trivial, fun e_ => (hk.2) (by rw [e_]; rfl)⟩))).1 k_ hk_.symm); have cC := LB 0 _ rfl; (try simp only [show ((Kd.slice 113 k113)).sz = 1 from rfl, Nat.mul_one, Nat.add_zero] at cC); have gC := JB 0; (try simp only [show ((Kd.slice 113 k113)).sz = 1 from rfl, Nat.mul_one, Nat.add_zero] at gC); (try clear hM12); clear wC LB JB hoki12 hH12; (try simp only [show ((Kd.slice 113 k113)).sz = 1 from rfl, Nat.mul_one, Nat.add_zero] at HP12)) | ((with_reducible refine gate_store (t := 28) (p := 21) rfl ?_); refine store_event (t := 28) (p := 21) (v := ?vo_w13) (w1 := (tC.setCell ⟨mB, (iA : Int).toNat, none⟩ (wB))) ?hg ?ho ?hn ?hr ?_; (case ho => rfl); (case hg => rfl); (case hn => rfl); (case hr => first | (go_simp; done) | (go_simp; rfl) | (obtain ⟨_, _, rfl⟩ := ev228; go_simp; done) | (obtain ⟨_, _, rfl⟩ := ev228; go_simp; rfl)); intro rD hw; have hg : tC.grownBy rD (some mB) := (by rw [hw]; exact HP12.2); have hp_ : Kd.S (Kd.slice 113 k113) 28 rD w.heap.size (fun _ => True) (.slice (some ⟨mB, 0, none⟩) EA.length EC) SB := (by rw [hw, PC.out]; exact HP12.1); clear HP12; replace oA := zQ (hp_); replace HB := zQ ((by rw [hw]; exact below_set (HB.out) GB10.out : Below w.heap.size w rD)); clear uB hg hw hp_))
        go_roundg k1
        case measure => have := lB.out; omega
        case rel => exact ⟨(SB), (wrap64 (iA + 1)), (zF), H', ⟨by have := lB.out; omega⟩, ⟨zS oA.out⟩, ⟨zB HB.out⟩⟩
       ·rw [if_neg c9] at H
        exact absurd H (by simp)
      ·rw [if_neg c7] at H
       exact absurd H (by simp)
     ·rw [if_neg c6] at H
      have GC := decide_eq_false c6; clear c6; obtain rfl := Option.some.inj H
      go_wp2
      go_ret
      exact ⟨_, zE, zS oA.out, zB HB.out⟩
  ·rw [if_neg c3] at H
   exact absurd H (by simp)
 ·rw [if_neg c2] at H
  exact absurd H (by simp)

def impl_windsCode.l0 : Nat → List (List (S113)) → List Int → List (List (S113)) → Int → Int → List (S164) → List (S115) → Option (Int)
 | 0, _, _, _, _, _, _, _ => none
 | k + 1, x1, x2, x12, x13, x14, IA, GA => if x14 < x13 then (if 0 ≤ x14 then (if x14 < (x12.length : Int) then ((impl_ValidLoads.f k IA GA (rd_L9 x12 x14)).bind fun VB => (if VB = true then (impl_windsCode.l0 k x1 x2 x12 x13 (wrap64 (x14 + 1)) IA GA) else (some 1))) else (none)) else (none)) else (if (x1.length : Int) > 4 then (some 2) else ((impl_areBars.f k IA GA x2).bind fun UB => (if UB = true then (some 0) else (some 2))))
def impl_windsCode.f (k : Nat) (l0_0 : List (S164)) (l0_1 : List (S115)) (l1 : List (List (S113))) (l2 : List Int) : Option (Int) := (impl_ValidFrame.f k l0_0 l0_1).bind fun WB => (if WB = true then (impl_windsCode.l0 k l1 l2 l1 (l1.length : Int) 0 l0_0 l0_1) else (some 1))
theorem impl_windsCode.calls (k : Nat) (A0_0 : Option Addr) (c0_0 : Nat) (l0_0 : List (S164)) (A0_1 : Option Addr) (c0_1 : Nat) (l0_1 : List (S115)) (A1 : Option Addr) (c1 : Nat) (l1 : List (List (S113))) (A2 : Option Addr) (c2 : Nat) (l2 : List Int) (r : Int) (w : World) (SA : Kd.C k164 w A0_0 l0_0.length l0_0) (UA : l0_0.length ≤ c0_0) (RA : Kd.C k115 w A0_1 l0_1.length l0_1) (TA : l0_1.length ≤ c0_1) (GB : Kd.C (Kd.slice 113 k113) w A1 l1.length l1) (NB : l1.length ≤ c1) (uC : Kd.C (Kd.int .i64) w A2 l2.length l2) (yC : l2.length ≤ c2) (h : impl_windsCode.f k l0_0 l0_1 l1 l2 = some r) :
  Calls Try.prog 107 #[.agg #[.slice A0_0 l0_0.length c0_0, .slice A0_1 l0_1.length c0_1], .slice A1 l1.length c1, .slice A2 l2.length c2] w fun e w' => e = .returned (.int .i64 r) ∧ Below w.heap.size w w' := by
 have MD := Try.underlying27
 have kA := zQ SA
 have mA := zQ UA
 clear SA UA
 have jA := zQ RA
 have lA := zQ TA
 clear RA TA
 have RB := zQ GB
 have ED := zQ NB
 clear GB NB
 have QC := zQ uC
 have SC := zQ yC
 clear uC yC
 have HB := zQ (Below.refl w.heap.size w)
 have H := h; unfold impl_windsCode.f at H
 clear h
 replace H := zob H; obtain ⟨WB, A4, H⟩ := H
 by_cases c5 : WB = true
 ·subst c5
  rw [if_pos rfl] at H; have H' := zQ H; clear H
  go_enter Try.func107, Try.ntmps107
  go_wp2_with (first | ((with_reducible refine zd 3 ?_); refine zbx (N := 3) (cs := #[.slice A0_0 l0_0.length c0_0, .slice A0_1 l0_1.length c0_1]) (t := 27) ?_; intro PB hg w6 qB hb; have bA := zQ (qB); have vB := zgz hg HB.out; have hA := vB; replace HB := zbs HB.out hb; clear hb qB hg; obtain ⟨jC, iC, fC, eC⟩ := zy2 bA.out) | ((with_reducible refine zgc 115 ?_); refine zgo (some 10) Try.func115 #[.agg #[.slice A0_0 l0_0.length c0_0, .slice A0_1 l0_1.length c0_1]] ?_; (with_reducible refine (impl_ValidFrame.calls k _ _ l0_0 _ _ l0_1 true _ (zC kA.out HB.out) mA.out (zC jA.out HB.out) lA.out A4.out).mono ?_); rintro e w8 ⟨rfl, hb⟩; refine ⟨_, rfl, ?_⟩; replace bA := zbl bA.out hb; replace HB := zbs2 HB.out hA.out hb; (try clear hb)))
  go_loopg [14] k (fun kq LD w' => ∃ (cA : Int), LD = .int .i64 cA ∧ Aside0 (impl_windsCode.l0 kq l1 l2 l1 (l1.length : Int) cA l0_0 l0_1 = some r) ∧ Aside0 (kq ≤ k) ∧ Aside0 (w'.heap[PB]? = some (.cells #[(.slice A0_0 l0_0.length c0_0), (.slice A0_1 l0_1.length c0_1)] 27 (0, 0))) ∧ Aside0 (Below w.heap.size w w'))
  case atStart => exact ⟨(0), (zF), H', ⟨Nat.le_refl _⟩, ⟨zb bA.out⟩, ⟨zB2 HB.out hA.out⟩⟩
  case round =>
   clear H'; (try clear c1); (try clear c2); (try clear p2); (try clear c5); (try clear jC iC fC eC); obtain ⟨cA, rfl, HA, lB, bA, HB⟩ := hrel
   cases gk with
   | zero => exact absurd HA.out (by simp [impl_windsCode.l0])
   | succ k1 =>
    have H := HA.out; clear HA
    simp only [impl_windsCode.l0] at H
    by_cases c9 : cA < (l1.length : Int)
    ·rw [if_pos c9] at H
     have FC := decide_eq_true c9; clear c9
     by_cases BB : 0 ≤ cA
     ·rw [if_pos BB] at H
      have CD := decide_eq_true BB; clear BB
      by_cases qD : cA < (l1.length : Int)
      ·rw [if_pos qD] at H
       have BD := decide_eq_true qD; clear qD; replace H := zob H; obtain ⟨VB, ID, H⟩ := H
       by_cases rB : VB = true
       ·subst rB
        rw [if_pos rfl] at H; have H' := zQ H; clear H; have eB : 0 ≤ (cA : Int) := zD; have ZA : cA < (l1.length : Int) := zD; obtain ⟨MC, A252_0, c252_0, mC, pA, tA, yA⟩ := at_L9 RB.out cA eB ZA
        cases mC
        replace pA := zw HB.out pA; have JA := zQ yA; have OA := zQ tA; clear yA tA; replace eB := eq_true eB; replace ZA := eq_true ZA; obtain ⟨nD, mD, dD, cD⟩ := zy2 bA.out
        go_wp2_with (first | ((with_reducible refine zgc 67 ?_); refine zgo (some 20) Try.func67 #[.agg #[.slice A0_0 l0_0.length c0_0, .slice A0_1 l0_1.length c0_1], .slice A252_0 (rd_L9 l1 cA).length c252_0] ?_; (with_reducible refine (impl_ValidLoads.calls k1 _ _ l0_0 _ _ l0_1 _ _ (rd_L9 l1 cA) true _ (zC kA.out HB.out) mA.out (zC jA.out HB.out) lA.out (zC JA.out HB.out) OA.out ID.out).mono ?_); rintro e UD ⟨rfl, hb⟩; refine ⟨_, rfl, ?_⟩; replace bA := zbl bA.out hb; replace HB := zbs2 HB.out hA.out hb; (try clear hb)))
        go_roundg k1
        case measure => have := lB.out; omega
        case rel => exact ⟨(wrap64 (cA + 1)), (zF), H', ⟨by have := lB.out; omega⟩, ⟨zb bA.out⟩, ⟨zB2 HB.out hA.out⟩⟩
       ·replace rB := Bool.eq_false_iff.mpr rB
        subst rB
        rw [if_neg Bool.false_ne_true] at H; obtain rfl := Option.some.inj H; have eB : 0 ≤ (cA : Int) := zD; have ZA : cA < (l1.length : Int) := zD; obtain ⟨MC, A252_0, c252_0, mC, pA, tA, yA⟩ := at_L9 RB.out cA eB ZA
        cases mC
        replace pA := zw HB.out pA; have JA := zQ yA; have OA := zQ tA; clear yA tA; replace eB := eq_true eB; replace ZA := eq_true ZA; obtain ⟨lD, kD, bD, aD⟩ := zy2 bA.out
        go_wp2_with (first | ((with_reducible refine zgc 67 ?_); refine zgo (some 20) Try.func67 #[.agg #[.slice A0_0 l0_0.length c0_0, .slice A0_1 l0_1.length c0_1], .slice A252_0 (rd_L9 l1 cA).length c252_0] ?_; (with_reducible refine (impl_ValidLoads.calls k1 _ _ l0_0 _ _ l0_1 _ _ (rd_L9 l1 cA) false _ (zC kA.out HB.out) mA.out (zC jA.out HB.out) lA.out (zC JA.out HB.out) OA.out ID.out).mono ?_); rintro e JD ⟨rfl, hb⟩; refine ⟨_, rfl, ?_⟩; replace bA := zbl bA.out hb; replace HB := zbs2 HB.out hA.out hb; (try clear hb)))
        go_ret
        exact ⟨zE, zB2 HB.out hA.out⟩
      ·rw [if_neg qD] at H
       exact absurd H (by simp)
     ·rw [if_neg BB] at H
      exact absurd H (by simp)
    ·rw [if_neg c9] at H
     have FC := decide_eq_false c9; clear c9
     by_cases rC : (l1.length : Int) > 4
     ·rw [if_pos rC] at H
      have JC := decide_eq_true rC; have IC : decide (4 < l1.length) = true := decide_eq_true (by omega); clear rC; obtain rfl := Option.some.inj H
      go_wp2
      go_ret
      exact ⟨zE, zB2 HB.out hA.out⟩
     ·rw [if_neg rC] at H
      have JC := decide_eq_false rC; have IC : decide (4 < l1.length) = false := decide_eq_false (by omega); clear rC; replace H := zob H; obtain ⟨UB, GD, H⟩ := H
      by_cases oD : UB = true
      ·subst oD
       rw [if_pos rfl] at H; obtain rfl := Option.some.inj H; obtain ⟨jD, iD, ZC, YC⟩ := zy2 bA.out
       go_wp2_with (first | (go_at_call 76; (with_reducible refine (impl_areBars.calls k1 _ _ l0_0 _ _ l0_1 _ _ l2 true _ (zC kA.out HB.out) mA.out (zC jA.out HB.out) lA.out (zC QC.out HB.out) SC.out GD.out).mono ?_); rintro e RD ⟨rfl, hb⟩; replace bA := zbl bA.out hb; replace HB := zbs2 HB.out hA.out hb; (try clear hb); (try clear BC); (try clear hk); (try clear hi)))
       go_ret
       exact ⟨zE, zB2 HB.out hA.out⟩
      ·replace oD := Bool.eq_false_iff.mpr oD
       subst oD
       rw [if_neg Bool.false_ne_true] at H; obtain rfl := Option.some.inj H; obtain ⟨hD, gD, XC, WC⟩ := zy2 bA.out
       go_wp2_with (first | (go_at_call 76; (with_reducible refine (impl_areBars.calls k1 _ _ l0_0 _ _ l0_1 _ _ l2 false _ (zC kA.out HB.out) mA.out (zC jA.out HB.out) lA.out (zC QC.out HB.out) SC.out GD.out).mono ?_); rintro e QD ⟨rfl, hb⟩; replace bA := zbl bA.out hb; replace HB := zbs2 HB.out hA.out hb; (try clear hb); (try clear BC); (try clear hk); (try clear hi)))
       go_ret
       exact ⟨zE, zB2 HB.out hA.out⟩
 ·replace c5 := Bool.eq_false_iff.mpr c5
  subst c5
  rw [if_neg Bool.false_ne_true] at H; obtain rfl := Option.some.inj H
  go_enter Try.func107, Try.ntmps107
  go_wp2_with (first | ((with_reducible refine zd 3 ?_); refine zbx (N := 3) (cs := #[.slice A0_0 l0_0.length c0_0, .slice A0_1 l0_1.length c0_1]) (t := 27) ?_; intro PB hg PD qB hb; have bA := zQ (qB); have vB := zgz hg HB.out; have hA := vB; replace HB := zbs HB.out hb; clear hb qB hg; obtain ⟨fD, eD, VC, UC⟩ := zy2 bA.out) | ((with_reducible refine zgc 115 ?_); refine zgo (some 10) Try.func115 #[.agg #[.slice A0_0 l0_0.length c0_0, .slice A0_1 l0_1.length c0_1]] ?_; (with_reducible refine (impl_ValidFrame.calls k _ _ l0_0 _ _ l0_1 false _ (zC kA.out HB.out) mA.out (zC jA.out HB.out) lA.out A4.out).mono ?_); rintro e OD ⟨rfl, hb⟩; refine ⟨_, rfl, ?_⟩; replace bA := zbl bA.out hb; replace HB := zbs2 HB.out hA.out hb; (try clear hb)))
  go_ret
  exact ⟨zE, zB2 HB.out hA.out⟩

def laws_eqPullSS.l0 : Nat → List (List (S113)) → List (List (S113)) → Int → Option (Bool)
 | 0, _, _, _ => none
 | k + 1, x0, x1, x5 => if x5 < (x0.length : Int) then (if 0 ≤ x5 then (if x5 < (x1.length : Int) then ((laws_eqPullS.f k (rd_L9 x0 x5) (rd_L9 x1 x5)).bind fun TB => (if TB = true then (laws_eqPullSS.l0 k x0 x1 (wrap64 (x5 + 1))) else (some false))) else (none)) else (none)) else (some true)
def laws_eqPullSS.f (k : Nat) (l0 : List (List (S113))) (l1 : List (List (S113))) : Option (Bool) := if (l0.length : Int) = (l1.length : Int) then (laws_eqPullSS.l0 k l0 l1 0) else (some false)
def laws_eqPullSS.T6 : Bool × List (List Nat × List Nat) := (true, [([], []), ([], []), ([0, 1], [0, 1]), ([2], [2]), ([], []), ([], []), ([4, 5], [4, 5]), ([6], [6]), ([3, 7], [3, 7]), ([8], [8])])
def laws_eqPullSS.B6 : List Nat := [0, 0, 3, 7, 0, 0, 48, 112, 255, 511]
theorem laws_eqPullSS.tab6 : rtab .any (opsOf Try.f50 6) = laws_eqPullSS.T6 := by kernel_rfl
theorem laws_eqPullSS.bits6 : waitsOk laws_eqPullSS.T6.2 laws_eqPullSS.B6 = true := by kernel_rfl
theorem laws_eqPullSS.calls (k : Nat) (A0 : Option Addr) (c0 : Nat) (l0 : List (List (S113))) (A1 : Option Addr) (c1 : Nat) (l1 : List (List (S113))) (r : Bool) (w : World) (IB : Kd.C (Kd.slice 113 k113) w A0 l0.length l0) (OB : l0.length ≤ c0) (GB : Kd.C (Kd.slice 113 k113) w A1 l1.length l1) (NB : l1.length ≤ c1) (h : laws_eqPullSS.f k l0 l1 = some r) :
  Calls Try.prog 50 #[.slice A0 l0.length c0, .slice A1 l1.length c1] w fun e w' => e = .returned (.bool r) ∧ Below w.heap.size w w' := by
 have qC := zQ IB
 have FD := zQ OB
 clear IB OB
 have RB := zQ GB
 have ED := zQ NB
 clear GB NB
 have HB := zQ (Below.refl w.heap.size w)
 have H := h; unfold laws_eqPullSS.f at H
 clear h
 by_cases c3 : (l0.length : Int) = (l1.length : Int)
 ·rw [if_pos c3] at H
  have hB : ((l0.length : Int) == (l1.length : Int)) = true := beq_iff_eq.mpr c3; have AB : ((l0.length : Int) != (l1.length : Int)) = false := bne_eq_false_iff_eq.mpr c3
  have HC : (l0.length == l1.length) = true := by first | simpa using c3 | (simp at c3 ⊢; omega)
  clear c3; have H' := zQ H; clear H
  go_enter Try.func50, Try.ntmps50
  go_wp2
  go_loopg [5] k (fun kq v5 w' => ∃ (aA : Int), v5 = .int .i64 aA ∧ Aside0 (laws_eqPullSS.l0 kq l0 l1 aA = some r) ∧ Aside0 (kq ≤ k) ∧ Aside0 (Below w.heap.size w w'))
  case atStart => exact ⟨(0), (zF), H', ⟨Nat.le_refl _⟩, ⟨zB HB.out⟩⟩
  case round =>
   clear H'; (try clear c1); (try clear p2); (try clear c3); (try clear hB); (try clear AB); (try clear HC); obtain ⟨aA, rfl, HA, lB, HB⟩ := hrel
   cases gk with
   | zero => exact absurd HA.out (by simp [laws_eqPullSS.l0])
   | succ k1 =>
    have H := HA.out; clear HA
    simp only [laws_eqPullSS.l0] at H
    by_cases c4 : aA < (l0.length : Int)
    ·rw [if_pos c4] at H
     have pC := decide_eq_true c4; clear c4
     by_cases c5 : 0 ≤ aA
     ·rw [if_pos c5] at H
      have wD := decide_eq_true c5; clear c5
      by_cases c6 : aA < (l1.length : Int)
      ·rw [if_pos c6] at H
       have GC := decide_eq_true c6; clear c6; replace H := zob H; obtain ⟨TB, A7, H⟩ := H
       by_cases c8 : TB = true
       ·subst c8
        rw [if_pos rfl] at H; have H' := zQ H; clear H
        try go_wp2
        have n0_ := zQ (below_drew1 HB.out); clear HB; have HB := n0_; clear n0_; have dB : 0 ≤ (aA : Int) := zD; have YA : aA < (l0.length : Int) := zD; obtain ⟨tB, A319_0, c319_0, lC, eA, sA, xA⟩ := at_L9 qC.out aA dB YA; have gA := eA
        cases lC
        replace eA := zw HB.out eA; have DA := zQ xA; have NA := zQ sA; clear xA sA; replace dB := eq_true dB; replace YA := eq_true YA; have cB : 0 ≤ (aA : Int) := zD; have XA : aA < (l1.length : Int) := zD; obtain ⟨sB, A320_0, c320_0, kC, dA, rA, wA⟩ := at_L9 RB.out aA cB XA; have fA := dA
        cases kC
        replace dA := zw HB.out dA; have CA := zQ wA; have MA := zQ rA; clear wA rA; replace cB := eq_true cB; replace XA := eq_true XA
        refine zs (fun w' => w'.cell? (tB.add (aA).toNat) = some (.slice A319_0 (rd_L9 l0 aA).length c319_0) ∧ w'.cell? (sB.add (aA).toNat) = some (.slice A320_0 (rd_L9 l1 aA).length c320_0)) [] 10 ⟨((HB.out.cell (World.block_lt_of_cell? w _ gA)).trans gA), ((HB.out.cell (World.block_lt_of_cell? w _ fA)).trans fA)⟩ (fun BA => ?_); refine with_tabW laws_eqPullSS.tab6 laws_eqPullSS.bits6 (fun HT_ HW_ => ?_)
        generalize wr.drew = w9 at HB DA CA eA dA BA ⊢
        refine zp 0 17 ?_
        refine zp 1 18 ?_
        refine zp 2 19 ?_
        refine zp 4 21 ?_
        refine zp 5 22 ?_
        refine zp 6 23 ?_
        refine zt 3 20 BA ?_
        refine zt 7 24 BA ?_
        refine zo 8 (some 25) (fun K hK => ?_)
        refine goes_ Try.func40 (by kernel_rfl) rfl #[.slice A319_0 (rd_L9 l0 aA).length c319_0, .slice A320_0 (rd_L9 l1 aA).length c320_0] (by rfl) rfl rfl zM ?_
        with_reducible refine (laws_eqPullS.calls k1 _ _ (rd_L9 l0 aA) _ _ (rd_L9 l1 aA) true _ ?side1 ?side2 ?side3 ?side4 A7.out).mono ?_
        (case side1 => exact zC DA.out HB.out)
        (case side2 => exact NA.out)
        (case side3 => exact zC CA.out HB.out)
        (case side4 => exact MA.out)
        rintro e VD ⟨rfl, hb⟩
        refine ⟨_, rfl, ?_⟩
        have n0_ := zbs HB.out hb; clear HB; have HB := n0_; clear n0_
        (try clear hb)
        (try clear BC)
        (try clear hk)
        (try clear hi)
        refine hK.out _ _ ⟨((HB.out.cell (World.block_lt_of_cell? w _ gA)).trans gA), ((HB.out.cell (World.block_lt_of_cell? w _ fA)).trans fA)⟩ (fun BA => ?_)
        clear hK K
        refine zn 25 ?_
        refine zp 9 26 ?_
        refine done_ (done_of HT_.out (by kernel_rfl)) ?_
        try go_wp2
        go_roundg k1
        case measure => have := lB.out; omega
        case rel => exact ⟨(wrap64 (aA + 1)), (zF), H', ⟨by have := lB.out; omega⟩, ⟨zB HB.out⟩⟩
       ·replace c8 := Bool.eq_false_iff.mpr c8
        subst c8
        rw [if_neg Bool.false_ne_true] at H; obtain rfl := Option.some.inj H
        try go_wp2
        have n0_ := zQ (below_drew1 HB.out); clear HB; have HB := n0_; clear n0_; have dB : 0 ≤ (aA : Int) := zD; have YA : aA < (l0.length : Int) := zD; obtain ⟨tB, A319_0, c319_0, lC, eA, sA, xA⟩ := at_L9 qC.out aA dB YA; have gA := eA
        cases lC
        replace eA := zw HB.out eA; have DA := zQ xA; have NA := zQ sA; clear xA sA; replace dB := eq_true dB; replace YA := eq_true YA; have cB : 0 ≤ (aA : Int) := zD; have XA : aA < (l1.length : Int) := zD; obtain ⟨sB, A320_0, c320_0, kC, dA, rA, wA⟩ := at_L9 RB.out aA cB XA; have fA := dA
        cases kC
        replace dA := zw HB.out dA; have CA := zQ wA; have MA := zQ rA; clear wA rA; replace cB := eq_true cB; replace XA := eq_true XA
        refine zs (fun w' => w'.cell? (tB.add (aA).toNat) = some (.slice A319_0 (rd_L9 l0 aA).length c319_0) ∧ w'.cell? (sB.add (aA).toNat) = some (.slice A320_0 (rd_L9 l1 aA).length c320_0)) [] 10 ⟨((HB.out.cell (World.block_lt_of_cell? w _ gA)).trans gA), ((HB.out.cell (World.block_lt_of_cell? w _ fA)).trans fA)⟩ (fun BA => ?_); refine with_tabW laws_eqPullSS.tab6 laws_eqPullSS.bits6 (fun HT_ HW_ => ?_)
        generalize wr.drew = tC at HB DA CA eA dA BA ⊢
        refine zp 0 17 ?_
        refine zp 1 18 ?_
        refine zp 2 19 ?_
        refine zp 4 21 ?_
        refine zp 5 22 ?_
        refine zp 6 23 ?_
        refine zt 3 20 BA ?_
        refine zt 7 24 BA ?_
        refine zo 8 (some 25) (fun K hK => ?_)
        refine goes_ Try.func40 (by kernel_rfl) rfl #[.slice A319_0 (rd_L9 l0 aA).length c319_0, .slice A320_0 (rd_L9 l1 aA).length c320_0] (by rfl) rfl rfl zM ?_
        with_reducible refine (laws_eqPullS.calls k1 _ _ (rd_L9 l0 aA) _ _ (rd_L9 l1 aA) false _ ?side1 ?side2 ?side3 ?side4 A7.out).mono ?_
        (case side1 => exact zC DA.out HB.out)
        (case side2 => exact NA.out)
        (case side3 => exact zC CA.out HB.out)
        (case side4 => exact MA.out)
        rintro e KD ⟨rfl, hb⟩
        refine ⟨_, rfl, ?_⟩
        have n0_ := zbs HB.out hb; clear HB; have HB := n0_; clear n0_
        (try clear hb)
        (try clear BC)
        (try clear hk)
        (try clear hi)
        refine hK.out _ _ ⟨((HB.out.cell (World.block_lt_of_cell? w _ gA)).trans gA), ((HB.out.cell (World.block_lt_of_cell? w _ fA)).trans fA)⟩ (fun BA => ?_)
        clear hK K
        refine zn 25 ?_
        refine zp 9 26 ?_
        refine done_ (done_of HT_.out (by kernel_rfl)) ?_
        try go_wp2
        go_ret
        exact ⟨zE, zB HB.out⟩
      ·rw [if_neg c6] at H
       exact absurd H (by simp)
     ·rw [if_neg c5] at H
      exact absurd H (by simp)
    ·rw [if_neg c4] at H
     have pC := decide_eq_false c4; clear c4; obtain rfl := Option.some.inj H
     go_wp2
     go_ret
     exact ⟨zE, zB HB.out⟩
 ·rw [if_neg c3] at H
  have hB : ((l0.length : Int) == (l1.length : Int)) = false := beq_eq_false_iff_ne.mpr c3; have AB : ((l0.length : Int) != (l1.length : Int)) = true := bne_iff_ne.mpr c3
  have HC : (l0.length == l1.length) = false := by first | simpa using c3 | (simp at c3 ⊢; omega)
  obtain rfl := Option.some.inj H
  go_enter Try.func50, Try.ntmps50
  go_wp2
  go_ret
  exact ⟨zE, zB HB.out⟩

end
end Go.Proofs.Ytimjblgepbhoaaa.PStays

