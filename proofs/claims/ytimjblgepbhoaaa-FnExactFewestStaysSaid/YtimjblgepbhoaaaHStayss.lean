import Derived.Test.YtimjblgepbhoaaaHStays0
import Derived.Test.YtimjblgepbhoaaaHStaysn
namespace Go.Proofs.Ytimjblgepbhoaaa.PStays
noncomputable section
open Go.RowKit Go.Proofs.YtimjblgepbhoaaaW.PrintWords Go.Proofs.YtimjblgepbhoaaaW.PrintLast Go.Proofs.YtimjblgepbhoaaaW.PrintMore
attribute [local go_sem] max2_int min2_int max_two min_two max_three min_three max_four min_four   -- for this text's walks alone
set_option linter.unusedVariables false
set_option linter.unusedSimpArgs false
set_option maxHeartbeats 8000000
set_option maxRecDepth 100000

def impl_canHold.l0 : Nat → List (S113) → List (List Int) → Int → Int → List (S164) → List (S115) → Option (Bool)
 | 0, _, _, _, _, _, _ => none
 | k + 1, x1, x12, x13, x14, QA, PA => if x14 < x13 then (if 0 ≤ x14 then (if x14 < (x12.length : Int) then ((impl_holdsAlone.f k QA PA x1 (rd_L10 x12 x14)).bind fun iB => (if iB.2.2 = true then (some true) else (impl_canHold.l0 k x1 x12 x13 (wrap64 (x14 + 1)) QA PA))) else (none)) else (none)) else (some false)
def impl_canHold.f (k : Nat) (l0_0 : List (S164)) (l0_1 : List (S115)) (l1 : List (S113)) (l2 : List Int) : Option (Bool) := (impl_barLists.f k l2).bind fun jA => (impl_canHold.l0 k l1 jA (jA.length : Int) 0 l0_0 l0_1)
theorem impl_canHold.calls (k : Nat) (A0_0 : Option Addr) (c0_0 : Nat) (l0_0 : List (S164)) (A0_1 : Option Addr) (c0_1 : Nat) (l0_1 : List (S115)) (A1 : Option Addr) (c1 : Nat) (l1 : List (S113)) (A2 : Option Addr) (c2 : Nat) (l2 : List Int) (r : Bool) (w : World) (CA : Kd.C k164 w A0_0 l0_0.length l0_0) (EA : l0_0.length ≤ c0_0) (BA : Kd.C k115 w A0_1 l0_1.length l0_1) (DA : l0_1.length ≤ c0_1) (dB : Kd.C k113 w A1 l1.length l1) (fB : l1.length ≤ c1) (cB : Kd.C (Kd.int .i64) w A2 l2.length l2) (eB : l2.length ≤ c2) (h : impl_canHold.f k l0_0 l0_1 l1 l2 = some r) :
  Calls Try.prog 82 #[.agg #[.slice A0_0 l0_0.length c0_0, .slice A0_1 l0_1.length c0_1], .slice A1 l1.length c1, .slice A2 l2.length c2] w fun e w' => e = .returned (.bool r) ∧ Below w.heap.size w w' := by
 have UB := Try.underlying27
 have lC := Try.underlying35
 have GA := zQ CA
 have JA := zQ EA
 clear CA EA
 have FA := zQ BA
 have IA := zQ DA
 clear BA DA
 have lB := zQ dB
 have aC := zQ fB
 clear dB fB
 have QB := zQ cB
 have RB := zQ eB
 clear cB eB
 have HB := zQ (Below.refl w.heap.size w)
 have H := h; unfold impl_canHold.f at H
 clear h
 replace H := zob H; obtain ⟨jA, A4, H⟩ := H
 have H' := zQ H
 clear H
 go_enter Try.func82, Try.ntmps82
 go_wp2_with (first | ((with_reducible refine zd 3 ?_); refine zbx (N := 3) (cs := #[.slice A0_0 l0_0.length c0_0, .slice A0_1 l0_1.length c0_1]) (t := 27) ?_; intro hB hg w5 sA hb; have eA := zQ (sA); have oB := zgz hg HB.out; have hA := oB; replace HB := zbs HB.out hb; clear hb sA hg) | ((with_reducible refine zgc 68 ?_); refine zgo (some 12) Try.func68 #[.slice A2 l2.length c2] ?_; (with_reducible refine (impl_barLists.calls k _ _ l2 jA _ (zC QB.out HB.out) RB.out A4.out).mono ?_); rintro e w6 ⟨iC, rfl, SA, hb⟩; refine ⟨_, rfl, ?_⟩; have WA := zQ (Kd.S_lower SA (below_size (zB2 HB.out hA.out))); replace eA := zbl eA.out hb; replace HB := zbs2 HB.out hA.out hb; (try clear hb); (try clear SA); obtain ⟨sC, nC, mC⟩ := Kd.S_slice WA.out; subst mC))
 go_loopg [14] k (fun kq jC w' => ∃ (aA : Int), jC = .int .i64 aA ∧ Aside0 (impl_canHold.l0 kq l1 jA (jA.length : Int) aA l0_0 l0_1 = some r) ∧ Aside0 (kq ≤ k) ∧ Aside0 (Kd.S (Kd.slice 2 (Kd.int .i64)) 31 w' w.heap.size (fun _ => True) (.slice sC jA.length nC) jA) ∧ Aside0 (w'.heap[hB]? = some (.cells #[(.slice A0_0 l0_0.length c0_0), (.slice A0_1 l0_1.length c0_1)] 27 (0, 0))) ∧ Aside0 (Below w.heap.size w w'))
 case atStart => exact ⟨(0), (zF), H', ⟨Nat.le_refl _⟩, ⟨zS WA.out⟩, ⟨zb eA.out⟩, ⟨zB2 HB.out hA.out⟩⟩
 case round =>
  clear H'; (try clear c1); (try clear c2); (try clear p2); (try clear c6); obtain ⟨aA, rfl, HA, mB, gA, eA, HB⟩ := hrel
  cases gk with
  | zero => exact absurd HA.out (by simp [impl_canHold.l0])
  | succ k1 =>
   have H := HA.out; clear HA
   simp only [impl_canHold.l0] at H
   by_cases c8 : aA < (jA.length : Int)
   ·rw [if_pos c8] at H
    have YB := decide_eq_true c8; clear c8
    by_cases c9 : 0 ≤ aA
    ·rw [if_pos c9] at H
     have pC := decide_eq_true c9; clear c9
     by_cases PB : aA < (jA.length : Int)
     ·rw [if_pos PB] at H
      have gC := decide_eq_true PB; clear PB; replace H := zob H; obtain ⟨⟨ZA, YA, TB⟩, hC, H⟩ := H
      by_cases OB : TB = true
      ·subst OB
       rw [if_pos rfl] at H; obtain rfl := Option.some.inj H; have wA : 0 ≤ (aA : Int) := zD; have vA : aA < (jA.length : Int) := zD; obtain ⟨kB, A301_0, c301_0, bB, xA, mA, oA⟩ := at_L10 (Kd.S_reads' gA.out).2.2 aA wA vA
       cases bB
       obtain ⟨ce301, MA, hMe301, rA⟩ := Kd.S_get gA.out [] aA wA (by first | exact vA | exact zD | (have e_ := (Kd.S_reads' gA.out).1; omega)); obtain ⟨ve301_0, rfl, ge301_0⟩ := hMe301; have bA := rA 0 _ rfl; rw [Nat.add_zero, show ((Kd.slice 2 (Kd.int .i64))).sz = 1 from rfl, Nat.mul_one] at bA; replace bA := Option.some.inj (bA.symm.trans xA); rw [bA] at ge301_0; have dA := zQ (show Kd.R (Kd.int .i64) 2 _ _ _ _ (rd_L10 jA aA) from ge301_0); clear bA ge301_0; clear rA MA; have cA := zQ oA; have AA := zQ mA; clear oA mA; replace wA := eq_true wA; replace vA := eq_true vA; obtain ⟨JB, IB, wB, vB⟩ := zy2 eA.out
       go_wp2_with (first | ((with_reducible refine zgc 70 ?_); refine zgo (some 22) Try.func70 #[.agg #[.slice A0_0 l0_0.length c0_0, .slice A0_1 l0_1.length c0_1], .slice A1 l1.length c1, .slice A301_0 (rd_L10 jA aA).length c301_0] ?_; (with_reducible refine (impl_holdsAlone.calls k1 _ _ l0_0 _ _ l0_1 _ _ l1 _ _ (rd_L10 jA aA) ZA YA true _ (zC GA.out HB.out) JA.out (zC FA.out HB.out) IA.out (zC lB.out HB.out) aC.out ?side7 AA.out hC.out).mono ?_); (case side7 => repeat (first | exact (zk cA.out) | (with_reducible refine Kd.C_alloc ?_ _) | (with_reducible refine Kd.C_drewN ?_ _) | (with_reducible refine Kd.C_drew ?_))); rintro e xC ⟨SB, rfl, SA, hb⟩; refine ⟨_, rfl, ?_⟩; have tA := zQ (Kd.R_lower (Kd.R_new' SA (Kd.R_lt (zR dA.out))) (below_size (zB2 HB.out hA.out))); replace gA := zQ (Kd.S_elder' (zS gA.out) (Kd.R_base SA) hb); replace dA := zQ (Kd.R_elder' (zR dA.out) (Kd.R_base SA) hb); replace eA := zbl eA.out hb; replace cA := zCb cA.out hb; replace HB := zbs2 HB.out hA.out hb; (try clear hb); (try clear SA)) | ((with_reducible refine zd 9 ?_); refine zbx (N := 9) (cs := #[.slice none 0 0, .int .i64 0]) (t := 35) ?_; intro TA hg wC sA hb; have RA := zQ (sA); have UA := zgz2 hg HB.out hA.out; have VA := UA; have iA := zn1 hg eA.out; have qA := zn2 hg eA.out; replace gA := zQ (Kd.S_below (zS gA.out) hb); replace dA := zRb dA.out hb; replace tA := zRb tA.out hb; replace eA := zbl eA.out hb; replace cA := zCb cA.out hb; replace HB := zbs2 HB.out hA.out hb; clear hb sA hg; obtain ⟨tC, oC, WB⟩ := Kd.R_slice tA.out; subst WB; have fC := qA.out; have dC := iA.out; obtain ⟨GB, FB, uB, tB⟩ := zy2 RA.out))
       go_ret
       exact ⟨zE, zB3 HB.out hA.out VA.out⟩
      ·replace OB := Bool.eq_false_iff.mpr OB
       subst OB
       rw [if_neg Bool.false_ne_true] at H; have H' := zQ H; clear H; have wA : 0 ≤ (aA : Int) := zD; have vA : aA < (jA.length : Int) := zD; obtain ⟨kB, A301_0, c301_0, bB, xA, mA, oA⟩ := at_L10 (Kd.S_reads' gA.out).2.2 aA wA vA
       cases bB
       obtain ⟨ce301, MA, hMe301, rA⟩ := Kd.S_get gA.out [] aA wA (by first | exact vA | exact zD | (have e_ := (Kd.S_reads' gA.out).1; omega)); obtain ⟨ve301_0, rfl, ge301_0⟩ := hMe301; have bA := rA 0 _ rfl; rw [Nat.add_zero, show ((Kd.slice 2 (Kd.int .i64))).sz = 1 from rfl, Nat.mul_one] at bA; replace bA := Option.some.inj (bA.symm.trans xA); rw [bA] at ge301_0; have dA := zQ (show Kd.R (Kd.int .i64) 2 _ _ _ _ (rd_L10 jA aA) from ge301_0); clear bA ge301_0; clear rA MA; have cA := zQ oA; have AA := zQ mA; clear oA mA; replace wA := eq_true wA; replace vA := eq_true vA; obtain ⟨EB, DB, sB, rB⟩ := zy2 eA.out
       go_wp2_with (first | ((with_reducible refine zgc 70 ?_); refine zgo (some 22) Try.func70 #[.agg #[.slice A0_0 l0_0.length c0_0, .slice A0_1 l0_1.length c0_1], .slice A1 l1.length c1, .slice A301_0 (rd_L10 jA aA).length c301_0] ?_; (with_reducible refine (impl_holdsAlone.calls k1 _ _ l0_0 _ _ l0_1 _ _ l1 _ _ (rd_L10 jA aA) ZA YA false _ (zC GA.out HB.out) JA.out (zC FA.out HB.out) IA.out (zC lB.out HB.out) aC.out ?side7 AA.out hC.out).mono ?_); (case side7 => repeat (first | exact (zk cA.out) | (with_reducible refine Kd.C_alloc ?_ _) | (with_reducible refine Kd.C_drewN ?_ _) | (with_reducible refine Kd.C_drew ?_))); rintro e vC ⟨SB, rfl, SA, hb⟩; refine ⟨_, rfl, ?_⟩; have tA := zQ (Kd.R_lower (Kd.R_new' SA (Kd.R_lt (zR dA.out))) (below_size (zB2 HB.out hA.out))); replace gA := zQ (Kd.S_elder' (zS gA.out) (Kd.R_base SA) hb); replace dA := zQ (Kd.R_elder' (zR dA.out) (Kd.R_base SA) hb); replace eA := zbl eA.out hb; replace cA := zCb cA.out hb; replace HB := zbs2 HB.out hA.out hb; (try clear hb); (try clear SA)) | ((with_reducible refine zd 9 ?_); refine zbx (N := 9) (cs := #[.slice none 0 0, .int .i64 0]) (t := 35) ?_; intro TA hg uC sA hb; have RA := zQ (sA); have UA := zgz2 hg HB.out hA.out; have VA := UA; have iA := zn1 hg eA.out; have qA := zn2 hg eA.out; replace gA := zQ (Kd.S_below (zS gA.out) hb); replace dA := zRb dA.out hb; replace tA := zRb tA.out hb; replace eA := zbl eA.out hb; replace cA := zCb cA.out hb; replace HB := zbs2 HB.out hA.out hb; clear hb sA hg; obtain ⟨bC, XB, VB⟩ := Kd.R_slice tA.out; subst VB; have eC := qA.out; have cC := iA.out; obtain ⟨CB, BB, qB, pB⟩ := zy2 RA.out))
       go_roundg k1
       case measure => have := mB.out; omega
       case rel => exact ⟨(wrap64 (aA + 1)), (zF), H', ⟨by have := mB.out; omega⟩, ⟨by (with_reducible repeat (first | apply Kd.S_alloc | apply Kd.S_drewN | apply Kd.S_drew)); exact Kd.S_mono (Kd.S_far (p := ⟨TA, 1, none⟩) (Kd.S_far (p := ⟨TA, 0, none⟩) (Kd.S_types gA.out RA.out (by decide)) (fun _ hk => hk.2) (.slice bC ZA.length XB)) (fun _ hk => hk.2) (.int .i64 YA)) (fun _ hk => trivial)⟩, ⟨by refine zb ?_; refine blk_far ?_ iA.out _; refine zb ?_; refine blk_far ?_ iA.out _; refine zb ?_; exact eA.out⟩, ⟨zB3 HB.out hA.out VA.out⟩⟩
     ·rw [if_neg PB] at H
      exact absurd H (by simp)
    ·rw [if_neg c9] at H
     exact absurd H (by simp)
   ·rw [if_neg c8] at H
    have YB := decide_eq_false c8; clear c8; obtain rfl := Option.some.inj H
    go_wp2
    go_ret
    exact ⟨zE, zB2 HB.out hA.out⟩

def impl_looseWind.l0 : Nat → List Int → List (List (S113)) → Int → Int → List (S164) → List (S115) → Option (Int)
 | 0, _, _, _, _, _, _ => none
 | k + 1, x2, x9, x10, x11, OA, NA => if x11 < x10 then (if 0 ≤ x11 then (if x11 < (x9.length : Int) then ((impl_canHold.f k OA NA (rd_L9 x9 x11) x2).bind fun XA => (if XA = true then (impl_looseWind.l0 k x2 x9 x10 (wrap64 (x11 + 1)) OA NA) else (some x11))) else (none)) else (none)) else (some (-1))
def impl_looseWind.f (k : Nat) (l0_0 : List (S164)) (l0_1 : List (S115)) (l1 : List (List (S113))) (l2 : List Int) : Option (Int) := impl_looseWind.l0 k l2 l1 (l1.length : Int) 0 l0_0 l0_1
theorem impl_looseWind.calls (k : Nat) (A0_0 : Option Addr) (c0_0 : Nat) (l0_0 : List (S164)) (A0_1 : Option Addr) (c0_1 : Nat) (l0_1 : List (S115)) (A1 : Option Addr) (c1 : Nat) (l1 : List (List (S113))) (A2 : Option Addr) (c2 : Nat) (l2 : List Int) (r : Int) (w : World) (CA : Kd.C k164 w A0_0 l0_0.length l0_0) (EA : l0_0.length ≤ c0_0) (BA : Kd.C k115 w A0_1 l0_1.length l0_1) (DA : l0_1.length ≤ c0_1) (dB : Kd.C (Kd.slice 113 k113) w A1 l1.length l1) (fB : l1.length ≤ c1) (cB : Kd.C (Kd.int .i64) w A2 l2.length l2) (eB : l2.length ≤ c2) (h : impl_looseWind.f k l0_0 l0_1 l1 l2 = some r) :
  Calls Try.prog 108 #[.agg #[.slice A0_0 l0_0.length c0_0, .slice A0_1 l0_1.length c0_1], .slice A1 l1.length c1, .slice A2 l2.length c2] w fun e w' => e = .returned (.int .i64 r) ∧ Below w.heap.size w w' := by
 have UB := Try.underlying27
 have GA := zQ CA
 have JA := zQ EA
 clear CA EA
 have FA := zQ BA
 have IA := zQ DA
 clear BA DA
 have lB := zQ dB
 have aC := zQ fB
 clear dB fB
 have QB := zQ cB
 have RB := zQ eB
 clear cB eB
 have HB := zQ (Below.refl w.heap.size w)
 have H := h; unfold impl_looseWind.f at H
 clear h
 have H' := zQ H
 clear H
 go_enter Try.func108, Try.ntmps108
 go_wp2_with (first | ((with_reducible refine zd 3 ?_); refine zbx (N := 3) (cs := #[.slice A0_0 l0_0.length c0_0, .slice A0_1 l0_1.length c0_1]) (t := 27) ?_; intro gB hg w4 sA hb; have pA := zQ (sA); have nB := zgz hg HB.out; have uA := nB; replace HB := zbs HB.out hb; clear hb sA hg))
 go_loopg [11] k (fun kq kC w' => ∃ (fA : Int), kC = .int .i64 fA ∧ Aside0 (impl_looseWind.l0 kq l2 l1 (l1.length : Int) fA l0_0 l0_1 = some r) ∧ Aside0 (kq ≤ k) ∧ Aside0 (w'.heap[gB]? = some (.cells #[(.slice A0_0 l0_0.length c0_0), (.slice A0_1 l0_1.length c0_1)] 27 (0, 0))) ∧ Aside0 (Below w.heap.size w w'))
 case atStart => exact ⟨(0), (zF), H', ⟨Nat.le_refl _⟩, ⟨zb pA.out⟩, ⟨zB2 HB.out uA.out⟩⟩
 case round =>
  clear H'; (try clear c1); (try clear c2); (try clear p2); obtain ⟨fA, rfl, HA, mB, pA, HB⟩ := hrel
  cases gk with
  | zero => exact absurd HA.out (by simp [impl_looseWind.l0])
  | succ k1 =>
   have H := HA.out; clear HA
   simp only [impl_looseWind.l0] at H
   by_cases c5 : fA < (l1.length : Int)
   ·rw [if_pos c5] at H
    have ZB := decide_eq_true c5; clear c5
    by_cases c6 : 0 ≤ fA
    ·rw [if_pos c6] at H
     have rC := decide_eq_true c6; clear c6
     by_cases c7 : fA < (l1.length : Int)
     ·rw [if_pos c7] at H
      have qC := decide_eq_true c7; clear c7; replace H := zob H; obtain ⟨XA, A8, H⟩ := H
      by_cases c9 : XA = true
      ·subst c9
       rw [if_pos rfl] at H; have H' := zQ H; clear H; have LA : 0 ≤ (fA : Int) := zD; have KA : fA < (l1.length : Int) := zD; obtain ⟨jB, A309_0, c309_0, aB, kA, lA, nA⟩ := at_L9 lB.out fA LA KA
       cases aB
       replace kA := zw HB.out kA; have yA := zQ nA; have zA := zQ lA; clear nA lA; replace LA := eq_true LA; replace KA := eq_true KA; obtain ⟨NB, MB, AB, zB⟩ := zy2 pA.out
       go_wp2_with (first | ((with_reducible refine zgc 82 ?_); refine zgo (some 19) Try.func82 #[.agg #[.slice A0_0 l0_0.length c0_0, .slice A0_1 l0_1.length c0_1], .slice A309_0 (rd_L9 l1 fA).length c309_0, .slice A2 l2.length c2] ?_; (with_reducible refine (impl_canHold.calls k1 _ _ l0_0 _ _ l0_1 _ _ (rd_L9 l1 fA) _ _ l2 true _ (zC GA.out HB.out) JA.out (zC FA.out HB.out) IA.out (zC yA.out HB.out) zA.out (zC QB.out HB.out) RB.out A8.out).mono ?_); rintro e AC ⟨rfl, hb⟩; refine ⟨_, rfl, ?_⟩; replace pA := zbl pA.out hb; replace HB := zbs2 HB.out uA.out hb; (try clear hb)))
       go_roundg k1
       case measure => have := mB.out; omega
       case rel => exact ⟨(wrap64 (fA + 1)), (zF), H', ⟨by have := mB.out; omega⟩, ⟨zb pA.out⟩, ⟨zB2 HB.out uA.out⟩⟩
      ·replace c9 := Bool.eq_false_iff.mpr c9
       subst c9
       rw [if_neg Bool.false_ne_true] at H; obtain rfl := Option.some.inj H; have LA : 0 ≤ (fA : Int) := zD; have KA : fA < (l1.length : Int) := zD; obtain ⟨jB, A309_0, c309_0, aB, kA, lA, nA⟩ := at_L9 lB.out fA LA KA
       cases aB
       replace kA := zw HB.out kA; have yA := zQ nA; have zA := zQ lA; clear nA lA; replace LA := eq_true LA; replace KA := eq_true KA; obtain ⟨LB, KB, yB, xB⟩ := zy2 pA.out
       go_wp2_with (first | ((with_reducible refine zgc 82 ?_); refine zgo (some 19) Try.func82 #[.agg #[.slice A0_0 l0_0.length c0_0, .slice A0_1 l0_1.length c0_1], .slice A309_0 (rd_L9 l1 fA).length c309_0, .slice A2 l2.length c2] ?_; (with_reducible refine (impl_canHold.calls k1 _ _ l0_0 _ _ l0_1 _ _ (rd_L9 l1 fA) _ _ l2 false _ (zC GA.out HB.out) JA.out (zC FA.out HB.out) IA.out (zC yA.out HB.out) zA.out (zC QB.out HB.out) RB.out A8.out).mono ?_); rintro e yC ⟨rfl, hb⟩; refine ⟨_, rfl, ?_⟩; replace pA := zbl pA.out hb; replace HB := zbs2 HB.out uA.out hb; (try clear hb)))
       go_ret
       exact ⟨zE, zB2 HB.out uA.out⟩
     ·rw [if_neg c7] at H
      exact absurd H (by simp)
    ·rw [if_neg c6] at H
     exact absurd H (by simp)
   ·rw [if_neg c5] at H
    have ZB := decide_eq_false c5; clear c5; obtain rfl := Option.some.inj H
    go_wp2
    go_ret
    exact ⟨zE, zB2 HB.out uA.out⟩

end
end Go.Proofs.Ytimjblgepbhoaaa.PStays

