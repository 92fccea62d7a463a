import Derived.Test.YtimjblgepbhoaaaHStays0
import Derived.Test.YtimjblgepbhoaaaHStaysn
import Derived.Test.YtimjblgepbhoaaaHStaysw
namespace Go.Proofs.Ytimjblgepbhoaaa.PStays
noncomputable section
open Go.RowKit Go.Proofs.YtimjblgepbhoaaaW.PrintWords Go.Proofs.YtimjblgepbhoaaaW.PrintLast Go.Proofs.YtimjblgepbhoaaaW.PrintMore
attribute [local go_sem] max2_int min2_int max_two min_two max_three min_three max_four min_four   -- for this text's walks alone
set_option linter.unusedVariables false
set_option linter.unusedSimpArgs false
set_option maxHeartbeats 8000000
set_option maxRecDepth 100000

mutual
def spec_l11Table.l0 : Nat → List (List (S113)) → List Int → Int → List Bool → Int → List (S164) → List (S115) → Option (List Bool)
 | 0, _, _, _, _, _, _, _ => none
 | k + 1, x1, x5, x6, x7, x8, FA, EA => if x8 < x6 then (if 0 ≤ x8 then (if x8 < (x7.length : Int) then (spec_l11Table.l0 k x1 x5 x6 (x7.set (x8 : Int).toNat true) (wrap64 (x8 + 1)) FA EA) else (none)) else (none)) else (spec_l11Table.l1 k x1 x5 x6 x7 0 FA EA)
def spec_l11Table.l1 : Nat → List (List (S113)) → List Int → Int → List Bool → Int → List (S164) → List (S115) → Option (List Bool)
 | 0, _, _, _, _, _, _, _ => none
 | k + 1, x1, x5, x6, x7, x9, FA, EA => if x9 < (x1.length : Int) then (if 0 ≤ x6 then (if (x6 : Int).toNat ≤ 281474976710656 then (spec_l11Table.l2 k x1 x5 x6 x7 x9 (List.replicate (x6 : Int).toNat false) 0 FA EA) else (none)) else (none)) else (some x7)
def spec_l11Table.l2 : Nat → List (List (S113)) → List Int → Int → List Bool → Int → List Bool → Int → List (S164) → List (S115) → Option (List Bool)
 | 0, _, _, _, _, _, _, _, _, _ => none
 | k + 1, x1, x5, x6, x7, x9, x10, x11, FA, EA => if x11 < x6 then (if 0 ≤ x9 then (if x9 < (x1.length : Int) then ((spec_l11Part.f k x5 x11).bind fun JA => ((spec_l11Holds.f k FA EA (rd_L9 x1 x9) JA).bind fun dD => (if 0 ≤ x11 then (if x11 < (x10.length : Int) then (spec_l11Table.l3 k x1 x5 x6 x7 x9 (x10.set (x11 : Int).toNat dD.2.2) x11 0 FA EA) else (none)) else (none)))) else (none)) else (none)) else (spec_l11Table.l1 k x1 x5 x6 x7 (wrap64 (x9 + 1)) FA EA)
def spec_l11Table.l3 : Nat → List (List (S113)) → List Int → Int → List Bool → Int → List Bool → Int → Int → List (S164) → List (S115) → Option (List Bool)
 | 0, _, _, _, _, _, _, _, _, _, _ => none
 | k + 1, x1, x5, x6, x7, x9, x10, x11, x14, FA, EA => if x14 < (x5.length : Int) then (if 0 ≤ (IntKind.u64.wrap (x14)) then (if (Go.bits .and .i64 (shr .i64 x11 (IntKind.u64.wrap (x14))) 1) = 1 then (if 0 ≤ (wrap64 (x11 - (shl .i64 1 (IntKind.u64.wrap (x14))))) then (if (wrap64 (x11 - (shl .i64 1 (IntKind.u64.wrap (x14))))) < (x10.length : Int) then (if rdOf false x10 (wrap64 (x11 - (shl .i64 1 (IntKind.u64.wrap (x14))))) = true then (if 0 ≤ x11 then (if x11 < (x10.length : Int) then (spec_l11Table.l3 k x1 x5 x6 x7 x9 (x10.set (x11 : Int).toNat true) x11 (wrap64 (x14 + 1)) FA EA) else (none)) else (none)) else (spec_l11Table.l3 k x1 x5 x6 x7 x9 x10 x11 (wrap64 (x14 + 1)) FA EA)) else (none)) else (none)) else (spec_l11Table.l3 k x1 x5 x6 x7 x9 x10 x11 (wrap64 (x14 + 1)) FA EA)) else (none)) else (if 0 ≤ x11 then (if x11 < (x10.length : Int) then (if rdOf false x10 x11 = true then (spec_l11Table.l2 k x1 x5 x6 x7 x9 x10 (wrap64 (x11 + 1)) FA EA) else (if x11 < (x7.length : Int) then (spec_l11Table.l2 k x1 x5 x6 (x7.set (x11 : Int).toNat false) x9 x10 (wrap64 (x11 + 1)) FA EA) else (none))) else (none)) else (none))
end
def spec_l11Table.f (k : Nat) (l0_0 : List (S164)) (l0_1 : List (S115)) (l1 : List (List (S113))) : Option (List Bool) := (spec_l11All.f k l0_0 l0_1).bind fun jA => (if 0 ≤ (IntKind.u64.wrap ((jA.length : Int))) then (if 0 ≤ (shl .i64 1 (IntKind.u64.wrap ((jA.length : Int)))) then (if (shl .i64 1 (IntKind.u64.wrap ((jA.length : Int))) : Int).toNat ≤ 281474976710656 then (spec_l11Table.l0 k l1 jA (shl .i64 1 (IntKind.u64.wrap ((jA.length : Int)))) (List.replicate (shl .i64 1 (IntKind.u64.wrap ((jA.length : Int))) : Int).toNat false) 0 l0_0 l0_1) else (none)) else (none)) else (none))
def spec_l11Table.T15 : Bool × List (List Nat × List Nat) := (true, [([], []), ([], []), ([], []), ([1, 2], [1, 2]), ([3], [3]), ([], []), ([], []), ([5, 6], [5, 6]), ([0, 4, 7, 7], [0, 4, 7]), ([8], [8]), ([9], [9]), ([9], [9]), ([], []), ([12, 10, 8, 0, 1, 2, 3, 4, 5, 6, 7, 8, 9, 10, 12], [10, 12]), ([11, 13, 0, 1, 2, 3, 4, 5, 6, 7, 8, 9, 10, 11, 12, 13], [11])])
def spec_l11Table.B15 : List Nat := [0, 0, 0, 6, 14, 0, 0, 96, 255, 511, 1023, 1023, 0, 6143, 16383]
theorem spec_l11Table.tab15 : rtab .any (opsOf Try.f110 15) = spec_l11Table.T15 := by kernel_rfl
theorem spec_l11Table.bits15 : waitsOk spec_l11Table.T15.2 spec_l11Table.B15 = true := by kernel_rfl
theorem spec_l11Table.calls (k : Nat) (g0 : Nat) (A0_0 : Option Addr) (c0_0 : Nat) (l0_0 : List (S164)) (A0_1 : Option Addr) (c0_1 : Nat) (l0_1 : List (S115)) (A1 : Option Addr) (c1 : Nat) (l1 : List (List (S113))) (r : List Bool) (w : World) (IC : w.heap[g0]? = some (.cells #[.slice A0_0 l0_0.length c0_0, .slice A0_1 l0_1.length c0_1] 27 (0, 0))) (WB : Kd.C k164 w A0_0 l0_0.length l0_0) (ZB : l0_0.length ≤ c0_0) (VB : Kd.C k115 w A0_1 l0_1.length l0_1) (YB : l0_1.length ≤ c0_1) (ZD : Kd.C (Kd.slice 113 k113) w A1 l1.length l1) (cE : l1.length ≤ c1) (h : spec_l11Table.f k l0_0 l0_1 l1 = some r) :
  Calls Try.prog 110 #[.pointer (some ⟨g0, 0, none⟩), .slice A1 l1.length c1] w fun e w' => ∃ v0_ : Value, e = .returned (v0_) ∧ Kd.R Kd.bool 4 w' w.heap.size (fun _ => True) v0_ r ∧ Below w.heap.size w w' := by
 have BE := Try.underlying35
 have oB := zQ WB
 have sB := zQ ZB
 clear WB ZB
 have nB := zQ VB
 have rB := zQ YB
 clear VB YB
 have FE := zQ ZD
 have PE := zQ cE
 clear ZD cE
 have mA := zQ IC
 clear IC
 have HB := zQ (Below.refl w.heap.size w)
 have H := h; unfold spec_l11Table.f at H
 clear h
 replace H := zob H; obtain ⟨jA, A3, H⟩ := H
 obtain ⟨dB, NB⟩ : ∃ j_ : Int, (IntKind.u64.wrap ((jA.length : Int))) = j_ := ⟨_, rfl⟩
 replace H : (if 0 ≤ (dB) then (if 0 ≤ (shl .i64 1 (dB)) then (if (shl .i64 1 (dB) : Int).toNat ≤ 281474976710656 then (spec_l11Table.l0 k l1 jA (shl .i64 1 (dB)) (List.replicate (shl .i64 1 (dB) : Int).toNat false) 0 l0_0 l0_1) else (none)) else (none)) else (none)) = some r := by first | (rw [NB] at H; exact H) | (simp only [NB] at H ⊢; exact H)
 (try rw [NB] at A3)
 by_cases c5 : 0 ≤ (dB)
 ·rw [if_pos c5] at H
  have uC := eq_true c5; have tC := decide_eq_true c5; clear c5; obtain ⟨CA, uB⟩ : ∃ j_ : Int, (shl .i64 1 (dB)) = j_ := ⟨_, rfl⟩
  replace H : (if 0 ≤ (CA) then (if (CA : Int).toNat ≤ 281474976710656 then (spec_l11Table.l0 k l1 jA CA (List.replicate (CA : Int).toNat false) 0 l0_0 l0_1) else (none)) else (none)) = some r := by first | (rw [uB] at H; exact H) | (simp only [uB] at H ⊢; exact H)
  (try rw [uB] at A3)
  have hji6_ : (IntKind.i64.wrap (1 * 2 ^ min (dB).toNat 64)) = CA := uB; have hji6z : (dB) ≤ 64 → (IntKind.i64.wrap (1 * 2 ^ (dB).toNat)) = CA := shl_small uB
  have hji6u : (IntKind.i64.wrap (2 ^ min (dB).toNat 64)) = CA := by have h_ := hji6_; rw [Int.one_mul] at h_; exact h_
  have hji6v : (dB) ≤ 64 → (IntKind.i64.wrap (2 ^ (dB).toNat)) = CA := fun hle_ => by have h_ := hji6z hle_; rw [Int.one_mul] at h_; exact h_
  have hji6y : (wrap64 (1 * 2 ^ min (dB).toNat 64)) = CA := (i64_w _).symm.trans hji6_
  have hji6x : (dB) ≤ 64 → (wrap64 (1 * 2 ^ (dB).toNat)) = CA := fun h_ => (i64_w _).symm.trans (hji6z h_)
  by_cases c7 : 0 ≤ (CA)
  ·rw [if_pos c7] at H
   have sC := eq_true c7; have rC := decide_eq_true c7; clear c7
   by_cases c8 : (CA : Int).toNat ≤ 281474976710656
   ·rw [if_pos c8] at H
    have qC := eq_true c8; have pC := decide_eq_true c8; clear c8; obtain ⟨FC, UB⟩ : ∃ y_ : List Bool, y_ = (List.replicate (CA : Int).toNat false) := ⟨_, rfl⟩; replace H : (spec_l11Table.l0 k l1 jA CA FC 0 l0_0 l0_1) = some r := zh H; have fC := zQ UB; clear UB; have H' := zQ H; clear H
    go_enter Try.func110, Try.ntmps110
    go_wp2_with (first | ((with_reducible refine zgc 109 ?_); refine zgo (some 16) Try.func109 #[.pointer (some ⟨g0, 0, none⟩)] ?_; (with_reducible refine (spec_l11All.calls k g0 A0_0 c0_0 l0_0 A0_1 c0_1 l0_1 jA _ (zb mA.out) ?side2 sB.out ?side4 rB.out A3.out).mono ?_); (case side2 => repeat (first | exact oB.out | (with_reducible refine Kd.C_alloc ?_ _) | (with_reducible refine Kd.C_drewN ?_ _) | (with_reducible refine Kd.C_drew ?_))); (case side4 => repeat (first | exact nB.out | (with_reducible refine Kd.C_alloc ?_ _) | (with_reducible refine Kd.C_drewN ?_ _) | (with_reducible refine Kd.C_drew ?_))); rintro e w9 ⟨vE, rfl, RA, hb⟩; refine ⟨_, rfl, ?_⟩; have pB := zQ (Kd.R_lower RA (below_size (zB HB.out))); replace mA := zbl mA.out hb; replace HB := zbs HB.out hb; (try clear hb); (try clear RA); obtain ⟨LA, KA, TD⟩ := Kd.R_slice pB.out; subst TD) | ((with_reducible refine zd 22 ?_); refine Kd.R_make Kd.bool _ 4 rfl (N := 22) rfl 131 _ _ rfl CA rfl rfl Try.underlying131 (.bool false) 1 info4 rfl (by decide) (by omega) false (ok := fun _ => True) (okp := fun _ => True) rfl (fun _ hk => hk) trivial (zD) (Nat.le_trans (Nat.mul_le_mul_right _ (zD : CA.toNat ≤ 281474976710656)) (by omega)) (Below.refl _ _) (Nat.le_refl _) ?_; intro NA JE xB hb hg_ hnew_; clear hg_ hnew_; (first | rw [← fC.out] at xB | (simp only [Int.reduceToNat] at xB; rw [← fC.out] at xB)); have jD := zQ (Kd.R_lower xB (below_size (zB HB.out))); replace pB := zRb pB.out hb; replace mA := zbl mA.out hb; replace HB := zbs HB.out hb; clear hb xB))
    go_loopg [8] k (fun kq v8 w' => ∃ (VA : List Bool) (MA : Int), v8 = .int .i64 MA ∧ Aside0 (spec_l11Table.l0 kq l1 jA CA VA MA l0_0 l0_1 = some r) ∧ Aside0 (kq ≤ k) ∧ Aside0 (Kd.R (Kd.int .i64) 2 w' w.heap.size (fun _ => True) (.slice LA jA.length KA) jA) ∧ Aside0 (Kd.R Kd.bool 4 w' w.heap.size (fun _ => True) NA VA) ∧ Aside0 (w'.heap[g0]? = some (.cells #[(.slice A0_0 l0_0.length c0_0), (.slice A0_1 l0_1.length c0_1)] 27 (0, 0))) ∧ Aside0 (Below w.heap.size w w'))
    case atStart => exact ⟨(FC), (0), (zF), H', ⟨Nat.le_refl _⟩, ⟨zR pB.out⟩, ⟨zR jD.out⟩, ⟨zb mA.out⟩, ⟨zB HB.out⟩⟩
    case round =>
     clear H'; (try clear c1); (try clear p2); (try clear c5); (try clear uC); (try clear tC); (try clear p6); (try clear c7); (try clear sC); (try clear rC); (try clear c8); (try clear qC); (try clear pC); (try clear rE); (try clear VD); obtain ⟨VA, MA, rfl, HA, qB, gA, fA, mA, HB⟩ := hrel
     cases gk with
     | zero => exact absurd HA.out (by simp [spec_l11Table.l0])
     | succ k1 =>
      have H := HA.out; clear HA
      simp only [spec_l11Table.l0] at H
      by_cases dC : MA < CA
      ·rw [if_pos dC] at H
       have FB := decide_eq_true dC; clear dC
       by_cases DC : 0 ≤ MA
       ·rw [if_pos DC] at H
        have cC := decide_eq_true DC; clear DC
        by_cases CC : MA < (VA.length : Int)
        ·rw [if_pos CC] at H
         have bC := decide_eq_true CC; clear CC; obtain ⟨jC, TB⟩ : ∃ y_ : List Bool, y_ = (VA.set (MA : Int).toNat true) := ⟨_, rfl⟩; replace H : (spec_l11Table.l0 k1 l1 jA CA jC (wrap64 (MA + 1)) l0_0 l0_1) = some r := zh H; have hD := zQ TB; clear TB; have H' := zQ H; clear H; have lC : 0 ≤ (MA : Int) := zD; have kC : (MA : Int) < ((VA.length : Int) : Int) := zD; obtain ⟨OB, SC, QC, LC, gl16, cl16, HG16⟩ := Kd.R_form fA.out (by omega)
         (first | cases QC | (injection QC with ea_ en_ ec_; (first | subst ea_ | (injection ea_ with ea_; subst ea_)); subst ec_; clear en_))
         have GB16 := zQ LC; have GG16 := zQ HG16; clear LC gl16 HG16; obtain ⟨wB, RD⟩ := Kd.R_celln false fA.out (MA : Int) lC kC; replace lC := eq_true lC; replace kC := eq_true kC; have HP17 := Kd.R_putg fA.out (MA : Int) true
         go_wp2_with (first | ((with_reducible refine gate_store (t := 4) (p := 30) rfl ?_); refine store_event (t := 4) (p := 30) (v := ?vo_w18) (w1 := (wr.setCell ⟨OB, (MA : Int).toNat, none⟩ (.bool true))) ?hg ?ho ?hn ?hr ?_; (case ho => rfl); (case hg => rfl); (case hn => rfl); (case hr => first | (go_simp; done) | (go_simp; rfl)); intro GD hw; have hg : wr.grownBy GD (some OB) := (by rw [hw]; exact HP17.2); have hp_ : Kd.R Kd.bool 4 GD w.heap.size (fun _ => True) (.slice (some ⟨OB, 0, none⟩) VA.length SC) jC := (by rw [hw, hD.out]; exact HP17.1); clear HP17; replace gA := zQ (Kd.R_over' (v := (.slice (some ⟨OB, 0, none⟩) VA.length SC)) (zR gA.out) (Kd.R_typed fA.out) (by decide) hg); replace mA := zQ (blk_grown (g := g0) (o := .cells #[.slice A0_0 l0_0.length c0_0, .slice A0_1 l0_1.length c0_1] 27 (0, 0)) (zb mA.out) hg (Kd.R_ne fA.out mA.out (by decide))); replace fA := zQ (hp_); replace HB := zQ ((by rw [hw]; exact below_set (HB.out) GB16.out : Below w.heap.size w GD)); clear hg hw hp_))
         go_roundg k1
         case measure => have := qB.out; omega
         case rel => exact ⟨(jC), (wrap64 (MA + 1)), (zF), H', ⟨by have := qB.out; omega⟩, ⟨zR gA.out⟩, ⟨zR fA.out⟩, ⟨zb mA.out⟩, ⟨zB HB.out⟩⟩
        ·rw [if_neg CC] at H
         exact absurd H (by simp)
       ·rw [if_neg DC] at H
        exact absurd H (by simp)
      ·rw [if_neg dC] at H
       have FB := decide_eq_false dC; clear dC; have H' := zQ H; clear H
       go_wp2
       go_loopg [9] k1 (fun kq v9 w' => ∃ (vB : List Bool) (lA : Int), v9 = .int .i64 lA ∧ Aside0 (spec_l11Table.l1 kq l1 jA CA vB lA l0_0 l0_1 = some r) ∧ Aside0 (kq ≤ k1) ∧ Aside0 (Kd.R (Kd.int .i64) 2 w' w.heap.size (fun _ => True) (.slice LA jA.length KA) jA) ∧ Aside0 (Kd.R Kd.bool 4 w' w.heap.size (fun _ => True) NA vB) ∧ Aside0 (w'.heap[g0]? = some (.cells #[(.slice A0_0 l0_0.length c0_0), (.slice A0_1 l0_1.length c0_1)] 27 (0, 0))) ∧ Aside0 (Below w.heap.size w w'))
       case atStart => exact ⟨(VA), (0), (zF), H', ⟨Nat.le_refl _⟩, ⟨zR gA.out⟩, ⟨zR fA.out⟩, ⟨zb mA.out⟩, ⟨zB HB.out⟩⟩
       case round =>
        clear H'; (try clear c1); (try clear p1); (try clear q1); (try clear AE); (try clear p2); (try clear c5); (try clear uC); (try clear tC); (try clear p6); (try clear c7); (try clear sC); (try clear rC); (try clear c8); (try clear qC); (try clear pC); (try clear rE); (try clear VD); (try clear dC); (try clear FB); (try clear DC); (try clear cC); (try clear CC); (try clear bC); (try clear lC); (try clear kC); (try clear ND); (try clear SD); (try clear wB); (try clear lC); (try clear p2); (try clear p6); (try clear kC); obtain ⟨vB, lA, rfl, HA, HK2, gA, fA, mA, HB⟩ := hrel
        cases gk with
        | zero => exact absurd HA.out (by simp [spec_l11Table.l1])
        | succ k2 =>
         have H := HA.out; clear HA
         simp only [spec_l11Table.l1] at H
         by_cases wC : lA < (l1.length : Int)
         ·rw [if_pos wC] at H
          have aC := decide_eq_true wC; clear wC
          by_cases BC : 0 ≤ CA
          ·rw [if_pos BC] at H
           have cD := eq_true BC; have bD := decide_eq_true BC; clear BC
           by_cases AC : (CA : Int).toNat ≤ 281474976710656
           ·rw [if_pos AC] at H
            have aD := eq_true AC; have ZC := decide_eq_true AC; clear AC; obtain ⟨EC, SB⟩ : ∃ y_ : List Bool, y_ = (List.replicate (CA : Int).toNat false) := ⟨_, rfl⟩; replace H : (spec_l11Table.l2 k2 l1 jA CA vB lA EC 0 l0_0 l0_1) = some r := zh H; have eC := zQ SB; clear SB; have H' := zQ H; clear H
            go_wp2_with (first | ((with_reducible refine zd 38 ?_); refine Kd.R_make Kd.bool _ 4 rfl (N := 38) rfl 131 _ _ rfl CA rfl rfl Try.underlying131 (.bool false) 1 info4 rfl (by decide) (by omega) false (ok := fun _ => True) (okp := fun _ => True) rfl (fun _ hk => hk) trivial (zD) (Nat.le_trans (Nat.mul_le_mul_right _ (zD : CA.toNat ≤ 281474976710656)) (by omega)) (Below.refl _ _) (Nat.le_refl _) ?_; intro aB IE tB hb hg_ hnew_; clear hg_ hnew_; (first | rw [← eC.out] at tB | (simp only [Int.reduceToNat] at tB; rw [← eC.out] at tB)); have iD := zQ (Kd.R_lower (Kd.R_new' tB (Kd.R_lt (zR fA.out))) (below_size (zB HB.out))); replace gA := zRb gA.out hb; replace fA := zQ (Kd.R_elder' (zR fA.out) (Kd.R_base tB) hb); replace mA := zbl mA.out hb; replace HB := zbs HB.out hb; clear hb tB))
            go_loopg [11] k2 (fun kq xE w' => ∃ (nA : List Bool) (tA : List Bool) (aA : Int), xE = .int .i64 aA ∧ Aside0 (spec_l11Table.l2 kq l1 jA CA nA lA tA aA l0_0 l0_1 = some r) ∧ Aside0 (kq ≤ k2) ∧ Aside0 (Kd.R (Kd.int .i64) 2 w' w.heap.size (fun _ => True) (.slice LA jA.length KA) jA) ∧ Aside0 (Kd.R Kd.bool 4 w' w.heap.size (fun k_ => some k_ ≠ (aB : Value).ownBlock) NA nA) ∧ Aside0 (Kd.R Kd.bool 4 w' w.heap.size (fun k_ => some k_ ≠ (NA : Value).ownBlock) aB tA) ∧ Aside0 (w'.heap[g0]? = some (.cells #[(.slice A0_0 l0_0.length c0_0), (.slice A0_1 l0_1.length c0_1)] 27 (0, 0))) ∧ Aside0 (Below w.heap.size w w'))
            case atStart => exact ⟨(vB), (EC), (0), (zF), H', ⟨Nat.le_refl _⟩, ⟨zR gA.out⟩, ⟨by (with_reducible repeat (first | apply Kd.R_alloc | apply Kd.R_drewN | apply Kd.R_drew)); exact Kd.R_mono fA.out (fun _ hk => hk.2)⟩, ⟨by (with_reducible repeat (first | apply Kd.R_alloc | apply Kd.R_drewN | apply Kd.R_drew)); exact Kd.R_mono iD.out (fun _ hk => hk.2)⟩, ⟨zb mA.out⟩, ⟨zB HB.out⟩⟩
            case round =>
             clear H'; (try clear c1); (try clear p1); (try clear q1); (try clear AE); (try clear c2); (try clear p2); (try clear c5); (try clear uC); (try clear tC); (try clear p6); (try clear c7); (try clear sC); (try clear rC); (try clear c8); (try clear qC); (try clear pC); (try clear rE); (try clear VD); (try clear dC); (try clear FB); (try clear DC); (try clear cC); (try clear CC); (try clear bC); (try clear lC); (try clear kC); (try clear ND); (try clear SD); (try clear wC); (try clear aC); (try clear BC); (try clear cD); (try clear bD); (try clear AC); (try clear aD); (try clear ZC); (try clear wB); (try clear p1); (try clear lC); (try clear p2); (try clear p6); (try clear q1); (try clear kC); obtain ⟨nA, tA, aA, rfl, HA, HK3, gA, fA, bA, mA, HB⟩ := hrel
             cases gk with
             | zero => exact absurd HA.out (by simp [spec_l11Table.l2])
             | succ k3 =>
              have H := HA.out; clear HA
              simp only [spec_l11Table.l2] at H
              by_cases yC : aA < CA
              ·rw [if_pos yC] at H
               have YC := decide_eq_true yC; clear yC
               by_cases XC : 0 ≤ lA
               ·rw [if_pos XC] at H
                have qE := decide_eq_true XC; clear XC
                by_cases CD : lA < (l1.length : Int)
                ·rw [if_pos CD] at H
                 have pE := decide_eq_true CD; clear CD; replace H := zob H; obtain ⟨JA, sE, H⟩ := H; replace H := zob H; obtain ⟨⟨qA, uA, XA⟩, WD, H⟩ := H
                 by_cases BD : 0 ≤ aA
                 ·rw [if_pos BD] at H
                  have oE := decide_eq_true BD; clear BD
                  by_cases AD : aA < (tA.length : Int)
                  ·rw [if_pos AD] at H
                   have nE := decide_eq_true AD; clear AD; obtain ⟨iC, RB⟩ : ∃ y_ : List Bool, y_ = (tA.set (aA : Int).toNat XA) := ⟨_, rfl⟩; replace H : (spec_l11Table.l3 k3 l1 jA CA nA lA iC aA 0 l0_0 l0_1) = some r := zh H; have gD := zQ RB; clear RB; have H' := zQ H; clear H
                   try go_wp2
                   have n0_ := zQ (Kd.R_drew gA.out); have n1_ := zQ (Kd.R_drew fA.out); have n2_ := zQ (Kd.R_drew bA.out); have n3_ := zQ (blk_drew mA.out); have n4_ := zQ (below_drew1 HB.out); clear gA; clear fA; clear bA; clear mA; clear HB; have gA := n0_; have fA := n1_; have bA := n2_; have mA := n3_; have HB := n4_; clear n0_ n1_ n2_ n3_ n4_; have MB : 0 ≤ (lA : Int) := zD; have LB : lA < (l1.length : Int) := zD; obtain ⟨JB, A251_0, c251_0, UD, OA, jB, mB⟩ := at_L9 FE.out lA MB LB; have hA := OA
                   cases UD
                   replace OA := zw HB.out OA; have SA := zQ mB; have YA := zQ jB; clear mB jB; replace MB := eq_true MB; replace LB := eq_true LB
                   refine zs (fun w' => w'.cell? (JB.add (lA).toNat) = some (.slice A251_0 (rd_L9 l1 lA).length c251_0)) [] 15 (((HB.out.cell (World.block_lt_of_cell? w _ hA)).trans hA)) (fun xA => ?_); refine with_tabW spec_l11Table.tab15 spec_l11Table.bits15 (fun HT_ HW_ => ?_)
                   generalize wr.drew = HE at gA fA bA mA HB SA OA xA ⊢
                   refine zp 0 45 ?_
                   refine zp 1 46 ?_
                   refine zp 2 47 ?_
                   refine zp 3 48 ?_
                   refine zp 5 50 ?_
                   refine zp 6 51 ?_
                   refine zt 4 49 xA ?_
                   refine join_ (σ := Value × Value × Nat) 2 (zm 15 8191) (fun s_ => [(52, s_.1), (53, .tuple #[.agg #[s_.2.1, .int .i64 uA], .bool XA]), (12, .pointer (some ⟨s_.2.2, 0, none⟩)), (44, .tuple #[.agg #[s_.2.1, .int .i64 uA], .bool XA]), (54, .agg #[s_.2.1, .int .i64 uA]), (55, .bool XA)]) (fun s_ w' => (w'.cell? (JB.add (lA).toNat) = some (.slice A251_0 (rd_L9 l1 lA).length c251_0)) ∧ (Kd.R (Kd.int .i64) 2 w' w.heap.size (fun k_ => some k_ ≠ (s_.2.1 : Value).ownBlock ∧ some k_ ≠ (.slice LA jA.length KA : Value).ownBlock) s_.1 JA) ∧ (Kd.R (Kd.int .i64) 2 w' w.heap.size (fun k_ => some k_ ≠ (s_.1 : Value).ownBlock ∧ some k_ ≠ (.slice LA jA.length KA : Value).ownBlock) s_.2.1 qA) ∧ (Kd.R Kd.bool 4 w' w.heap.size (fun k_ => some k_ ≠ (NA : Value).ownBlock) aB tA) ∧ (Kd.R (Kd.int .i64) 2 w' w.heap.size (fun k_ => some k_ ≠ (s_.1 : Value).ownBlock ∧ some k_ ≠ (s_.2.1 : Value).ownBlock) (.slice LA jA.length KA) jA) ∧ (Kd.R Kd.bool 4 w' w.heap.size (fun k_ => some k_ ≠ (aB : Value).ownBlock) NA nA) ∧ (w'.heap[g0]? = some (.cells #[.slice A0_0 l0_0.length c0_0, .slice A0_1 l0_1.length c0_1] 27 (0, 0))) ∧ (w'.heap[s_.2.2]? = some (.cells #[.slice none 0 0, .int .i64 0] 35 (0, 0))) ∧ (w.heap.size ≤ s_.2.2) ∧ (w.heap.size ≤ s_.2.2) ∧ (g0 ≠ s_.2.2) ∧ (s_.2.2 ≠ g0) ∧ (Below w.heap.size w w')) ?_ ?_
                   rotate_left
                   ·intro hCont
                    refine two_ (i := 7) (j := 12) (Ni := some 52) (Nj := some 12) (zm 15 255) (zm 15 4223) rfl rfl rfl rfl (two_of HT_.out (by kernel_rfl)) (by decide) (by decide) (fun K hK => ?_) (fun K hK => ?_)
                    ·skip
                     refine goes_ Try.func111 (by kernel_rfl) rfl #[.slice LA jA.length KA, .int .i64 aA] (by rfl) rfl rfl zM ?_
                     with_reducible refine (spec_l11Part.calls k3 _ _ jA aA JA _ ?side1 ?side2 sE.out).mono ?_
                     (case side1 => exact zk (Kd.R_reads' gA.out).2.2)
                     (case side2 => exact (Kd.R_reads' gA.out).2.1)
                     rintro e uE ⟨ZA, rfl, RA, hb⟩
                     refine ⟨_, rfl, ?_⟩
                     have n0_ := zQ (Kd.R_elder' (zR gA.out) (Kd.R_base RA) hb); have n1_ := zRb fA.out hb; have n2_ := zRb bA.out hb; have n3_ := zQ (Kd.R_lower (Kd.R_new' RA (Kd.R_lt (zR gA.out))) (below_size (zB HB.out))); have n4_ := zbl mA.out hb; have n5_ := zbs HB.out hb; clear gA; clear fA; clear bA; clear mA; clear HB; have gA := n0_; have fA := n1_; have bA := n2_; have kA := n3_; have mA := n4_; have HB := n5_; clear n0_ n1_ n2_ n3_ n4_ n5_
                     (try clear hb)
                     (try clear pD)
                     (try clear hk)
                     (try clear hi)
                     (try clear RA)
                     obtain ⟨kD, RC, OC⟩ := Kd.R_slice kA.out
                     (first | subst OC | (injection OC with f1_ f2_ f3_; have f4_ := f1_.symm; have f5_ := f3_.symm; clear f1_ f2_ f3_; subst f4_; subst f5_))
                     refine hK.out _ _ (((HB.out.cell (World.block_lt_of_cell? w _ hA)).trans hA)) (fun xA => ?_)
                     clear hK K
                     refine zn 52 ?_
                     refine two_ (i := 8) (j := 12) (Ni := some 53) (Nj := some 12) (zm 15 511) (zm 15 4351) rfl rfl rfl rfl (two_of HT_.out (by kernel_rfl)) (by decide) (by decide) (fun K hK => ?_) (fun K hK => ?_)
                     ·skip
                      refine goes_ Try.func74 (by kernel_rfl) rfl #[.pointer (some ⟨g0, 0, none⟩), .slice A251_0 (rd_L9 l1 lA).length c251_0, .slice kD JA.length RC] (by rfl) rfl rfl zM ?_
                      with_reducible refine (spec_l11Holds.calls k3 g0 A0_0 c0_0 l0_0 A0_1 c0_1 l0_1 _ _ (rd_L9 l1 lA) _ _ JA qA uA XA _ ?side1 ?side2 ?side3 ?side4 ?side5 ?side6 ?side7 ?side8 ?side9 WD.out).mono ?_
                      (case side1 => refine zb ?_; exact mA.out)
                      (case side2 => exact zC oB.out HB.out)
                      (case side3 => exact sB.out)
                      (case side4 => exact zC nB.out HB.out)
                      (case side5 => exact rB.out)
                      (case side6 => exact zC SA.out HB.out)
                      (case side7 => exact YA.out)
                      (case side8 => exact zk (Kd.R_reads' kA.out).2.2)
                      (case side9 => exact (Kd.R_reads' kA.out).2.1)
                      rintro e GE ⟨WA, rfl, RA, hb⟩
                      refine ⟨_, rfl, ?_⟩
                      have n0_ := zQ (Kd.R_elder' (zR gA.out) (Kd.R_base RA) hb); have n1_ := zRb fA.out hb; have n2_ := zRb bA.out hb; have n3_ := zQ (Kd.R_elder' (zR kA.out) (Kd.R_base RA) hb); have n4_ := zQ (Kd.R_lower (Kd.R_new' (Kd.R_new' RA (Kd.R_lt (zR gA.out))) (Kd.R_lt (zR kA.out))) (below_size (zB HB.out))); have n5_ := zbl mA.out hb; have n6_ := zbs HB.out hb; clear gA; clear fA; clear bA; clear kA; clear mA; clear HB; have gA := n0_; have fA := n1_; have bA := n2_; have kA := n3_; have yA := n4_; have mA := n5_; have HB := n6_; clear n0_ n1_ n2_ n3_ n4_ n5_ n6_
                      (try clear hb)
                      (try clear pD)
                      (try clear hk)
                      (try clear hi)
                      (try clear RA)
                      refine hK.out _ _ (((HB.out.cell (World.block_lt_of_cell? w _ hA)).trans hA)) (fun xA => ?_)
                      clear hK K
                      refine zn 53 ?_
                      refine zp 9 44 ?_
                      refine zp 10 54 ?_
                      refine zp 11 55 ?_
                      refine zo 12 (some 12) (fun K hK => ?_)
                      refine box_step ?hg (N := 12) ?hd (cs := #[.slice none 0 0, .int .i64 0]) (t := 35) ?hr ?_; (case hd => rfl); (case hg => rfl); (case hr => first | (go_simp; done) | (go_simp; rfl))
                      intro eA hg YD cB hb
                      have n0_ := zRb gA.out hb; have n1_ := zRb fA.out hb; have n2_ := zRb bA.out hb; have n3_ := zRb kA.out hb; have n4_ := zRb yA.out hb; have n5_ := zbl mA.out hb; have n6_ := zbs HB.out hb; have n7_ := zQ (cB); have n8_ := zgz hg HB.out; have n9_ := zgz hg HB.out; have n10_ := zn1 hg mA.out; have n11_ := zn2 hg mA.out; clear gA; clear fA; clear bA; clear kA; clear yA; clear mA; clear HB; have gA := n0_; have fA := n1_; have bA := n2_; have kA := n3_; have yA := n4_; have mA := n5_; have HB := n6_; have iA := n7_; have IA := n8_; have oA := n9_; have sA := n10_; have GA := n11_; clear n0_ n1_ n2_ n3_ n4_ n5_ n6_ n7_ n8_ n9_ n10_ n11_; clear hb cB hg
                      refine hK.out _ _ (((HB.out.cell (World.block_lt_of_cell? w _ hA)).trans hA)) (fun xA => ?_)
                      clear hK K
                      refine zn 12 ?_
                      exact norm_ (by simp only [putAll, Act.put, List.setIfInBounds_toArray, List.set_cons_zero, List.set_cons_succ]) (hCont (.slice kD JA.length RC, WA, eA) _ ⟨xA, (by (with_reducible repeat (first | apply Kd.R_alloc | apply Kd.R_drewN | apply Kd.R_drew)); exact Kd.R_mono kA.out (fun _ hk => ⟨hk.2, hk.1.2⟩)), (by (with_reducible repeat (first | apply Kd.R_alloc | apply Kd.R_drewN | apply Kd.R_drew)); exact Kd.R_mono yA.out (fun _ hk => ⟨hk.2, hk.1.2⟩)), (zR bA.out), (by (with_reducible repeat (first | apply Kd.R_alloc | apply Kd.R_drewN | apply Kd.R_drew)); exact Kd.R_mono gA.out (fun _ hk => ⟨hk.1.2, hk.2⟩)), (zR fA.out), (zb mA.out), (zb iA.out), IA.out, oA.out, sA.out, GA.out, (zB2 HB.out oA.out)⟩)
                     ·skip
                      refine box_step ?hg (N := 12) ?hd (cs := #[.slice none 0 0, .int .i64 0]) (t := 35) ?hr ?_; (case hd => rfl); (case hg => rfl); (case hr => first | (go_simp; done) | (go_simp; rfl))
                      intro eA hg tE cB hb
                      have n0_ := zRb gA.out hb; have n1_ := zRb fA.out hb; have n2_ := zRb bA.out hb; have n3_ := zRb kA.out hb; have n4_ := zbl mA.out hb; have n5_ := zbs HB.out hb; have n6_ := zQ (cB); have n7_ := zgz hg HB.out; have n8_ := zgz hg HB.out; have n9_ := zn1 hg mA.out; have n10_ := zn2 hg mA.out; clear gA; clear fA; clear bA; clear kA; clear mA; clear HB; have gA := n0_; have fA := n1_; have bA := n2_; have kA := n3_; have mA := n4_; have HB := n5_; have iA := n6_; have IA := n7_; have oA := n8_; have sA := n9_; have GA := n10_; clear n0_ n1_ n2_ n3_ n4_ n5_ n6_ n7_ n8_ n9_ n10_; clear hb cB hg; obtain ⟨KB, EB, CB⟩ := Kd.R_slice kA.out
                      (first | subst CB | (injection CB with f1_ f2_ f3_; have f4_ := f1_.symm; have f5_ := f3_.symm; clear f1_ f2_ f3_; subst f4_; subst f5_))
                      refine hK.out _ _ (((HB.out.cell (World.block_lt_of_cell? w _ hA)).trans hA)) (fun xA => ?_)
                      clear hK K
                      refine zn 12 ?_
                      refine zo 8 (some 53) (fun K hK => ?_)
                      refine goes_ Try.func74 (by kernel_rfl) rfl #[.pointer (some ⟨g0, 0, none⟩), .slice A251_0 (rd_L9 l1 lA).length c251_0, .slice KB JA.length EB] (by rfl) rfl rfl zM ?_
                      with_reducible refine (spec_l11Holds.calls k3 g0 A0_0 c0_0 l0_0 A0_1 c0_1 l0_1 _ _ (rd_L9 l1 lA) _ _ JA qA uA XA _ ?side1 ?side2 ?side3 ?side4 ?side5 ?side6 ?side7 ?side8 ?side9 WD.out).mono ?_
                      (case side1 => refine zb ?_; exact mA.out)
                      (case side2 => exact zC oB.out HB.out)
                      (case side3 => exact sB.out)
                      (case side4 => exact zC nB.out HB.out)
                      (case side5 => exact rB.out)
                      (case side6 => exact zC SA.out HB.out)
                      (case side7 => exact YA.out)
                      (case side8 => exact zk (Kd.R_reads' kA.out).2.2)
                      (case side9 => exact (Kd.R_reads' kA.out).2.1)
                      rintro e YD ⟨WA, rfl, RA, hb⟩
                      refine ⟨_, rfl, ?_⟩
                      have n0_ := zQ (Kd.R_elder' (zR gA.out) (Kd.R_base RA) hb); have n1_ := zRb fA.out hb; have n2_ := zRb bA.out hb; have n3_ := zQ (Kd.R_elder' (zR kA.out) (Kd.R_base RA) hb); have n4_ := zQ (Kd.R_lower (Kd.R_new' (Kd.R_new' RA (Kd.R_lt (zR gA.out))) (Kd.R_lt (zR kA.out))) (below_size (zB2 HB.out oA.out))); have n5_ := zbl mA.out hb; have n6_ := zbl iA.out hb; have n7_ := zbs2 HB.out oA.out hb; clear gA; clear fA; clear bA; clear kA; clear mA; clear iA; clear HB; have gA := n0_; have fA := n1_; have bA := n2_; have kA := n3_; have yA := n4_; have mA := n5_; have iA := n6_; have HB := n7_; clear n0_ n1_ n2_ n3_ n4_ n5_ n6_ n7_
                      (try clear hb)
                      (try clear pD)
                      (try clear hk)
                      (try clear hi)
                      (try clear RA)
                      refine hK.out _ _ (((HB.out.cell (World.block_lt_of_cell? w _ hA)).trans hA)) (fun xA => ?_)
                      clear hK K
                      refine zn 53 ?_
                      refine zp 9 44 ?_
                      refine zp 10 54 ?_
                      refine zp 11 55 ?_
                      exact norm_ (by simp only [putAll, Act.put, List.setIfInBounds_toArray, List.set_cons_zero, List.set_cons_succ]) (hCont (.slice KB JA.length EB, WA, eA) _ ⟨xA, (by (with_reducible repeat (first | apply Kd.R_alloc | apply Kd.R_drewN | apply Kd.R_drew)); exact Kd.R_mono kA.out (fun _ hk => ⟨hk.2, hk.1.2⟩)), (by (with_reducible repeat (first | apply Kd.R_alloc | apply Kd.R_drewN | apply Kd.R_drew)); exact Kd.R_mono yA.out (fun _ hk => ⟨hk.2, hk.1.2⟩)), (zR bA.out), (by (with_reducible repeat (first | apply Kd.R_alloc | apply Kd.R_drewN | apply Kd.R_drew)); exact Kd.R_mono gA.out (fun _ hk => ⟨hk.1.2, hk.2⟩)), (zR fA.out), (zb mA.out), (zb iA.out), IA.out, oA.out, sA.out, GA.out, (zB2 HB.out oA.out)⟩)
                    ·skip
                     refine box_step ?hg (N := 12) ?hd (cs := #[.slice none 0 0, .int .i64 0]) (t := 35) ?hr ?_; (case hd => rfl); (case hg => rfl); (case hr => first | (go_simp; done) | (go_simp; rfl))
                     intro eA hg uE cB hb
                     have n0_ := zRb gA.out hb; have n1_ := zRb fA.out hb; have n2_ := zRb bA.out hb; have n3_ := zbl mA.out hb; have n4_ := zbs HB.out hb; have n5_ := zQ (cB); have n6_ := zgz hg HB.out; have n7_ := zgz hg HB.out; have n8_ := zn1 hg mA.out; have n9_ := zn2 hg mA.out; clear gA; clear fA; clear bA; clear mA; clear HB; have gA := n0_; have fA := n1_; have bA := n2_; have mA := n3_; have HB := n4_; have iA := n5_; have IA := n6_; have oA := n7_; have sA := n8_; have GA := n9_; clear n0_ n1_ n2_ n3_ n4_ n5_ n6_ n7_ n8_ n9_; clear hb cB hg
                     refine hK.out _ _ (((HB.out.cell (World.block_lt_of_cell? w _ hA)).trans hA)) (fun xA => ?_)
                     clear hK K
                     refine zn 12 ?_
                     refine zo 7 (some 52) (fun K hK => ?_)
                     refine goes_ Try.func111 (by kernel_rfl) rfl #[.slice LA jA.length KA, .int .i64 aA] (by rfl) rfl rfl zM ?_
                     with_reducible refine (spec_l11Part.calls k3 _ _ jA aA JA _ ?side1 ?side2 sE.out).mono ?_
                     (case side1 => exact zk (Kd.R_reads' gA.out).2.2)
                     (case side2 => exact (Kd.R_reads' gA.out).2.1)
                     rintro e tE ⟨ZA, rfl, RA, hb⟩
                     refine ⟨_, rfl, ?_⟩
                     have n0_ := zQ (Kd.R_elder' (zR gA.out) (Kd.R_base RA) hb); have n1_ := zRb fA.out hb; have n2_ := zRb bA.out hb; have n3_ := zQ (Kd.R_lower (Kd.R_new' RA (Kd.R_lt (zR gA.out))) (below_size (zB2 HB.out oA.out))); have n4_ := zbl mA.out hb; have n5_ := zbl iA.out hb; have n6_ := zbs2 HB.out oA.out hb; clear gA; clear fA; clear bA; clear mA; clear iA; clear HB; have gA := n0_; have fA := n1_; have bA := n2_; have kA := n3_; have mA := n4_; have iA := n5_; have HB := n6_; clear n0_ n1_ n2_ n3_ n4_ n5_ n6_
                     (try clear hb)
                     (try clear pD)
                     (try clear hk)
                     (try clear hi)
                     (try clear RA)
                     obtain ⟨KB, EB, CB⟩ := Kd.R_slice kA.out
                     (first | subst CB | (injection CB with f1_ f2_ f3_; have f4_ := f1_.symm; have f5_ := f3_.symm; clear f1_ f2_ f3_; subst f4_; subst f5_))
                     refine hK.out _ _ (((HB.out.cell (World.block_lt_of_cell? w _ hA)).trans hA)) (fun xA => ?_)
                     clear hK K
                     refine zn 52 ?_
                     refine zo 8 (some 53) (fun K hK => ?_)
                     refine goes_ Try.func74 (by kernel_rfl) rfl #[.pointer (some ⟨g0, 0, none⟩), .slice A251_0 (rd_L9 l1 lA).length c251_0, .slice KB JA.length EB] (by rfl) rfl rfl zM ?_
                     with_reducible refine (spec_l11Holds.calls k3 g0 A0_0 c0_0 l0_0 A0_1 c0_1 l0_1 _ _ (rd_L9 l1 lA) _ _ JA qA uA XA _ ?side1 ?side2 ?side3 ?side4 ?side5 ?side6 ?side7 ?side8 ?side9 WD.out).mono ?_
                     (case side1 => refine zb ?_; exact mA.out)
                     (case side2 => exact zC oB.out HB.out)
                     (case side3 => exact sB.out)
                     (case side4 => exact zC nB.out HB.out)
                     (case side5 => exact rB.out)
                     (case side6 => exact zC SA.out HB.out)
                     (case side7 => exact YA.out)
                     (case side8 => exact zk (Kd.R_reads' kA.out).2.2)
                     (case side9 => exact (Kd.R_reads' kA.out).2.1)
                     rintro e YD ⟨WA, rfl, RA, hb⟩
                     refine ⟨_, rfl, ?_⟩
                     have n0_ := zQ (Kd.R_elder' (zR gA.out) (Kd.R_base RA) hb); have n1_ := zRb fA.out hb; have n2_ := zRb bA.out hb; have n3_ := zQ (Kd.R_elder' (zR kA.out) (Kd.R_base RA) hb); have n4_ := zQ (Kd.R_lower (Kd.R_new' (Kd.R_new' RA (Kd.R_lt (zR gA.out))) (Kd.R_lt (zR kA.out))) (below_size (zB2 HB.out oA.out))); have n5_ := zbl mA.out hb; have n6_ := zbl iA.out hb; have n7_ := zbs2 HB.out oA.out hb; clear gA; clear fA; clear bA; clear kA; clear mA; clear iA; clear HB; have gA := n0_; have fA := n1_; have bA := n2_; have kA := n3_; have yA := n4_; have mA := n5_; have iA := n6_; have HB := n7_; clear n0_ n1_ n2_ n3_ n4_ n5_ n6_ n7_
                     (try clear hb)
                     (try clear pD)
                     (try clear hk)
                     (try clear hi)
                     (try clear RA)
                     refine hK.out _ _ (((HB.out.cell (World.block_lt_of_cell? w _ hA)).trans hA)) (fun xA => ?_)
                     clear hK K
                     refine zn 53 ?_
                     refine zp 9 44 ?_
                     refine zp 10 54 ?_
                     refine zp 11 55 ?_
                     exact norm_ (by simp only [putAll, Act.put, List.setIfInBounds_toArray, List.set_cons_zero, List.set_cons_succ]) (hCont (.slice KB JA.length EB, WA, eA) _ ⟨xA, (by (with_reducible repeat (first | apply Kd.R_alloc | apply Kd.R_drewN | apply Kd.R_drew)); exact Kd.R_mono kA.out (fun _ hk => ⟨hk.2, hk.1.2⟩)), (by (with_reducible repeat (first | apply Kd.R_alloc | apply Kd.R_drewN | apply Kd.R_drew)); exact Kd.R_mono yA.out (fun _ hk => ⟨hk.2, hk.1.2⟩)), (zR bA.out), (by (with_reducible repeat (first | apply Kd.R_alloc | apply Kd.R_drewN | apply Kd.R_drew)); exact Kd.R_mono gA.out (fun _ hk => ⟨hk.1.2, hk.2⟩)), (zR fA.out), (zb mA.out), (zb iA.out), IA.out, oA.out, sA.out, GA.out, (zB2 HB.out oA.out)⟩)
                   rintro ⟨ZA, WA, eA⟩ UA ⟨hS_, h0_, h1_, h2_, h3_, h4_, h5_, h6_, h7_, h8_, h9_, h10_, h11_⟩
                   have n0_ : Aside0 (Kd.R (Kd.int .i64) 2 UA w.heap.size (fun k_ => some k_ ≠ (WA : Value).ownBlock ∧ some k_ ≠ (.slice LA jA.length KA : Value).ownBlock) ZA JA) := ⟨h0_⟩; have n1_ : Aside0 (Kd.R (Kd.int .i64) 2 UA w.heap.size (fun k_ => some k_ ≠ (ZA : Value).ownBlock ∧ some k_ ≠ (.slice LA jA.length KA : Value).ownBlock) WA qA) := ⟨h1_⟩; have n2_ : Aside0 (Kd.R Kd.bool 4 UA w.heap.size (fun k_ => some k_ ≠ (NA : Value).ownBlock) aB tA) := ⟨h2_⟩; have n3_ : Aside0 (Kd.R (Kd.int .i64) 2 UA w.heap.size (fun k_ => some k_ ≠ (ZA : Value).ownBlock ∧ some k_ ≠ (WA : Value).ownBlock) (.slice LA jA.length KA) jA) := ⟨h3_⟩; have n4_ : Aside0 (Kd.R Kd.bool 4 UA w.heap.size (fun k_ => some k_ ≠ (aB : Value).ownBlock) NA nA) := ⟨h4_⟩; have n5_ : Aside0 (UA.heap[g0]? = some (.cells #[.slice A0_0 l0_0.length c0_0, .slice A0_1 l0_1.length c0_1] 27 (0, 0))) := ⟨h5_⟩; have n6_ : Aside0 (UA.heap[eA]? = some (.cells #[.slice none 0 0, .int .i64 0] 35 (0, 0))) := ⟨h6_⟩; have n7_ : Aside0 (w.heap.size ≤ eA) := ⟨h7_⟩; have n8_ : Aside0 (w.heap.size ≤ eA) := ⟨h8_⟩; have n9_ : Aside0 (g0 ≠ eA) := ⟨h9_⟩; have n10_ : Aside0 (eA ≠ g0) := ⟨h10_⟩; have n11_ : Aside0 (Below w.heap.size w UA) := ⟨h11_⟩; clear gA; clear fA; clear bA; clear mA; clear HB; clear h0_ h1_ h2_ h3_ h4_ h5_ h6_ h7_ h8_ h9_ h10_ h11_; have kA := n0_; have yA := n1_; have bA := n2_; have gA := n3_
                   have fA := n4_; have mA := n5_; have iA := n6_; have IA := n7_; have oA := n8_; have sA := n9_; have GA := n10_; have HB := n11_; clear n0_ n1_ n2_ n3_ n4_ n5_ n6_ n7_ n8_ n9_ n10_ n11_; have xA : UA.cell? (JB.add (lA).toNat) = some (.slice A251_0 (rd_L9 l1 lA).length c251_0) := hS_; obtain ⟨wA, vA, NC⟩ := Kd.R_slice yA.out
                   (first | subst NC | (injection NC with f1_ f2_ f3_; have f4_ := f1_.symm; have f5_ := f3_.symm; clear f1_ f2_ f3_; subst f4_; subst f5_))
                   refine norm_ (a' := ?_) ?_ ?_
                   rotate_left
                   ·simp only [putAll, Act.put, List.setIfInBounds_toArray, List.set_cons_zero, List.set_cons_succ]
                    rfl
                   refine zo 13 none (fun K hK => ?_)
                   have DE : UA.cell? ⟨eA, 0, none⟩ = some (.slice none 0 0) := (blk_cell iA.out 0).trans rfl; have bE := zfz iA.out 0; have mD := sA.out; have oD := GA.out; have CE : UA.cell? ⟨eA, 1, none⟩ = some (.int .i64 0) := (blk_cell iA.out 1).trans rfl; have aE := zfz iA.out 1; have lD := sA.out; have nD := GA.out
                   refine skip_ (w1 := ?_) (by rfl) rfl ?_ ?_
                   rotate_left
                   ·go_simp
                    rfl
                   refine hK.out _ _ (((cell_far (p := ⟨eA, _, none⟩) (by first | exact Nat.ne_of_lt (Nat.lt_of_lt_of_le (by have := World.block_lt_of_cell? _ _ hA; first | rwa [add_block] at this | exact this) IA.out) | (rw [add_block]; exact Nat.ne_of_lt (Nat.lt_of_lt_of_le (by have := World.block_lt_of_cell? _ _ hA; first | rwa [add_block] at this | exact this) IA.out)) | (show (Addr.add _ _).block ≠ _; rw [add_block]; exact Nat.ne_of_lt (Nat.lt_of_lt_of_le (by have := World.block_lt_of_cell? _ _ hA; first | rwa [add_block] at this | exact this) IA.out)) | (dsimp only; exact Nat.ne_of_lt (Nat.lt_of_lt_of_le (by have := World.block_lt_of_cell? _ _ hA; first | rwa [add_block] at this | exact this) IA.out))) _).trans (((cell_far (p := ⟨eA, _, none⟩) (by first | exact Nat.ne_of_lt (Nat.lt_of_lt_of_le (by have := World.block_lt_of_cell? _ _ hA; first | rwa [add_block] at this | exact this) IA.out) | (rw [add_block]; exact Nat.ne_of_lt (Nat.lt_of_lt_of_le (by have := World.block_lt_of_cell? _ _ hA; first | rwa [add_block] at this | exact this) IA.out)) | (show (Addr.add _ _).block ≠ _; rw [add_block]; exact Nat.ne_of_lt (Nat.lt_of_lt_of_le (by have := World.block_lt_of_cell? _ _ hA; first | rwa [add_block] at this | exact this) IA.out)) | (dsimp only; exact Nat.ne_of_lt (Nat.lt_of_lt_of_le (by have := World.block_lt_of_cell? _ _ hA; first | rwa [add_block] at this | exact this) IA.out))) _).trans (xA))))) (fun xA => ?_)
                   clear hK K
                   refine zp 14 13 ?_
                   refine done_ (done_of HT_.out (by kernel_rfl)) ?_
                   have n0_ : Aside0 (Kd.R (Kd.int .i64) 2 ((UA.setCell ⟨eA, 0, none⟩ (.slice wA qA.length vA)).setCell ⟨eA, 1, none⟩ (.int .i64 uA)) w.heap.size (fun k_ => some k_ ≠ (ZA : Value).ownBlock ∧ some k_ ≠ (.slice wA qA.length vA : Value).ownBlock) (.slice LA jA.length KA) jA) := ⟨by (with_reducible repeat (first | apply Kd.R_alloc | apply Kd.R_drewN | apply Kd.R_drew)); exact Kd.R_mono (Kd.R_far (p := ⟨eA, 1, none⟩) (Kd.R_far (p := ⟨eA, 0, none⟩) (Kd.R_types gA.out iA.out (by decide)) (fun _ hk => hk.2) (.slice wA qA.length vA)) (fun _ hk => hk.2) (.int .i64 uA)) (fun _ hk => ⟨hk.1.1, hk.1.2⟩)⟩; have n1_ : Aside0 (Kd.R Kd.bool 4 ((UA.setCell ⟨eA, 0, none⟩ (.slice wA qA.length vA)).setCell ⟨eA, 1, none⟩ (.int .i64 uA)) w.heap.size (fun k_ => some k_ ≠ (aB : Value).ownBlock) NA nA) := ⟨by (with_reducible repeat (first | apply Kd.R_alloc | apply Kd.R_drewN | apply Kd.R_drew)); exact Kd.R_mono (Kd.R_far (p := ⟨eA, 1, none⟩) (Kd.R_far (p := ⟨eA, 0, none⟩) (Kd.R_types fA.out iA.out (by decide)) (fun _ hk => hk.2) (.slice wA qA.length vA)) (fun _ hk => hk.2) (.int .i64 uA)) (fun _ hk => hk.1)⟩
                   have n2_ : Aside0 (Kd.R Kd.bool 4 ((UA.setCell ⟨eA, 0, none⟩ (.slice wA qA.length vA)).setCell ⟨eA, 1, none⟩ (.int .i64 uA)) w.heap.size (fun k_ => some k_ ≠ (NA : Value).ownBlock) aB tA) := ⟨by (with_reducible repeat (first | apply Kd.R_alloc | apply Kd.R_drewN | apply Kd.R_drew)); exact Kd.R_mono (Kd.R_far (p := ⟨eA, 1, none⟩) (Kd.R_far (p := ⟨eA, 0, none⟩) (Kd.R_types bA.out iA.out (by decide)) (fun _ hk => hk.2) (.slice wA qA.length vA)) (fun _ hk => hk.2) (.int .i64 uA)) (fun _ hk => hk.1)⟩; have n3_ : Aside0 (Kd.R (Kd.int .i64) 2 ((UA.setCell ⟨eA, 0, none⟩ (.slice wA qA.length vA)).setCell ⟨eA, 1, none⟩ (.int .i64 uA)) w.heap.size (fun k_ => some k_ ≠ (.slice LA jA.length KA : Value).ownBlock ∧ some k_ ≠ (.slice wA qA.length vA : Value).ownBlock) ZA JA) := ⟨by (with_reducible repeat (first | apply Kd.R_alloc | apply Kd.R_drewN | apply Kd.R_drew)); exact Kd.R_mono (Kd.R_far (p := ⟨eA, 1, none⟩) (Kd.R_far (p := ⟨eA, 0, none⟩) (Kd.R_types kA.out iA.out (by decide)) (fun _ hk => hk.2) (.slice wA qA.length vA)) (fun _ hk => hk.2) (.int .i64 uA)) (fun _ hk => ⟨hk.1.2, hk.1.1⟩)⟩
                   have n4_ : Aside0 (Kd.R (Kd.int .i64) 2 ((UA.setCell ⟨eA, 0, none⟩ (.slice wA qA.length vA)).setCell ⟨eA, 1, none⟩ (.int .i64 uA)) w.heap.size (fun k_ => some k_ ≠ (.slice LA jA.length KA : Value).ownBlock ∧ some k_ ≠ (ZA : Value).ownBlock) (.slice wA qA.length vA) qA) := ⟨by (with_reducible repeat (first | apply Kd.R_alloc | apply Kd.R_drewN | apply Kd.R_drew)); exact Kd.R_mono (Kd.R_far (p := ⟨eA, 1, none⟩) (Kd.R_far (p := ⟨eA, 0, none⟩) (Kd.R_types yA.out iA.out (by decide)) (fun _ hk => hk.2) (.slice wA qA.length vA)) (fun _ hk => hk.2) (.int .i64 uA)) (fun _ hk => ⟨hk.1.2, hk.1.1⟩)⟩; have n5_ : Aside0 (((UA.setCell ⟨eA, 0, none⟩ (.slice wA qA.length vA)).setCell ⟨eA, 1, none⟩ (.int .i64 uA)).heap[g0]? = some (.cells #[.slice A0_0 l0_0.length c0_0, .slice A0_1 l0_1.length c0_1] 27 (0, 0))) := ⟨by refine zb ?_; refine blk_far ?_ sA.out _; refine zb ?_; refine blk_far ?_ sA.out _; refine zb ?_; exact mA.out⟩; have n6_ : Aside0 (((UA.setCell ⟨eA, 0, none⟩ (.slice wA qA.length vA)).setCell ⟨eA, 1, none⟩ (.int .i64 uA)).heap[eA]? = some (.cells #[.slice wA qA.length vA, .int .i64 uA] 35 (0, 0))) := ⟨by refine zb ?_; refine blk_put (cs := #[.slice wA qA.length vA, .int .i64 0]) ?_ 1 _ rfl; refine zb ?_; refine blk_put (cs := #[.slice none 0 0, .int .i64 0]) ?_ 0 _ rfl; refine zb ?_; exact iA.out⟩
                   have n7_ : Aside0 (Below w.heap.size w ((UA.setCell ⟨eA, 0, none⟩ (.slice wA qA.length vA)).setCell ⟨eA, 1, none⟩ (.int .i64 uA))) := ⟨zB2 HB.out oA.out⟩
                   (try clear gA)
                   (try clear fA)
                   (try clear bA)
                   (try clear kA)
                   (try clear yA)
                   (try clear mA)
                   (try clear iA)
                   (try clear HB)
                   generalize ((UA.setCell ⟨eA, 0, none⟩ (.slice wA qA.length vA)).setCell ⟨eA, 1, none⟩ (.int .i64 uA)) = XD at n0_ n1_ n2_ n3_ n4_ n5_ n6_ n7_ ⊢
                   have gA := n0_; have fA := n1_; have bA := n2_; have kA := n3_; have yA := n4_; have mA := n5_; have iA := n6_; have HB := n7_; clear n0_ n1_ n2_ n3_ n4_ n5_ n6_ n7_; have HC : 0 ≤ (aA : Int) := zD; have GC : (aA : Int) < ((tA.length : Int) : Int) := zD; obtain ⟨DA, PA, PC, KC, gl31, cl31, HG31⟩ := Kd.R_form bA.out (by omega)
                   (first | cases PC | (injection PC with ea_ en_ ec_; (first | subst ea_ | (injection ea_ with ea_; subst ea_)); subst ec_; clear en_))
                   have GB31 := zQ KC; have GG31 := zQ HG31; clear KC gl31 HG31; obtain ⟨mC, QD⟩ := Kd.R_celln false bA.out (aA : Int) HC GC; replace HC := eq_true HC; replace GC := eq_true GC; obtain ⟨hy42_, hz42_⟩ := Kd.R_celln false bA.out (aA : Int) (zD) (zD); have HP42 := Kd.R_putg bA.out (aA : Int) XA
                   try go_wp2_with (first | ((with_reducible refine gate_store (t := 4) (p := 59) rfl ?_); refine store_event (t := 4) (p := 59) (v := ?vo_w43) (w1 := (XD.setCell ⟨DA, (aA : Int).toNat, none⟩ (.bool XA))) ?hg ?ho ?hn ?hr ?_; (case ho => rfl); (case hg => rfl); (case hn => rfl); (case hr => first | (go_simp; done) | (go_simp; rfl)); intro FD hw; have hg : XD.grownBy FD (some DA) := (by rw [hw]; exact HP42.2); have hp_ : Kd.R Kd.bool 4 FD w.heap.size (fun k_ => some k_ ≠ (NA : Value).ownBlock) (.slice (some ⟨DA, 0, none⟩) tA.length PA) iC := (by rw [hw, gD.out]; exact HP42.1); clear HP42; replace gA := zQ (Kd.R_over' (v := (.slice (some ⟨DA, 0, none⟩) tA.length PA)) (zR gA.out) (Kd.R_typed bA.out) (by decide) hg); replace fA := zQ (Kd.R_after (v := (.slice (some ⟨DA, 0, none⟩) tA.length PA)) (v1 := (.slice (some ⟨DA, 0, none⟩) tA.length PA)) (ok := (fun _ => True)) (by (with_reducible repeat (first | apply Kd.R_alloc | apply Kd.R_drewN | apply Kd.R_drew)); exact Kd.R_mono fA.out (fun _ hk => ⟨trivial, hk⟩)) hg (.inl rfl)); replace mA := zQ (blk_grown (g := g0) (o := .cells #[.slice A0_0 l0_0.length c0_0, .slice A0_1 l0_1.length c0_1] 27 (0, 0)) (zb mA.out) hg (Kd.R_ne bA.out mA.out (by decide))); replace kA := zQ (Kd.R_over' (v := (.slice (some ⟨DA, 0, none⟩) tA.length PA)) (zR kA.out) (Kd.R_typed bA.out) (by decide) hg); replace yA := zQ (Kd.R_over' (v := (.slice (some ⟨DA, 0, none⟩) tA.length PA)) (zR yA.out) (Kd.R_typed bA.out) (by decide) hg); replace iA := zQ (blk_grown (g := eA) (o := .cells #[.slice wA qA.length vA, .int .i64 uA] 35 (0, 0)) (zb iA.out) hg (Kd.R_ne bA.out iA.out (by decide))); replace bA := zQ (hp_); replace HB := zQ ((by rw [hw]; exact below_set (HB.out) GB31.out : Below w.heap.size w FD)); clear hg hw hp_))
                   go_loopg [14] k3 (fun kq wE w' => ∃ (cA : List Bool) (pA : Int), wE = .int .i64 pA ∧ Aside0 (spec_l11Table.l3 kq l1 jA CA nA lA cA aA pA l0_0 l0_1 = some r) ∧ Aside0 (kq ≤ k3) ∧ Aside0 (Kd.R (Kd.int .i64) 2 w' w.heap.size (fun k_ => some k_ ≠ ((.slice wA qA.length vA) : Value).ownBlock) (.slice LA jA.length KA) jA) ∧ Aside0 (Kd.R Kd.bool 4 w' w.heap.size (fun k_ => some k_ ≠ ((.slice (some ⟨DA, 0, none⟩) tA.length PA) : Value).ownBlock) NA nA) ∧ Aside0 (Kd.R Kd.bool 4 w' w.heap.size (fun k_ => some k_ ≠ (NA : Value).ownBlock) (.slice (some ⟨DA, 0, none⟩) tA.length PA) cA) ∧ Aside0 (Kd.R (Kd.int .i64) 2 w' w.heap.size (fun k_ => some k_ ≠ ((.slice LA jA.length KA) : Value).ownBlock) (.slice wA qA.length vA) qA) ∧ Aside0 (w'.heap[g0]? = some (.cells #[(.slice A0_0 l0_0.length c0_0), (.slice A0_1 l0_1.length c0_1)] 27 (0, 0))) ∧ Aside0 (w'.heap[eA]? = some (.cells #[(.slice wA qA.length vA), .int .i64 uA] 35 (0, 0))) ∧ Aside0 (Below w.heap.size w w'))
                   case atStart => exact ⟨(iC), (0), (zF), H', ⟨Nat.le_refl _⟩, ⟨by (with_reducible repeat (first | apply Kd.R_alloc | apply Kd.R_drewN | apply Kd.R_drew)); exact Kd.R_mono gA.out (fun _ hk => hk.2)⟩, ⟨by (with_reducible repeat (first | apply Kd.R_alloc | apply Kd.R_drewN | apply Kd.R_drew)); exact Kd.R_mono fA.out (fun _ hk => hk.2)⟩, ⟨zR bA.out⟩, ⟨by (with_reducible repeat (first | apply Kd.R_alloc | apply Kd.R_drewN | apply Kd.R_drew)); exact Kd.R_mono yA.out (fun _ hk => hk.1)⟩, ⟨zb mA.out⟩, ⟨zb iA.out⟩, ⟨zB2 HB.out oA.out⟩⟩
                   case round =>
                    clear H'; (try clear c1); (try clear c2); (try clear p2); (try clear q2); (try clear NE); (try clear p3); (try clear q3); (try clear ME); (try clear OE); (try clear c7); (try clear VD); (try clear XC); (try clear LE); (try clear KE); (try clear zE); (try clear HC); (try clear GC); (try clear yE); (try clear EE); (try clear OA); (try clear mC); (try clear MB); (try clear HC); (try clear LB); (try clear GC); obtain ⟨cA, pA, rfl, HA, HK4, gA, fA, bA, rA, mA, iA, HB⟩ := hrel; have dA := (Kd.R_reads' bA.out).1; rw [dA] at bA
                    (try simp only [dA])
                    (try simp only [dA] at mA)
                    (try simp only [dA] at iA)
                    (try simp only [dA] at gA)
                    (try simp only [dA] at fA)
                    (try simp only [dA] at rA)
                    cases gk with
                    | zero => exact absurd HA.out (by simp [spec_l11Table.l3])
                    | succ k4 =>
                     have H := HA.out; clear HA
                     simp only [spec_l11Table.l3] at H
                     by_cases xC : pA < (jA.length : Int)
                     ·rw [if_pos xC] at H
                      have WC := decide_eq_true xC; clear xC; obtain ⟨zA, XB⟩ : ∃ j_ : Int, (IntKind.u64.wrap (pA)) = j_ := ⟨_, rfl⟩
                      replace H : (if 0 ≤ (zA) then (if (Go.bits .and .i64 (shr .i64 aA (zA)) 1) = 1 then (if 0 ≤ (wrap64 (aA - (shl .i64 1 (zA)))) then (if (wrap64 (aA - (shl .i64 1 (zA)))) < (cA.length : Int) then (if rdOf false cA (wrap64 (aA - (shl .i64 1 (zA)))) = true then (if 0 ≤ aA then (if aA < (cA.length : Int) then (spec_l11Table.l3 k4 l1 jA CA nA lA (cA.set (aA : Int).toNat true) aA (wrap64 (pA + 1)) l0_0 l0_1) else (none)) else (none)) else (spec_l11Table.l3 k4 l1 jA CA nA lA cA aA (wrap64 (pA + 1)) l0_0 l0_1)) else (none)) else (none)) else (spec_l11Table.l3 k4 l1 jA CA nA lA cA aA (wrap64 (pA + 1)) l0_0 l0_1)) else (none)) = some r := by first | (rw [XB] at H; exact H) | (simp only [XB] at H ⊢; exact H)
                      by_cases VC : 0 ≤ (zA)
                      ·rw [if_pos VC] at H
                       have mE := eq_true VC; have lE := decide_eq_true VC; clear VC; obtain ⟨bB, lB⟩ : ∃ j_ : Int, (shr .i64 aA (zA)) = j_ := ⟨_, rfl⟩
                       replace H : (if (Go.bits .and .i64 (bB) 1) = 1 then (if 0 ≤ (wrap64 (aA - (shl .i64 1 (zA)))) then (if (wrap64 (aA - (shl .i64 1 (zA)))) < (cA.length : Int) then (if rdOf false cA (wrap64 (aA - (shl .i64 1 (zA)))) = true then (if 0 ≤ aA then (if aA < (cA.length : Int) then (spec_l11Table.l3 k4 l1 jA CA nA lA (cA.set (aA : Int).toNat true) aA (wrap64 (pA + 1)) l0_0 l0_1) else (none)) else (none)) else (spec_l11Table.l3 k4 l1 jA CA nA lA cA aA (wrap64 (pA + 1)) l0_0 l0_1)) else (none)) else (none)) else (spec_l11Table.l3 k4 l1 jA CA nA lA cA aA (wrap64 (pA + 1)) l0_0 l0_1)) = some r := by first | (rw [lB] at H; exact H) | (simp only [lB] at H ⊢; exact H)
                       have hji47_ : (aA / 2 ^ min (zA).toNat 64) = bB := lB; have hji47z : (zA) ≤ 64 → (aA / 2 ^ (zA).toNat) = bB := shr_small lB
                       by_cases vC : (Go.bits .and .i64 (bB) 1) = 1
                       ·rw [if_pos vC] at H
                        have UC : ((Go.bits .and .i64 (bB) 1) == 1) = true := beq_iff_eq.mpr vC; have TC : ((Go.bits .and .i64 (bB) 1) != 1) = false := bne_eq_false_iff_eq.mpr vC; clear vC; have kE := eq_true (zD : 0 ≤ (zA)); obtain ⟨TA, kB⟩ : ∃ j_ : Int, (shl .i64 1 (zA)) = j_ := ⟨_, rfl⟩
                        replace H : (if 0 ≤ (wrap64 (aA - (TA))) then (if (wrap64 (aA - (TA))) < (cA.length : Int) then (if rdOf false cA (wrap64 (aA - (TA))) = true then (if 0 ≤ aA then (if aA < (cA.length : Int) then (spec_l11Table.l3 k4 l1 jA CA nA lA (cA.set (aA : Int).toNat true) aA (wrap64 (pA + 1)) l0_0 l0_1) else (none)) else (none)) else (spec_l11Table.l3 k4 l1 jA CA nA lA cA aA (wrap64 (pA + 1)) l0_0 l0_1)) else (none)) else (none)) = some r := by first | (rw [kB] at H; exact H) | (simp only [kB] at H ⊢; exact H)
                        have hji50_ : (IntKind.i64.wrap (1 * 2 ^ min (zA).toNat 64)) = TA := kB; have hji50z : (zA) ≤ 64 → (IntKind.i64.wrap (1 * 2 ^ (zA).toNat)) = TA := shl_small kB
                        have hji50u : (IntKind.i64.wrap (2 ^ min (zA).toNat 64)) = TA := by have h_ := hji50_; rw [Int.one_mul] at h_; exact h_
                        have hji50v : (zA) ≤ 64 → (IntKind.i64.wrap (2 ^ (zA).toNat)) = TA := fun hle_ => by have h_ := hji50z hle_; rw [Int.one_mul] at h_; exact h_
                        have hji50y : (wrap64 (1 * 2 ^ min (zA).toNat 64)) = TA := (i64_w _).symm.trans hji50_
                        have hji50x : (zA) ≤ 64 → (wrap64 (1 * 2 ^ (zA).toNat)) = TA := fun h_ => (i64_w _).symm.trans (hji50z h_)
                        obtain ⟨QA, yB⟩ : ∃ j_ : Int, (wrap64 (aA - (TA))) = j_ := ⟨_, rfl⟩
                        replace H : (if 0 ≤ (QA) then (if (QA) < (cA.length : Int) then (if rdOf false cA (QA) = true then (if 0 ≤ aA then (if aA < (cA.length : Int) then (spec_l11Table.l3 k4 l1 jA CA nA lA (cA.set (aA : Int).toNat true) aA (wrap64 (pA + 1)) l0_0 l0_1) else (none)) else (none)) else (spec_l11Table.l3 k4 l1 jA CA nA lA cA aA (wrap64 (pA + 1)) l0_0 l0_1)) else (none)) else (none)) = some r := by first | (rw [yB] at H; exact H) | (simp only [yB] at H ⊢; exact H)
                        have hji51w : (IntKind.i64.wrap (aA - (TA))) = QA := (i64_w _).trans yB
                        by_cases yD : 0 ≤ (QA)
                        ·rw [if_pos yD] at H
                         have jE := decide_eq_true yD; clear yD
                         by_cases xD : (QA) < (cA.length : Int)
                         ·rw [if_pos xD] at H
                          have iE := decide_eq_true xD; clear xD; obtain ⟨bq54, BB⟩ : ∃ b_ : Bool, b_ = (rdOf false cA (QA)) := ⟨_, rfl⟩
                          replace H : (if bq54 = true then (if 0 ≤ aA then (if aA < (cA.length : Int) then (spec_l11Table.l3 k4 l1 jA CA nA lA (cA.set (aA : Int).toNat true) aA (wrap64 (pA + 1)) l0_0 l0_1) else (none)) else (none)) else (spec_l11Table.l3 k4 l1 jA CA nA lA cA aA (wrap64 (pA + 1)) l0_0 l0_1)) = some r := by rw [← BB] at H; exact H
                          have Nbq54 := zQ BB; clear BB
                          by_cases wD : bq54 = true
                          ·subst wD
                           rw [if_pos rfl] at H
                           by_cases vD : 0 ≤ aA
                           ·rw [if_pos vD] at H
                            have hE := decide_eq_true vD; clear vD
                            by_cases uD : aA < (cA.length : Int)
                            ·rw [if_pos uD] at H
                             have gE := decide_eq_true uD; clear uD; obtain ⟨hC, QB⟩ : ∃ y_ : List Bool, y_ = (cA.set (aA : Int).toNat true) := ⟨_, rfl⟩; replace H : (spec_l11Table.l3 k4 l1 jA CA nA lA hC aA (wrap64 (pA + 1)) l0_0 l0_1) = some r := zh H; have fD := zQ QB; clear QB; have H' := zQ H; clear H; have hB : 0 ≤ ((QA) : Int) := zD; have fB : (QA) < (cA.length : Int) := zD; obtain ⟨IB, oC, BA⟩ := Kd.at_bool (Kd.R_reads' bA.out).2.2 (QA) hB fB
                             (try rw [← Nbq54.out] at BA)
                             obtain rfl : (⟨DA, 0, none⟩ : Addr) = IB := (by injection oC)
                             (first | simp only [add_plain] at BA | simp only [add_at] at BA | simp only [Addr.add, Nat.zero_add] at BA | skip)
                             replace hB := eq_true hB; replace fB := eq_true fB; have KD : 0 ≤ (aA : Int) := zD; have ID : (aA : Int) < ((cA.length : Int) : Int) := zD; obtain ⟨MD, PD⟩ := Kd.R_celln false bA.out (aA : Int) KD ID; replace KD := eq_true KD; replace ID := eq_true ID; have HP59 := Kd.R_putg bA.out (aA : Int) true
                             go_wp2_with (first | ((with_reducible refine gate_store (t := 4) (p := 84) rfl ?_); refine store_event (t := 4) (p := 84) (v := ?vo_w60) (w1 := (wr.setCell ⟨DA, (aA : Int).toNat, none⟩ (.bool true))) ?hg ?ho ?hn ?hr ?_; (case ho => rfl); (case hg => rfl); (case hn => rfl); (case hr => first | (go_simp; done) | (go_simp; rfl)); intro ED hw; have hg : wr.grownBy ED (some DA) := (by rw [hw]; exact HP59.2); have hp_ : Kd.R Kd.bool 4 ED w.heap.size (fun k_ => some k_ ≠ (NA : Value).ownBlock) (.slice (some ⟨DA, 0, none⟩) cA.length PA) hC := (by rw [hw, fD.out]; exact HP59.1); clear HP59; replace gA := zQ (Kd.R_over' (v := (.slice (some ⟨DA, 0, none⟩) cA.length PA)) (zR gA.out) (Kd.R_typed bA.out) (by decide) hg); replace fA := zQ (Kd.R_after (v := (.slice (some ⟨DA, 0, none⟩) cA.length PA)) (v1 := (.slice (some ⟨DA, 0, none⟩) cA.length PA)) (ok := (fun _ => True)) (by (with_reducible repeat (first | apply Kd.R_alloc | apply Kd.R_drewN | apply Kd.R_drew)); exact Kd.R_mono fA.out (fun _ hk => ⟨trivial, hk⟩)) hg (.inl rfl)); replace rA := zQ (Kd.R_over' (v := (.slice (some ⟨DA, 0, none⟩) cA.length PA)) (zR rA.out) (Kd.R_typed bA.out) (by decide) hg); replace mA := zQ (blk_grown (g := g0) (o := .cells #[.slice A0_0 l0_0.length c0_0, .slice A0_1 l0_1.length c0_1] 27 (0, 0)) (zb mA.out) hg (Kd.R_ne bA.out mA.out (by decide))); replace iA := zQ (blk_grown (g := eA) (o := .cells #[.slice wA qA.length vA, .int .i64 uA] 35 (0, 0)) (zb iA.out) hg (Kd.R_ne bA.out iA.out (by decide))); replace bA := zQ (hp_); replace HB := zQ ((by rw [hw]; exact below_set (HB.out) GB31.out : Below w.heap.size w ED)); clear hg hw hp_))
                             (try simp only [← dA])
                             go_roundg k4
                             case measure => have := qB.out; have := HK2.out; have := HK3.out; have := HK4.out; omega
                             case rel => exact ⟨(hC), (wrap64 (pA + 1)), (zF), H', ⟨by have := qB.out; have := HK2.out; have := HK3.out; have := HK4.out; omega⟩, ⟨by (try simp only [dA]); (with_reducible repeat (first | apply Kd.R_alloc | apply Kd.R_drewN | apply Kd.R_drew)); exact gA.out⟩, ⟨by (try simp only [dA]); (with_reducible repeat (first | apply Kd.R_alloc | apply Kd.R_drewN | apply Kd.R_drew)); exact Kd.R_mono fA.out (fun _ hk => hk.2)⟩, ⟨by (try simp only [dA]); (with_reducible repeat (first | apply Kd.R_alloc | apply Kd.R_drewN | apply Kd.R_drew)); exact bA.out⟩, ⟨by (try simp only [dA]); (with_reducible repeat (first | apply Kd.R_alloc | apply Kd.R_drewN | apply Kd.R_drew)); exact rA.out⟩, ⟨by (try simp only [dA]); refine zb ?_; exact mA.out⟩, ⟨by (try simp only [dA]); refine zb ?_; exact iA.out⟩, ⟨zB2 HB.out oA.out⟩⟩
                            ·rw [if_neg uD] at H
                             exact absurd H (by simp)
                           ·rw [if_neg vD] at H
                            exact absurd H (by simp)
                          ·replace wD := Bool.eq_false_iff.mpr wD
                           subst wD
                           rw [if_neg Bool.false_ne_true] at H; have H' := zQ H; clear H; have hB : 0 ≤ ((QA) : Int) := zD; have fB : (QA) < (cA.length : Int) := zD; obtain ⟨IB, oC, BA⟩ := Kd.at_bool (Kd.R_reads' bA.out).2.2 (QA) hB fB
                           (try rw [← Nbq54.out] at BA)
                           obtain rfl : (⟨DA, 0, none⟩ : Addr) = IB := (by injection oC)
                           (first | simp only [add_plain] at BA | simp only [add_at] at BA | simp only [Addr.add, Nat.zero_add] at BA | skip)
                           replace hB := eq_true hB; replace fB := eq_true fB
                           go_wp2
                           (try simp only [← dA])
                           go_roundg k4
                           case measure => have := qB.out; have := HK2.out; have := HK3.out; have := HK4.out; omega
                           case rel => exact ⟨(cA), (wrap64 (pA + 1)), (zF), H', ⟨by have := qB.out; have := HK2.out; have := HK3.out; have := HK4.out; omega⟩, ⟨by (try simp only [dA]); (with_reducible repeat (first | apply Kd.R_alloc | apply Kd.R_drewN | apply Kd.R_drew)); exact gA.out⟩, ⟨by (try simp only [dA]); (with_reducible repeat (first | apply Kd.R_alloc | apply Kd.R_drewN | apply Kd.R_drew)); exact fA.out⟩, ⟨by (try simp only [dA]); (with_reducible repeat (first | apply Kd.R_alloc | apply Kd.R_drewN | apply Kd.R_drew)); exact bA.out⟩, ⟨by (try simp only [dA]); (with_reducible repeat (first | apply Kd.R_alloc | apply Kd.R_drewN | apply Kd.R_drew)); exact rA.out⟩, ⟨by (try simp only [dA]); refine zb ?_; exact mA.out⟩, ⟨by (try simp only [dA]); refine zb ?_; exact iA.out⟩, ⟨zB2 HB.out oA.out⟩⟩
                         ·rw [if_neg xD] at H
                          exact absurd H (by simp)
                        ·rw [if_neg yD] at H
                         exact absurd H (by simp)
                       ·rw [if_neg vC] at H
                        have UC : ((Go.bits .and .i64 (bB) 1) == 1) = false := beq_eq_false_iff_ne.mpr vC; have TC : ((Go.bits .and .i64 (bB) 1) != 1) = true := bne_iff_ne.mpr vC; have H' := zQ H; clear H
                        go_wp2
                        (try simp only [← dA])
                        go_roundg k4
                        case measure => have := qB.out; have := HK2.out; have := HK3.out; have := HK4.out; omega
                        case rel => exact ⟨(cA), (wrap64 (pA + 1)), (zF), H', ⟨by have := qB.out; have := HK2.out; have := HK3.out; have := HK4.out; omega⟩, ⟨by (try simp only [dA]); (with_reducible repeat (first | apply Kd.R_alloc | apply Kd.R_drewN | apply Kd.R_drew)); exact gA.out⟩, ⟨by (try simp only [dA]); (with_reducible repeat (first | apply Kd.R_alloc | apply Kd.R_drewN | apply Kd.R_drew)); exact fA.out⟩, ⟨by (try simp only [dA]); (with_reducible repeat (first | apply Kd.R_alloc | apply Kd.R_drewN | apply Kd.R_drew)); exact bA.out⟩, ⟨by (try simp only [dA]); (with_reducible repeat (first | apply Kd.R_alloc | apply Kd.R_drewN | apply Kd.R_drew)); exact rA.out⟩, ⟨by (try simp only [dA]); refine zb ?_; exact mA.out⟩, ⟨by (try simp only [dA]); refine zb ?_; exact iA.out⟩, ⟨zB2 HB.out oA.out⟩⟩
                      ·rw [if_neg VC] at H
                       exact absurd H (by simp)
                     ·rw [if_neg xC] at H
                      have WC := decide_eq_false xC; clear xC
                      by_cases tD : 0 ≤ aA
                      ·rw [if_pos tD] at H
                       have fE := decide_eq_true tD; clear tD
                       by_cases sD : aA < (cA.length : Int)
                       ·rw [if_pos sD] at H
                        have eE := decide_eq_true sD; clear sD; obtain ⟨bq63, AB⟩ : ∃ b_ : Bool, b_ = (rdOf false cA aA) := ⟨_, rfl⟩
                        replace H : (if bq63 = true then (spec_l11Table.l2 k4 l1 jA CA nA lA cA (wrap64 (aA + 1)) l0_0 l0_1) else (if aA < (nA.length : Int) then (spec_l11Table.l2 k4 l1 jA CA (nA.set (aA : Int).toNat false) lA cA (wrap64 (aA + 1)) l0_0 l0_1) else (none))) = some r := by rw [← AB] at H; exact H
                        have Nbq63 := zQ AB; clear AB
                        by_cases rD : bq63 = true
                        ·subst rD
                         rw [if_pos rfl] at H; have H' := zQ H; clear H; have gB : 0 ≤ (aA : Int) := zD; have eB : aA < (cA.length : Int) := zD; obtain ⟨GB, nC, AA⟩ := Kd.at_bool (Kd.R_reads' bA.out).2.2 aA gB eB
                         (try rw [← Nbq63.out] at AA)
                         obtain rfl : (⟨DA, 0, none⟩ : Addr) = GB := (by injection nC)
                         (first | simp only [add_plain] at AA | simp only [add_at] at AA | simp only [Addr.add, Nat.zero_add] at AA | skip)
                         replace gB := eq_true gB; replace eB := eq_true eB
                         go_wp2
                         (try simp only [← dA])
                         go_roundg k4
                         case measure => have := qB.out; have := HK2.out; have := HK3.out; have := HK4.out; omega
                         case rel => exact ⟨(nA), (cA), (wrap64 (aA + 1)), (zF), H', ⟨by have := qB.out; have := HK2.out; have := HK3.out; have := HK4.out; omega⟩, ⟨by (try simp only [dA]); (with_reducible repeat (first | apply Kd.R_alloc | apply Kd.R_drewN | apply Kd.R_drew)); exact Kd.R_mono gA.out (fun _ hk => trivial)⟩, ⟨by (try simp only [dA]); (with_reducible repeat (first | apply Kd.R_alloc | apply Kd.R_drewN | apply Kd.R_drew)); exact fA.out⟩, ⟨by (try simp only [dA]); (with_reducible repeat (first | apply Kd.R_alloc | apply Kd.R_drewN | apply Kd.R_drew)); exact bA.out⟩, ⟨by (try simp only [dA]); refine zb ?_; exact mA.out⟩, ⟨zB2 HB.out oA.out⟩⟩
                        ·replace rD := Bool.eq_false_iff.mpr rD
                         subst rD
                         rw [if_neg Bool.false_ne_true] at H
                         by_cases qD : aA < (nA.length : Int)
                         ·rw [if_pos qD] at H
                          have dE := decide_eq_true qD; clear qD; obtain ⟨gC, PB⟩ : ∃ y_ : List Bool, y_ = (nA.set (aA : Int).toNat false) := ⟨_, rfl⟩; replace H : (spec_l11Table.l2 k4 l1 jA CA gC lA cA (wrap64 (aA + 1)) l0_0 l0_1) = some r := zh H; have eD := zQ PB; clear PB; have H' := zQ H; clear H; have gB : 0 ≤ (aA : Int) := zD; have eB : aA < (cA.length : Int) := zD; obtain ⟨GB, nC, AA⟩ := Kd.at_bool (Kd.R_reads' bA.out).2.2 aA gB eB
                          (try rw [← Nbq63.out] at AA)
                          obtain rfl : (⟨DA, 0, none⟩ : Addr) = GB := (by injection nC)
                          (first | simp only [add_plain] at AA | simp only [add_at] at AA | simp only [Addr.add, Nat.zero_add] at AA | skip)
                          replace gB := eq_true gB; replace eB := eq_true eB; have JD : 0 ≤ (aA : Int) := zD; have HD : (aA : Int) < ((nA.length : Int) : Int) := zD; obtain ⟨iB, DB, MC, JC, gl66, cl66, HG66⟩ := Kd.R_form fA.out (by omega)
                          (first | cases MC | (injection MC with ea_ en_ ec_; (first | subst ea_ | (injection ea_ with ea_; subst ea_)); subst ec_; clear en_))
                          have GB66 := zQ JC; have GG66 := zQ HG66; clear JC gl66 HG66; obtain ⟨LD, OD⟩ := Kd.R_celln false fA.out (aA : Int) JD HD; replace JD := eq_true JD; replace HD := eq_true HD; have HP67 := Kd.R_putg fA.out (aA : Int) false
                          go_wp2_with (first | ((with_reducible refine gate_store (t := 4) (p := 92) rfl ?_); refine store_event (t := 4) (p := 92) (v := ?vo_w68) (w1 := (wr.setCell ⟨iB, (aA : Int).toNat, none⟩ (.bool false))) ?hg ?ho ?hn ?hr ?_; (case ho => rfl); (case hg => rfl); (case hn => rfl); (case hr => first | (go_simp; done) | (go_simp; rfl)); intro DD hw; have hg : wr.grownBy DD (some iB) := (by rw [hw]; exact HP67.2); have hp_ : Kd.R Kd.bool 4 DD w.heap.size (fun k_ => some k_ ≠ (.slice (some ⟨DA, 0, none⟩) cA.length PA : Value).ownBlock) (.slice (some ⟨iB, 0, none⟩) nA.length DB) gC := (by rw [hw, eD.out]; exact HP67.1); clear HP67; replace gA := zQ (Kd.R_over' (v := (.slice (some ⟨iB, 0, none⟩) nA.length DB)) (zR gA.out) (Kd.R_typed fA.out) (by decide) hg); replace bA := zQ (Kd.R_after (v := (.slice (some ⟨iB, 0, none⟩) nA.length DB)) (v1 := (.slice (some ⟨iB, 0, none⟩) nA.length DB)) (ok := (fun _ => True)) (by (with_reducible repeat (first | apply Kd.R_alloc | apply Kd.R_drewN | apply Kd.R_drew)); exact Kd.R_mono bA.out (fun _ hk => ⟨trivial, hk⟩)) hg (.inl rfl)); replace rA := zQ (Kd.R_over' (v := (.slice (some ⟨iB, 0, none⟩) nA.length DB)) (zR rA.out) (Kd.R_typed fA.out) (by decide) hg); replace mA := zQ (blk_grown (g := g0) (o := .cells #[.slice A0_0 l0_0.length c0_0, .slice A0_1 l0_1.length c0_1] 27 (0, 0)) (zb mA.out) hg (Kd.R_ne fA.out mA.out (by decide))); replace iA := zQ (blk_grown (g := eA) (o := .cells #[.slice wA qA.length vA, .int .i64 uA] 35 (0, 0)) (zb iA.out) hg (Kd.R_ne fA.out iA.out (by decide))); replace fA := zQ (hp_); replace HB := zQ ((by rw [hw]; exact below_set (HB.out) GB66.out : Below w.heap.size w DD)); clear hg hw hp_))
                          (try simp only [← dA])
                          go_roundg k4
                          case measure => have := qB.out; have := HK2.out; have := HK3.out; have := HK4.out; omega
                          case rel => exact ⟨(gC), (cA), (wrap64 (aA + 1)), (zF), H', ⟨by have := qB.out; have := HK2.out; have := HK3.out; have := HK4.out; omega⟩, ⟨by (try simp only [dA]); (with_reducible repeat (first | apply Kd.R_alloc | apply Kd.R_drewN | apply Kd.R_drew)); exact Kd.R_mono gA.out (fun _ hk => trivial)⟩, ⟨by (try simp only [dA]); (with_reducible repeat (first | apply Kd.R_alloc | apply Kd.R_drewN | apply Kd.R_drew)); exact fA.out⟩, ⟨by (try simp only [dA]); (with_reducible repeat (first | apply Kd.R_alloc | apply Kd.R_drewN | apply Kd.R_drew)); exact Kd.R_mono bA.out (fun _ hk => hk.2)⟩, ⟨by (try simp only [dA]); refine zb ?_; exact mA.out⟩, ⟨zB2 HB.out oA.out⟩⟩
                         ·rw [if_neg qD] at H
                          exact absurd H (by simp)
                       ·rw [if_neg sD] at H
                        exact absurd H (by simp)
                      ·rw [if_neg tD] at H
                       exact absurd H (by simp)
                  ·rw [if_neg AD] at H
                   exact absurd H (by simp)
                 ·rw [if_neg BD] at H
                  exact absurd H (by simp)
                ·rw [if_neg CD] at H
                 exact absurd H (by simp)
               ·rw [if_neg XC] at H
                exact absurd H (by simp)
              ·rw [if_neg yC] at H
               have YC := decide_eq_false yC; clear yC; have H' := zQ H; clear H
               go_wp2
               go_roundg k3
               case measure => have := qB.out; have := HK2.out; have := HK3.out; omega
               case rel => exact ⟨(nA), (wrap64 (lA + 1)), (zF), H', ⟨by have := qB.out; have := HK2.out; have := HK3.out; omega⟩, ⟨zR gA.out⟩, ⟨by (with_reducible repeat (first | apply Kd.R_alloc | apply Kd.R_drewN | apply Kd.R_drew)); exact Kd.R_mono fA.out (fun _ hk => trivial)⟩, ⟨zb mA.out⟩, ⟨zB HB.out⟩⟩
           ·rw [if_neg AC] at H
            exact absurd H (by simp)
          ·rw [if_neg BC] at H
           exact absurd H (by simp)
         ·rw [if_neg wC] at H
          have aC := decide_eq_false wC; clear wC; obtain rfl := Option.some.inj H
          go_wp2
          go_ret
          exact ⟨_, by first | rfl | (simp [errW_none, errW_some] <;> rfl) | (simp only [← NB, ← uB]; first | rfl | (simp [errW_none, errW_some] <;> rfl)) | (simp [*, errW_none, errW_some] <;> rfl), zR fA.out, zB HB.out⟩
   ·rw [if_neg c8] at H
    exact absurd H (by simp)
  ·rw [if_neg c7] at H
   exact absurd H (by simp)
 ·rw [if_neg c5] at H
  exact absurd H (by simp)

end
end Go.Proofs.Ytimjblgepbhoaaa.PStays

