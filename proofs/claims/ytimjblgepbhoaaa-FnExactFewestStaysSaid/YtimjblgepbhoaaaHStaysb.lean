import Derived.Test.YtimjblgepbhoaaaHStays0
namespace Go.Proofs.Ytimjblgepbhoaaa.PStays
noncomputable section
open Go.RowKit Go.Proofs.YtimjblgepbhoaaaW.PrintWords Go.Proofs.YtimjblgepbhoaaaW.PrintLast Go.Proofs.YtimjblgepbhoaaaW.PrintMore
attribute [local go_sem] max2_int min2_int max_two min_two max_three min_three max_four min_four   -- for this text's walks alone
set_option linter.unusedVariables false
set_option linter.unusedSimpArgs false
set_option maxHeartbeats 8000000
set_option maxRecDepth 100000

def laws_eqKnot.f (a0_0 : Int) (a0_1 : Int) (a0_2 : Bool) (a1_0 : Int) (a1_1 : Int) (a1_2 : Bool) : Option (Bool) := if a0_0 = a1_0 then (if a0_1 = a1_1 then (if (a0_2 != a1_2) = true then (some false) else (some true)) else (some false)) else (some false)
theorem laws_eqKnot.calls (a0_0 : Int) (a0_1 : Int) (a0_2 : Bool) (a1_0 : Int) (a1_1 : Int) (a1_2 : Bool) (r : Bool) (w : World) (h : laws_eqKnot.f a0_0 a0_1 a0_2 a1_0 a1_1 a1_2 = some r) :
  Calls Try.prog 133 #[.agg #[.int .i64 a0_0, .int .i64 a0_1, .bool a0_2], .agg #[.int .i64 a1_0, .int .i64 a1_1, .bool a1_2]] w fun e w' => e = .returned (.bool r) ∧ Below w.heap.size w w' := by
 have XD := Try.underlying164
 have HB := zQ (Below.refl w.heap.size w)
 have H := h; unfold laws_eqKnot.f at H
 clear h
 by_cases c3 : a0_0 = a1_0
 ·rw [if_pos c3] at H
  have bB : (a0_0 == a1_0) = true := beq_iff_eq.mpr c3; have aB : (a0_0 != a1_0) = false := bne_eq_false_iff_eq.mpr c3; clear c3
  by_cases c4 : a0_1 = a1_1
  ·rw [if_pos c4] at H
   have iB : (a0_1 == a1_1) = true := beq_iff_eq.mpr c4; have vC : (a0_1 != a1_1) = false := bne_eq_false_iff_eq.mpr c4; clear c4
   by_cases c5 : (a0_2 != a1_2) = true
   ·rw [if_pos c5] at H
    have aC : (a0_2 != a1_2) = true := c5
    (try (have UD : decide (a0_2 = a1_2) = false := by simpa using c5))
    (try (have TD : (a0_2 == a1_2) = false := by simpa using c5))
    (try (have QE : ¬ (a0_2 = a1_2) := by simpa using c5))
    clear c5; obtain rfl := Option.some.inj H
    go_enter Try.func133, Try.ntmps133
    go_wp2_with (first | ((with_reducible refine zd 2 ?_); refine zbx (N := 2) (cs := #[.int .i64 a0_0, .int .i64 a0_1, .bool a0_2]) (t := 164) ?_; intro uC hg w6 bA hb; have fA := zQ (bA); have pB := zgz hg HB.out; have VA := pB; replace HB := zbs HB.out hb; clear hb bA hg) | ((with_reducible refine zd 3 ?_); refine zbx (N := 3) (cs := #[.int .i64 a1_0, .int .i64 a1_1, .bool a1_2]) (t := 164) ?_; intro tC hg w7 bA hb; have tB := zQ (bA); have oB := zgz2 hg HB.out VA.out; have rB := oB; have jA := zn1 hg fA.out; have iA := zn2 hg fA.out; replace fA := zbl fA.out hb; replace HB := zbs2 HB.out VA.out hb; clear hb bA hg; have JE := jA.out; have IE := iA.out; obtain ⟨oC, nC, JD, mC, lC, ID⟩ := zy3 fA.out; obtain ⟨iC, hC, jD, eC, dC, UC⟩ := zy3 tB.out))
    go_ret
    exact ⟨zE, zB3 HB.out VA.out rB.out⟩
   ·rw [if_neg c5] at H
    have aC : (a0_2 != a1_2) = false := by simpa using c5
    (try (have UD : decide (a0_2 = a1_2) = true := by simpa using c5))
    (try (have TD : (a0_2 == a1_2) = true := by simpa using c5))
    clear c5; obtain rfl := Option.some.inj H
    go_enter Try.func133, Try.ntmps133
    go_wp2_with (first | ((with_reducible refine zd 2 ?_); refine zbx (N := 2) (cs := #[.int .i64 a0_0, .int .i64 a0_1, .bool a0_2]) (t := 164) ?_; intro uC hg WD bA hb; have fA := zQ (bA); have pB := zgz hg HB.out; have VA := pB; replace HB := zbs HB.out hb; clear hb bA hg) | ((with_reducible refine zd 3 ?_); refine zbx (N := 3) (cs := #[.int .i64 a1_0, .int .i64 a1_1, .bool a1_2]) (t := 164) ?_; intro tC hg VD bA hb; have tB := zQ (bA); have oB := zgz2 hg HB.out VA.out; have rB := oB; have jA := zn1 hg fA.out; have iA := zn2 hg fA.out; replace fA := zbl fA.out hb; replace HB := zbs2 HB.out VA.out hb; clear hb bA hg; have dE := jA.out; have bE := iA.out; obtain ⟨CB, BB, gD, xB, wB, RC⟩ := zy3 fA.out; obtain ⟨fD, eD, dD, QC, PC, OC⟩ := zy3 tB.out))
    go_ret
    exact ⟨zE, zB3 HB.out VA.out rB.out⟩
  ·rw [if_neg c4] at H
   have iB : (a0_1 == a1_1) = false := beq_eq_false_iff_ne.mpr c4; have vC : (a0_1 != a1_1) = true := bne_iff_ne.mpr c4; obtain rfl := Option.some.inj H
   go_enter Try.func133, Try.ntmps133
   go_wp2_with (first | ((with_reducible refine zd 2 ?_); refine zbx (N := 2) (cs := #[.int .i64 a0_0, .int .i64 a0_1, .bool a0_2]) (t := 164) ?_; intro uC hg GE bA hb; have fA := zQ (bA); have pB := zgz hg HB.out; have VA := pB; replace HB := zbs HB.out hb; clear hb bA hg) | ((with_reducible refine zd 3 ?_); refine zbx (N := 3) (cs := #[.int .i64 a1_0, .int .i64 a1_1, .bool a1_2]) (t := 164) ?_; intro tC hg UE bA hb; have tB := zQ (bA); have oB := zgz2 hg HB.out VA.out; have rB := oB; have jA := zn1 hg fA.out; have iA := zn2 hg fA.out; replace fA := zbl fA.out hb; replace HB := zbs2 HB.out VA.out hb; clear hb bA hg; have pD := jA.out; have oD := iA.out; obtain ⟨AB, yB, cD, vB, uB, NC⟩ := zy3 fA.out; obtain ⟨gC, fC, bD, cC, bC, MC⟩ := zy3 tB.out))
   go_ret
   exact ⟨zE, zB3 HB.out VA.out rB.out⟩
 ·rw [if_neg c3] at H
  have bB : (a0_0 == a1_0) = false := beq_eq_false_iff_ne.mpr c3; have aB : (a0_0 != a1_0) = true := bne_iff_ne.mpr c3; obtain rfl := Option.some.inj H
  go_enter Try.func133, Try.ntmps133
  go_wp2_with (first | ((with_reducible refine zd 2 ?_); refine zbx (N := 2) (cs := #[.int .i64 a0_0, .int .i64 a0_1, .bool a0_2]) (t := 164) ?_; intro uC hg TE bA hb; have fA := zQ (bA); have pB := zgz hg HB.out; have VA := pB; replace HB := zbs HB.out hb; clear hb bA hg) | ((with_reducible refine zd 3 ?_); refine zbx (N := 3) (cs := #[.int .i64 a1_0, .int .i64 a1_1, .bool a1_2]) (t := 164) ?_; intro tC hg bF bA hb; have tB := zQ (bA); have oB := zgz2 hg HB.out VA.out; have rB := oB; have jA := zn1 hg fA.out; have iA := zn2 hg fA.out; replace fA := zbl fA.out hb; replace HB := zbs2 HB.out VA.out hb; clear hb bA hg; have cE := jA.out; have aE := iA.out; obtain ⟨aD, ZC, YC, LC, KC, JC⟩ := zy3 fA.out; obtain ⟨XC, WC, VC, IC, HC, GC⟩ := zy3 tB.out))
  go_ret
  exact ⟨zE, zB3 HB.out VA.out rB.out⟩

def laws_eqKnotS.l0 : Nat → List (S164) → List (S164) → Int → Option (Bool)
 | 0, _, _, _ => none
 | k + 1, x0, x1, x5 => if x5 < (x0.length : Int) then (if 0 ≤ x5 then (if x5 < (x1.length : Int) then ((laws_eqKnot.f ((rd_T164 x0 x5).f0) ((rd_T164 x0 x5).f1) ((rd_T164 x0 x5).f2) ((rd_T164 x1 x5).f0) ((rd_T164 x1 x5).f1) ((rd_T164 x1 x5).f2)).bind fun HD => (if HD = true then (laws_eqKnotS.l0 k x0 x1 (wrap64 (x5 + 1))) else (some false))) else (none)) else (none)) else (some true)
def laws_eqKnotS.f (k : Nat) (l0 : List (S164)) (l1 : List (S164)) : Option (Bool) := if (l0.length : Int) = (l1.length : Int) then (laws_eqKnotS.l0 k l0 l1 0) else (some false)
def laws_eqKnotS.T6 : Bool × List (List Nat × List Nat) := (true, [([], []), ([], []), ([0, 1], [0, 1]), ([2], [2]), ([], []), ([], []), ([4, 5], [4, 5]), ([6], [6]), ([3, 7], [3, 7]), ([8], [8])])
def laws_eqKnotS.B6 : List Nat := [0, 0, 3, 7, 0, 0, 48, 112, 255, 511]
theorem laws_eqKnotS.tab6 : rtab .any (opsOf Try.f100 6) = laws_eqKnotS.T6 := by kernel_rfl
theorem laws_eqKnotS.bits6 : waitsOk laws_eqKnotS.T6.2 laws_eqKnotS.B6 = true := by kernel_rfl
theorem laws_eqKnotS.calls (k : Nat) (A0 : Option Addr) (c0 : Nat) (l0 : List (S164)) (A1 : Option Addr) (c1 : Nat) (l1 : List (S164)) (r : Bool) (w : World) (kC : Kd.C k164 w A0 l0.length l0) (qC : l0.length ≤ c0) (jC : Kd.C k164 w A1 l1.length l1) (pC : l1.length ≤ c1) (h : laws_eqKnotS.f k l0 l1 = some r) :
  Calls Try.prog 100 #[.slice A0 l0.length c0, .slice A1 l1.length c1] w fun e w' => e = .returned (.bool r) ∧ Below w.heap.size w w' := by
 have XD := Try.underlying164
 have AC := zQ kC
 have SE := zQ qC
 clear kC qC
 have xC := zQ jC
 have RE := zQ pC
 clear jC pC
 have HB := zQ (Below.refl w.heap.size w)
 have H := h; unfold laws_eqKnotS.f at H
 clear h
 by_cases c3 : (l0.length : Int) = (l1.length : Int)
 ·rw [if_pos c3] at H
  have bB : ((l0.length : Int) == (l1.length : Int)) = true := beq_iff_eq.mpr c3; have aB : ((l0.length : Int) != (l1.length : Int)) = false := bne_eq_false_iff_eq.mpr c3
  have jB : (l0.length == l1.length) = true := by first | simpa using c3 | (simp at c3 ⊢; omega)
  clear c3; have H' := zQ H; clear H
  go_enter Try.func100, Try.ntmps100
  go_wp2
  go_loopg [5] k (fun kq v5 w' => ∃ (aA : Int), v5 = .int .i64 aA ∧ Aside0 (laws_eqKnotS.l0 kq l0 l1 aA = some r) ∧ Aside0 (kq ≤ k) ∧ Aside0 (Below w.heap.size w w'))
  case atStart => exact ⟨(0), (zF), H', ⟨Nat.le_refl _⟩, ⟨zB HB.out⟩⟩
  case round =>
   clear H'; (try clear c1); (try clear p2); (try clear c3); (try clear bB); (try clear aB); (try clear jB); obtain ⟨aA, rfl, HA, BC, HB⟩ := hrel
   cases gk with
   | zero => exact absurd HA.out (by simp [laws_eqKnotS.l0])
   | succ k1 =>
    have H := HA.out; clear HA
    simp only [laws_eqKnotS.l0] at H
    by_cases c4 : aA < (l0.length : Int)
    ·rw [if_pos c4] at H
     have iB := decide_eq_true c4; clear c4
     by_cases c5 : 0 ≤ aA
     ·rw [if_pos c5] at H
      have aC := decide_eq_true c5; clear c5
      by_cases c6 : aA < (l1.length : Int)
      ·rw [if_pos c6] at H
       have SD := decide_eq_true c6; clear c6; replace H := zob H; obtain ⟨HD, A7, H⟩ := H
       by_cases c8 : HD = true
       ·subst c8
        rw [if_pos rfl] at H; have H' := zQ H; clear H
        try go_wp2
        have n0_ := zQ (below_drew1 HB.out); clear HB; have HB := n0_; clear n0_; have ZB : 0 ≤ (aA : Int) := zD; have RB : aA < (l0.length : Int) := zD; obtain ⟨fB, RD, CA, BA, AA⟩ := at_T164 AC.out aA ZB RB; have RA := AA; have SA := BA; have TA := CA
        cases RD
        replace CA := zw HB.out CA; replace BA := zw HB.out BA; replace AA := zw HB.out AA; replace ZB := eq_true ZB; replace RB := eq_true RB; have YB : 0 ≤ (aA : Int) := zD; have QB : aA < (l1.length : Int) := zD; obtain ⟨eB, QD, zA, yA, xA⟩ := at_T164 xC.out aA YB QB; have OA := xA; have PA := yA; have QA := zA
        cases QD
        replace zA := zw HB.out zA; replace yA := zw HB.out yA; replace xA := zw HB.out xA; replace YB := eq_true YB; replace QB := eq_true QB
        refine zs (fun w' => w'.cell? (fB.add ((aA).toNat * 3)) = some (.int .i64 ((rd_T164 l0 aA).f0)) ∧ w'.cell? ⟨(fB.add ((aA).toNat * 3)).block, (fB.add ((aA).toNat * 3)).off + 1, none⟩ = some (.int .i64 ((rd_T164 l0 aA).f1)) ∧ w'.cell? ⟨(fB.add ((aA).toNat * 3)).block, (fB.add ((aA).toNat * 3)).off + 2, none⟩ = some (.bool ((rd_T164 l0 aA).f2)) ∧ w'.cell? (eB.add ((aA).toNat * 3)) = some (.int .i64 ((rd_T164 l1 aA).f0)) ∧ w'.cell? ⟨(eB.add ((aA).toNat * 3)).block, (eB.add ((aA).toNat * 3)).off + 1, none⟩ = some (.int .i64 ((rd_T164 l1 aA).f1)) ∧ w'.cell? ⟨(eB.add ((aA).toNat * 3)).block, (eB.add ((aA).toNat * 3)).off + 2, none⟩ = some (.bool ((rd_T164 l1 aA).f2))) [] 10 ⟨((HB.out.cell (World.block_lt_of_cell? w _ TA)).trans TA), ((HB.out.cell (World.block_lt_of_cell? w _ SA)).trans SA), ((HB.out.cell (World.block_lt_of_cell? w _ RA)).trans RA), ((HB.out.cell (World.block_lt_of_cell? w _ QA)).trans QA), ((HB.out.cell (World.block_lt_of_cell? w _ PA)).trans PA), ((HB.out.cell (World.block_lt_of_cell? w _ OA)).trans OA)⟩ (fun cA => ?_); refine with_tabW laws_eqKnotS.tab6 laws_eqKnotS.bits6 (fun HT_ HW_ => ?_)
        generalize wr.drew = w9 at HB CA BA AA zA yA xA cA ⊢
        refine zp 0 17 ?_
        refine zp 1 18 ?_
        refine zp 2 19 ?_
        refine zp 4 21 ?_
        refine zp 5 22 ?_
        refine zp 6 23 ?_
        refine zt 3 20 cA ?_
        refine zt 7 24 cA ?_
        refine zo 8 (some 25) (fun K hK => ?_)
        refine goes_ Try.func133 (by kernel_rfl) rfl #[.agg #[.int .i64 ((rd_T164 l0 aA).f0), .int .i64 ((rd_T164 l0 aA).f1), .bool ((rd_T164 l0 aA).f2)], .agg #[.int .i64 ((rd_T164 l1 aA).f0), .int .i64 ((rd_T164 l1 aA).f1), .bool ((rd_T164 l1 aA).f2)]] (by rfl) rfl rfl zM ?_
        with_reducible refine (laws_eqKnot.calls ((rd_T164 l0 aA).f0) ((rd_T164 l0 aA).f1) ((rd_T164 l0 aA).f2) ((rd_T164 l1 aA).f0) ((rd_T164 l1 aA).f1) ((rd_T164 l1 aA).f2) true _ A7.out).mono ?_
        rintro e HE ⟨rfl, hb⟩
        refine ⟨_, rfl, ?_⟩
        have n0_ := zbs HB.out hb; clear HB; have HB := n0_; clear n0_
        (try clear hb)
        (try clear eE)
        (try clear hk)
        (try clear hi)
        refine hK.out _ _ ⟨((HB.out.cell (World.block_lt_of_cell? w _ TA)).trans TA), ((HB.out.cell (World.block_lt_of_cell? w _ SA)).trans SA), ((HB.out.cell (World.block_lt_of_cell? w _ RA)).trans RA), ((HB.out.cell (World.block_lt_of_cell? w _ QA)).trans QA), ((HB.out.cell (World.block_lt_of_cell? w _ PA)).trans PA), ((HB.out.cell (World.block_lt_of_cell? w _ OA)).trans OA)⟩ (fun cA => ?_)
        clear hK K
        refine zn 25 ?_
        refine zp 9 26 ?_
        refine done_ (done_of HT_.out (by kernel_rfl)) ?_
        try go_wp2
        go_roundg k1
        case measure => have := BC.out; omega
        case rel => exact ⟨(wrap64 (aA + 1)), (zF), H', ⟨by have := BC.out; omega⟩, ⟨zB HB.out⟩⟩
       ·replace c8 := Bool.eq_false_iff.mpr c8
        subst c8
        rw [if_neg Bool.false_ne_true] at H; obtain rfl := Option.some.inj H
        try go_wp2
        have n0_ := zQ (below_drew1 HB.out); clear HB; have HB := n0_; clear n0_; have ZB : 0 ≤ (aA : Int) := zD; have RB : aA < (l0.length : Int) := zD; obtain ⟨fB, RD, CA, BA, AA⟩ := at_T164 AC.out aA ZB RB; have RA := AA; have SA := BA; have TA := CA
        cases RD
        replace CA := zw HB.out CA; replace BA := zw HB.out BA; replace AA := zw HB.out AA; replace ZB := eq_true ZB; replace RB := eq_true RB; have YB : 0 ≤ (aA : Int) := zD; have QB : aA < (l1.length : Int) := zD; obtain ⟨eB, QD, zA, yA, xA⟩ := at_T164 xC.out aA YB QB; have OA := xA; have PA := yA; have QA := zA
        cases QD
        replace zA := zw HB.out zA; replace yA := zw HB.out yA; replace xA := zw HB.out xA; replace YB := eq_true YB; replace QB := eq_true QB
        refine zs (fun w' => w'.cell? (fB.add ((aA).toNat * 3)) = some (.int .i64 ((rd_T164 l0 aA).f0)) ∧ w'.cell? ⟨(fB.add ((aA).toNat * 3)).block, (fB.add ((aA).toNat * 3)).off + 1, none⟩ = some (.int .i64 ((rd_T164 l0 aA).f1)) ∧ w'.cell? ⟨(fB.add ((aA).toNat * 3)).block, (fB.add ((aA).toNat * 3)).off + 2, none⟩ = some (.bool ((rd_T164 l0 aA).f2)) ∧ w'.cell? (eB.add ((aA).toNat * 3)) = some (.int .i64 ((rd_T164 l1 aA).f0)) ∧ w'.cell? ⟨(eB.add ((aA).toNat * 3)).block, (eB.add ((aA).toNat * 3)).off + 1, none⟩ = some (.int .i64 ((rd_T164 l1 aA).f1)) ∧ w'.cell? ⟨(eB.add ((aA).toNat * 3)).block, (eB.add ((aA).toNat * 3)).off + 2, none⟩ = some (.bool ((rd_T164 l1 aA).f2))) [] 10 ⟨((HB.out.cell (World.block_lt_of_cell? w _ TA)).trans TA), ((HB.out.cell (World.block_lt_of_cell? w _ SA)).trans SA), ((HB.out.cell (World.block_lt_of_cell? w _ RA)).trans RA), ((HB.out.cell (World.block_lt_of_cell? w _ QA)).trans QA), ((HB.out.cell (World.block_lt_of_cell? w _ PA)).trans PA), ((HB.out.cell (World.block_lt_of_cell? w _ OA)).trans OA)⟩ (fun cA => ?_); refine with_tabW laws_eqKnotS.tab6 laws_eqKnotS.bits6 (fun HT_ HW_ => ?_)
        generalize wr.drew = WD at HB CA BA AA zA yA xA cA ⊢
        refine zp 0 17 ?_
        refine zp 1 18 ?_
        refine zp 2 19 ?_
        refine zp 4 21 ?_
        refine zp 5 22 ?_
        refine zp 6 23 ?_
        refine zt 3 20 cA ?_
        refine zt 7 24 cA ?_
        refine zo 8 (some 25) (fun K hK => ?_)
        refine goes_ Try.func133 (by kernel_rfl) rfl #[.agg #[.int .i64 ((rd_T164 l0 aA).f0), .int .i64 ((rd_T164 l0 aA).f1), .bool ((rd_T164 l0 aA).f2)], .agg #[.int .i64 ((rd_T164 l1 aA).f0), .int .i64 ((rd_T164 l1 aA).f1), .bool ((rd_T164 l1 aA).f2)]] (by rfl) rfl rfl zM ?_
        with_reducible refine (laws_eqKnot.calls ((rd_T164 l0 aA).f0) ((rd_T164 l0 aA).f1) ((rd_T164 l0 aA).f2) ((rd_T164 l1 aA).f0) ((rd_T164 l1 aA).f1) ((rd_T164 l1 aA).f2) false _ A7.out).mono ?_
        rintro e VD ⟨rfl, hb⟩
        refine ⟨_, rfl, ?_⟩
        have n0_ := zbs HB.out hb; clear HB; have HB := n0_; clear n0_
        (try clear hb)
        (try clear eE)
        (try clear hk)
        (try clear hi)
        refine hK.out _ _ ⟨((HB.out.cell (World.block_lt_of_cell? w _ TA)).trans TA), ((HB.out.cell (World.block_lt_of_cell? w _ SA)).trans SA), ((HB.out.cell (World.block_lt_of_cell? w _ RA)).trans RA), ((HB.out.cell (World.block_lt_of_cell? w _ QA)).trans QA), ((HB.out.cell (World.block_lt_of_cell? w _ PA)).trans PA), ((HB.out.cell (World.block_lt_of_cell? w _ OA)).trans OA)⟩ (fun cA => ?_)
        clear hK K
        refine zn 25 ?_
        refine zp 9 26 ?_
        refine done_ (done_of HT_.out (by kernel_rfl)) ?_
        try go_wp2
        go_ret
        exact ⟨zE, zB HB.out⟩
      ·rw [if_neg c6] at H
       exact absurd H (by simp)
     ·rw [if_neg c5] at H
      exact absurd H (by simp)
    ·rw [if_neg c4] at H
     have iB := decide_eq_false c4; clear c4; obtain rfl := Option.some.inj H
     go_wp2
     go_ret
     exact ⟨zE, zB HB.out⟩
 ·rw [if_neg c3] at H
  have bB : ((l0.length : Int) == (l1.length : Int)) = false := beq_eq_false_iff_ne.mpr c3; have aB : ((l0.length : Int) != (l1.length : Int)) = true := bne_iff_ne.mpr c3
  have jB : (l0.length == l1.length) = false := by first | simpa using c3 | (simp at c3 ⊢; omega)
  obtain rfl := Option.some.inj H
  go_enter Try.func100, Try.ntmps100
  go_wp2
  go_ret
  exact ⟨zE, zB HB.out⟩

def laws_eqBar.f (a0_0 : Int) (a0_1 : Int) (a0_2 : Bool) (a1_0 : Int) (a1_1 : Int) (a1_2 : Bool) : Option (Bool) := if a0_0 = a1_0 then (if a0_1 = a1_1 then (if (a0_2 != a1_2) = true then (some false) else (some true)) else (some false)) else (some false)
theorem laws_eqBar.calls (a0_0 : Int) (a0_1 : Int) (a0_2 : Bool) (a1_0 : Int) (a1_1 : Int) (a1_2 : Bool) (r : Bool) (w : World) (h : laws_eqBar.f a0_0 a0_1 a0_2 a1_0 a1_1 a1_2 = some r) :
  Calls Try.prog 134 #[.agg #[.int .i64 a0_0, .int .i64 a0_1, .bool a0_2], .agg #[.int .i64 a1_0, .int .i64 a1_1, .bool a1_2]] w fun e w' => e = .returned (.bool r) ∧ Below w.heap.size w w' := by
 have YD := Try.underlying115
 have HB := zQ (Below.refl w.heap.size w)
 have H := h; unfold laws_eqBar.f at H
 clear h
 by_cases c3 : a0_0 = a1_0
 ·rw [if_pos c3] at H
  have bB : (a0_0 == a1_0) = true := beq_iff_eq.mpr c3; have aB : (a0_0 != a1_0) = false := bne_eq_false_iff_eq.mpr c3; clear c3
  by_cases c4 : a0_1 = a1_1
  ·rw [if_pos c4] at H
   have iB : (a0_1 == a1_1) = true := beq_iff_eq.mpr c4; have vC : (a0_1 != a1_1) = false := bne_eq_false_iff_eq.mpr c4; clear c4
   by_cases c5 : (a0_2 != a1_2) = true
   ·rw [if_pos c5] at H
    have aC : (a0_2 != a1_2) = true := c5
    (try (have UD : decide (a0_2 = a1_2) = false := by simpa using c5))
    (try (have TD : (a0_2 == a1_2) = false := by simpa using c5))
    (try (have QE : ¬ (a0_2 = a1_2) := by simpa using c5))
    clear c5; obtain rfl := Option.some.inj H
    go_enter Try.func134, Try.ntmps134
    go_wp2_with (first | ((with_reducible refine zd 2 ?_); refine zbx (N := 2) (cs := #[.int .i64 a0_0, .int .i64 a0_1, .bool a0_2]) (t := 115) ?_; intro sC hg w6 bA hb; have eA := zQ (bA); have nB := zgz hg HB.out; have UA := nB; replace HB := zbs HB.out hb; clear hb bA hg) | ((with_reducible refine zd 3 ?_); refine zbx (N := 3) (cs := #[.int .i64 a1_0, .int .i64 a1_1, .bool a1_2]) (t := 115) ?_; intro rC hg w7 bA hb; have sB := zQ (bA); have mB := zgz2 hg HB.out UA.out; have qB := mB; have hA := zn1 hg eA.out; have gA := zn2 hg eA.out; replace eA := zbl eA.out hb; replace HB := zbs2 HB.out UA.out hb; clear hb bA hg; have JE := hA.out; have IE := gA.out; obtain ⟨oC, nC, JD, mC, lC, ID⟩ := zy3 eA.out; obtain ⟨iC, hC, jD, eC, dC, UC⟩ := zy3 sB.out))
    go_ret
    exact ⟨zE, zB3 HB.out UA.out qB.out⟩
   ·rw [if_neg c5] at H
    have aC : (a0_2 != a1_2) = false := by simpa using c5
    (try (have UD : decide (a0_2 = a1_2) = true := by simpa using c5))
    (try (have TD : (a0_2 == a1_2) = true := by simpa using c5))
    clear c5; obtain rfl := Option.some.inj H
    go_enter Try.func134, Try.ntmps134
    go_wp2_with (first | ((with_reducible refine zd 2 ?_); refine zbx (N := 2) (cs := #[.int .i64 a0_0, .int .i64 a0_1, .bool a0_2]) (t := 115) ?_; intro sC hg WD bA hb; have eA := zQ (bA); have nB := zgz hg HB.out; have UA := nB; replace HB := zbs HB.out hb; clear hb bA hg) | ((with_reducible refine zd 3 ?_); refine zbx (N := 3) (cs := #[.int .i64 a1_0, .int .i64 a1_1, .bool a1_2]) (t := 115) ?_; intro rC hg VD bA hb; have sB := zQ (bA); have mB := zgz2 hg HB.out UA.out; have qB := mB; have hA := zn1 hg eA.out; have gA := zn2 hg eA.out; replace eA := zbl eA.out hb; replace HB := zbs2 HB.out UA.out hb; clear hb bA hg; have dE := hA.out; have bE := gA.out; obtain ⟨CB, BB, gD, xB, wB, RC⟩ := zy3 eA.out; obtain ⟨fD, eD, dD, QC, PC, OC⟩ := zy3 sB.out))
    go_ret
    exact ⟨zE, zB3 HB.out UA.out qB.out⟩
  ·rw [if_neg c4] at H
   have iB : (a0_1 == a1_1) = false := beq_eq_false_iff_ne.mpr c4; have vC : (a0_1 != a1_1) = true := bne_iff_ne.mpr c4; obtain rfl := Option.some.inj H
   go_enter Try.func134, Try.ntmps134
   go_wp2_with (first | ((with_reducible refine zd 2 ?_); refine zbx (N := 2) (cs := #[.int .i64 a0_0, .int .i64 a0_1, .bool a0_2]) (t := 115) ?_; intro sC hg GE bA hb; have eA := zQ (bA); have nB := zgz hg HB.out; have UA := nB; replace HB := zbs HB.out hb; clear hb bA hg) | ((with_reducible refine zd 3 ?_); refine zbx (N := 3) (cs := #[.int .i64 a1_0, .int .i64 a1_1, .bool a1_2]) (t := 115) ?_; intro rC hg UE bA hb; have sB := zQ (bA); have mB := zgz2 hg HB.out UA.out; have qB := mB; have hA := zn1 hg eA.out; have gA := zn2 hg eA.out; replace eA := zbl eA.out hb; replace HB := zbs2 HB.out UA.out hb; clear hb bA hg; have pD := hA.out; have oD := gA.out; obtain ⟨AB, yB, cD, vB, uB, NC⟩ := zy3 eA.out; obtain ⟨gC, fC, bD, cC, bC, MC⟩ := zy3 sB.out))
   go_ret
   exact ⟨zE, zB3 HB.out UA.out qB.out⟩
 ·rw [if_neg c3] at H
  have bB : (a0_0 == a1_0) = false := beq_eq_false_iff_ne.mpr c3; have aB : (a0_0 != a1_0) = true := bne_iff_ne.mpr c3; obtain rfl := Option.some.inj H
  go_enter Try.func134, Try.ntmps134
  go_wp2_with (first | ((with_reducible refine zd 2 ?_); refine zbx (N := 2) (cs := #[.int .i64 a0_0, .int .i64 a0_1, .bool a0_2]) (t := 115) ?_; intro sC hg TE bA hb; have eA := zQ (bA); have nB := zgz hg HB.out; have UA := nB; replace HB := zbs HB.out hb; clear hb bA hg) | ((with_reducible refine zd 3 ?_); refine zbx (N := 3) (cs := #[.int .i64 a1_0, .int .i64 a1_1, .bool a1_2]) (t := 115) ?_; intro rC hg bF bA hb; have sB := zQ (bA); have mB := zgz2 hg HB.out UA.out; have qB := mB; have hA := zn1 hg eA.out; have gA := zn2 hg eA.out; replace eA := zbl eA.out hb; replace HB := zbs2 HB.out UA.out hb; clear hb bA hg; have cE := hA.out; have aE := gA.out; obtain ⟨aD, ZC, YC, LC, KC, JC⟩ := zy3 eA.out; obtain ⟨XC, WC, VC, IC, HC, GC⟩ := zy3 sB.out))
  go_ret
  exact ⟨zE, zB3 HB.out UA.out qB.out⟩

def laws_eqBarS.l0 : Nat → List (S115) → List (S115) → Int → Option (Bool)
 | 0, _, _, _ => none
 | k + 1, x0, x1, x5 => if x5 < (x0.length : Int) then (if 0 ≤ x5 then (if x5 < (x1.length : Int) then ((laws_eqBar.f ((rd_T115 x0 x5).f0) ((rd_T115 x0 x5).f1) ((rd_T115 x0 x5).f2) ((rd_T115 x1 x5).f0) ((rd_T115 x1 x5).f1) ((rd_T115 x1 x5).f2)).bind fun GD => (if GD = true then (laws_eqBarS.l0 k x0 x1 (wrap64 (x5 + 1))) else (some false))) else (none)) else (none)) else (some true)
def laws_eqBarS.f (k : Nat) (l0 : List (S115)) (l1 : List (S115)) : Option (Bool) := if (l0.length : Int) = (l1.length : Int) then (laws_eqBarS.l0 k l0 l1 0) else (some false)
def laws_eqBarS.T6 : Bool × List (List Nat × List Nat) := (true, [([], []), ([], []), ([0, 1], [0, 1]), ([2], [2]), ([], []), ([], []), ([4, 5], [4, 5]), ([6], [6]), ([3, 7], [3, 7]), ([8], [8])])
def laws_eqBarS.B6 : List Nat := [0, 0, 3, 7, 0, 0, 48, 112, 255, 511]
theorem laws_eqBarS.tab6 : rtab .any (opsOf Try.f101 6) = laws_eqBarS.T6 := by kernel_rfl
theorem laws_eqBarS.bits6 : waitsOk laws_eqBarS.T6.2 laws_eqBarS.B6 = true := by kernel_rfl
theorem laws_eqBarS.calls (k : Nat) (A0 : Option Addr) (c0 : Nat) (l0 : List (S115)) (A1 : Option Addr) (c1 : Nat) (l1 : List (S115)) (r : Bool) (w : World) (kC : Kd.C k115 w A0 l0.length l0) (qC : l0.length ≤ c0) (jC : Kd.C k115 w A1 l1.length l1) (pC : l1.length ≤ c1) (h : laws_eqBarS.f k l0 l1 = some r) :
  Calls Try.prog 101 #[.slice A0 l0.length c0, .slice A1 l1.length c1] w fun e w' => e = .returned (.bool r) ∧ Below w.heap.size w w' := by
 have YD := Try.underlying115
 have AC := zQ kC
 have SE := zQ qC
 clear kC qC
 have xC := zQ jC
 have RE := zQ pC
 clear jC pC
 have HB := zQ (Below.refl w.heap.size w)
 have H := h; unfold laws_eqBarS.f at H
 clear h
 by_cases c3 : (l0.length : Int) = (l1.length : Int)
 ·rw [if_pos c3] at H
  have bB : ((l0.length : Int) == (l1.length : Int)) = true := beq_iff_eq.mpr c3; have aB : ((l0.length : Int) != (l1.length : Int)) = false := bne_eq_false_iff_eq.mpr c3
  have jB : (l0.length == l1.length) = true := by first | simpa using c3 | (simp at c3 ⊢; omega)
  clear c3; have H' := zQ H; clear H
  go_enter Try.func101, Try.ntmps101
  go_wp2
  go_loopg [5] k (fun kq v5 w' => ∃ (aA : Int), v5 = .int .i64 aA ∧ Aside0 (laws_eqBarS.l0 kq l0 l1 aA = some r) ∧ Aside0 (kq ≤ k) ∧ Aside0 (Below w.heap.size w w'))
  case atStart => exact ⟨(0), (zF), H', ⟨Nat.le_refl _⟩, ⟨zB HB.out⟩⟩
  case round =>
   clear H'; (try clear c1); (try clear p2); (try clear c3); (try clear bB); (try clear aB); (try clear jB); obtain ⟨aA, rfl, HA, BC, HB⟩ := hrel
   cases gk with
   | zero => exact absurd HA.out (by simp [laws_eqBarS.l0])
   | succ k1 =>
    have H := HA.out; clear HA
    simp only [laws_eqBarS.l0] at H
    by_cases c4 : aA < (l0.length : Int)
    ·rw [if_pos c4] at H
     have iB := decide_eq_true c4; clear c4
     by_cases c5 : 0 ≤ aA
     ·rw [if_pos c5] at H
      have aC := decide_eq_true c5; clear c5
      by_cases c6 : aA < (l1.length : Int)
      ·rw [if_pos c6] at H
       have SD := decide_eq_true c6; clear c6; replace H := zob H; obtain ⟨GD, A7, H⟩ := H
       by_cases c8 : GD = true
       ·subst c8
        rw [if_pos rfl] at H; have H' := zQ H; clear H
        try go_wp2
        have n0_ := zQ (below_drew1 HB.out); clear HB; have HB := n0_; clear n0_; have XB : 0 ≤ (aA : Int) := zD; have PB : aA < (l0.length : Int) := zD; obtain ⟨dB, PD, wA, vA, uA⟩ := at_T115 AC.out aA XB PB; have LA := uA; have MA := vA; have NA := wA
        cases PD
        replace wA := zw HB.out wA; replace vA := zw HB.out vA; replace uA := zw HB.out uA; replace XB := eq_true XB; replace PB := eq_true PB; have WB : 0 ≤ (aA : Int) := zD; have OB : aA < (l1.length : Int) := zD; obtain ⟨cB, OD, tA, sA, rA⟩ := at_T115 xC.out aA WB OB; have IA := rA; have JA := sA; have KA := tA
        cases OD
        replace tA := zw HB.out tA; replace sA := zw HB.out sA; replace rA := zw HB.out rA; replace WB := eq_true WB; replace OB := eq_true OB
        refine zs (fun w' => w'.cell? (dB.add ((aA).toNat * 3)) = some (.int .i64 ((rd_T115 l0 aA).f0)) ∧ w'.cell? ⟨(dB.add ((aA).toNat * 3)).block, (dB.add ((aA).toNat * 3)).off + 1, none⟩ = some (.int .i64 ((rd_T115 l0 aA).f1)) ∧ w'.cell? ⟨(dB.add ((aA).toNat * 3)).block, (dB.add ((aA).toNat * 3)).off + 2, none⟩ = some (.bool ((rd_T115 l0 aA).f2)) ∧ w'.cell? (cB.add ((aA).toNat * 3)) = some (.int .i64 ((rd_T115 l1 aA).f0)) ∧ w'.cell? ⟨(cB.add ((aA).toNat * 3)).block, (cB.add ((aA).toNat * 3)).off + 1, none⟩ = some (.int .i64 ((rd_T115 l1 aA).f1)) ∧ w'.cell? ⟨(cB.add ((aA).toNat * 3)).block, (cB.add ((aA).toNat * 3)).off + 2, none⟩ = some (.bool ((rd_T115 l1 aA).f2))) [] 10 ⟨((HB.out.cell (World.block_lt_of_cell? w _ NA)).trans NA), ((HB.out.cell (World.block_lt_of_cell? w _ MA)).trans MA), ((HB.out.cell (World.block_lt_of_cell? w _ LA)).trans LA), ((HB.out.cell (World.block_lt_of_cell? w _ KA)).trans KA), ((HB.out.cell (World.block_lt_of_cell? w _ JA)).trans JA), ((HB.out.cell (World.block_lt_of_cell? w _ IA)).trans IA)⟩ (fun cA => ?_); refine with_tabW laws_eqBarS.tab6 laws_eqBarS.bits6 (fun HT_ HW_ => ?_)
        generalize wr.drew = w9 at HB wA vA uA tA sA rA cA ⊢
        refine zp 0 17 ?_
        refine zp 1 18 ?_
        refine zp 2 19 ?_
        refine zp 4 21 ?_
        refine zp 5 22 ?_
        refine zp 6 23 ?_
        refine zt 3 20 cA ?_
        refine zt 7 24 cA ?_
        refine zo 8 (some 25) (fun K hK => ?_)
        refine goes_ Try.func134 (by kernel_rfl) rfl #[.agg #[.int .i64 ((rd_T115 l0 aA).f0), .int .i64 ((rd_T115 l0 aA).f1), .bool ((rd_T115 l0 aA).f2)], .agg #[.int .i64 ((rd_T115 l1 aA).f0), .int .i64 ((rd_T115 l1 aA).f1), .bool ((rd_T115 l1 aA).f2)]] (by rfl) rfl rfl zM ?_
        with_reducible refine (laws_eqBar.calls ((rd_T115 l0 aA).f0) ((rd_T115 l0 aA).f1) ((rd_T115 l0 aA).f2) ((rd_T115 l1 aA).f0) ((rd_T115 l1 aA).f1) ((rd_T115 l1 aA).f2) true _ A7.out).mono ?_
        rintro e HE ⟨rfl, hb⟩
        refine ⟨_, rfl, ?_⟩
        have n0_ := zbs HB.out hb; clear HB; have HB := n0_; clear n0_
        (try clear hb)
        (try clear eE)
        (try clear hk)
        (try clear hi)
        refine hK.out _ _ ⟨((HB.out.cell (World.block_lt_of_cell? w _ NA)).trans NA), ((HB.out.cell (World.block_lt_of_cell? w _ MA)).trans MA), ((HB.out.cell (World.block_lt_of_cell? w _ LA)).trans LA), ((HB.out.cell (World.block_lt_of_cell? w _ KA)).trans KA), ((HB.out.cell (World.block_lt_of_cell? w _ JA)).trans JA), ((HB.out.cell (World.block_lt_of_cell? w _ IA)).trans IA)⟩ (fun cA => ?_)
        clear hK K
        refine zn 25 ?_
        refine zp 9 26 ?_
        refine done_ (done_of HT_.out (by kernel_rfl)) ?_
        try go_wp2
        go_roundg k1
        case measure => have := BC.out; omega
        case rel => exact ⟨(wrap64 (aA + 1)), (zF), H', ⟨by have := BC.out; omega⟩, ⟨zB HB.out⟩⟩
       ·replace c8 := Bool.eq_false_iff.mpr c8
        subst c8
        rw [if_neg Bool.false_ne_true] at H; obtain rfl := Option.some.inj H
        try go_wp2
        have n0_ := zQ (below_drew1 HB.out); clear HB; have HB := n0_; clear n0_; have XB : 0 ≤ (aA : Int) := zD; have PB : aA < (l0.length : Int) := zD; obtain ⟨dB, PD, wA, vA, uA⟩ := at_T115 AC.out aA XB PB; have LA := uA; have MA := vA; have NA := wA
        cases PD
        replace wA := zw HB.out wA; replace vA := zw HB.out vA; replace uA := zw HB.out uA; replace XB := eq_true XB; replace PB := eq_true PB; have WB : 0 ≤ (aA : Int) := zD; have OB : aA < (l1.length : Int) := zD; obtain ⟨cB, OD, tA, sA, rA⟩ := at_T115 xC.out aA WB OB; have IA := rA; have JA := sA; have KA := tA
        cases OD
        replace tA := zw HB.out tA; replace sA := zw HB.out sA; replace rA := zw HB.out rA; replace WB := eq_true WB; replace OB := eq_true OB
        refine zs (fun w' => w'.cell? (dB.add ((aA).toNat * 3)) = some (.int .i64 ((rd_T115 l0 aA).f0)) ∧ w'.cell? ⟨(dB.add ((aA).toNat * 3)).block, (dB.add ((aA).toNat * 3)).off + 1, none⟩ = some (.int .i64 ((rd_T115 l0 aA).f1)) ∧ w'.cell? ⟨(dB.add ((aA).toNat * 3)).block, (dB.add ((aA).toNat * 3)).off + 2, none⟩ = some (.bool ((rd_T115 l0 aA).f2)) ∧ w'.cell? (cB.add ((aA).toNat * 3)) = some (.int .i64 ((rd_T115 l1 aA).f0)) ∧ w'.cell? ⟨(cB.add ((aA).toNat * 3)).block, (cB.add ((aA).toNat * 3)).off + 1, none⟩ = some (.int .i64 ((rd_T115 l1 aA).f1)) ∧ w'.cell? ⟨(cB.add ((aA).toNat * 3)).block, (cB.add ((aA).toNat * 3)).off + 2, none⟩ = some (.bool ((rd_T115 l1 aA).f2))) [] 10 ⟨((HB.out.cell (World.block_lt_of_cell? w _ NA)).trans NA), ((HB.out.cell (World.block_lt_of_cell? w _ MA)).trans MA), ((HB.out.cell (World.block_lt_of_cell? w _ LA)).trans LA), ((HB.out.cell (World.block_lt_of_cell? w _ KA)).trans KA), ((HB.out.cell (World.block_lt_of_cell? w _ JA)).trans JA), ((HB.out.cell (World.block_lt_of_cell? w _ IA)).trans IA)⟩ (fun cA => ?_); refine with_tabW laws_eqBarS.tab6 laws_eqBarS.bits6 (fun HT_ HW_ => ?_)
        generalize wr.drew = WD at HB wA vA uA tA sA rA cA ⊢
        refine zp 0 17 ?_
        refine zp 1 18 ?_
        refine zp 2 19 ?_
        refine zp 4 21 ?_
        refine zp 5 22 ?_
        refine zp 6 23 ?_
        refine zt 3 20 cA ?_
        refine zt 7 24 cA ?_
        refine zo 8 (some 25) (fun K hK => ?_)
        refine goes_ Try.func134 (by kernel_rfl) rfl #[.agg #[.int .i64 ((rd_T115 l0 aA).f0), .int .i64 ((rd_T115 l0 aA).f1), .bool ((rd_T115 l0 aA).f2)], .agg #[.int .i64 ((rd_T115 l1 aA).f0), .int .i64 ((rd_T115 l1 aA).f1), .bool ((rd_T115 l1 aA).f2)]] (by rfl) rfl rfl zM ?_
        with_reducible refine (laws_eqBar.calls ((rd_T115 l0 aA).f0) ((rd_T115 l0 aA).f1) ((rd_T115 l0 aA).f2) ((rd_T115 l1 aA).f0) ((rd_T115 l1 aA).f1) ((rd_T115 l1 aA).f2) false _ A7.out).mono ?_
        rintro e VD ⟨rfl, hb⟩
        refine ⟨_, rfl, ?_⟩
        have n0_ := zbs HB.out hb; clear HB; have HB := n0_; clear n0_
        (try clear hb)
        (try clear eE)
        (try clear hk)
        (try clear hi)
        refine hK.out _ _ ⟨((HB.out.cell (World.block_lt_of_cell? w _ NA)).trans NA), ((HB.out.cell (World.block_lt_of_cell? w _ MA)).trans MA), ((HB.out.cell (World.block_lt_of_cell? w _ LA)).trans LA), ((HB.out.cell (World.block_lt_of_cell? w _ KA)).trans KA), ((HB.out.cell (World.block_lt_of_cell? w _ JA)).trans JA), ((HB.out.cell (World.block_lt_of_cell? w _ IA)).trans IA)⟩ (fun cA => ?_)
        clear hK K
        refine zn 25 ?_
        refine zp 9 26 ?_
        refine done_ (done_of HT_.out (by kernel_rfl)) ?_
        try go_wp2
        go_ret
        exact ⟨zE, zB HB.out⟩
      ·rw [if_neg c6] at H
       exact absurd H (by simp)
     ·rw [if_neg c5] at H
      exact absurd H (by simp)
    ·rw [if_neg c4] at H
     have iB := decide_eq_false c4; clear c4; obtain rfl := Option.some.inj H
     go_wp2
     go_ret
     exact ⟨zE, zB HB.out⟩
 ·rw [if_neg c3] at H
  have bB : ((l0.length : Int) == (l1.length : Int)) = false := beq_eq_false_iff_ne.mpr c3; have aB : ((l0.length : Int) != (l1.length : Int)) = true := bne_iff_ne.mpr c3
  have jB : (l0.length == l1.length) = false := by first | simpa using c3 | (simp at c3 ⊢; omega)
  obtain rfl := Option.some.inj H
  go_enter Try.func101, Try.ntmps101
  go_wp2
  go_ret
  exact ⟨zE, zB HB.out⟩

def laws_eqFrame.f (k : Nat) (l0_0 : List (S164)) (l0_1 : List (S115)) (l1_0 : List (S164)) (l1_1 : List (S115)) : Option (Bool) := (laws_eqKnotS.f k l0_0 l1_0).bind fun FD => (if FD = true then ((laws_eqBarS.f k l0_1 l1_1).bind fun ED => (if ED = true then (some true) else (some false))) else (some false))
theorem laws_eqFrame.calls (k : Nat) (A0_0 : Option Addr) (c0_0 : Nat) (l0_0 : List (S164)) (A0_1 : Option Addr) (c0_1 : Nat) (l0_1 : List (S115)) (A1_0 : Option Addr) (c1_0 : Nat) (l1_0 : List (S164)) (A1_1 : Option Addr) (c1_1 : Nat) (l1_1 : List (S115)) (r : Bool) (w : World) (nD : Kd.C k164 w A0_0 l0_0.length l0_0) (tD : l0_0.length ≤ c0_0) (mD : Kd.C k115 w A0_1 l0_1.length l0_1) (sD : l0_1.length ≤ c0_1) (lD : Kd.C k164 w A1_0 l1_0.length l1_0) (rD : l1_0.length ≤ c1_0) (kD : Kd.C k115 w A1_1 l1_1.length l1_1) (qD : l1_1.length ≤ c1_1) (h : laws_eqFrame.f k l0_0 l0_1 l1_0 l1_1 = some r) :
  Calls Try.prog 39 #[.agg #[.slice A0_0 l0_0.length c0_0, .slice A0_1 l0_1.length c0_1], .agg #[.slice A1_0 l1_0.length c1_0, .slice A1_1 l1_1.length c1_1]] w fun e w' => e = .returned (.bool r) ∧ Below w.heap.size w w' := by
 have dF := Try.underlying27
 have yC := zQ nD
 have DC := zQ tD
 clear nD tD
 have AD := zQ mD
 have CD := zQ sD
 clear mD sD
 have wC := zQ lD
 have CC := zQ rD
 clear lD rD
 have yD := zQ kD
 have BD := zQ qD
 clear kD qD
 have HB := zQ (Below.refl w.heap.size w)
 have H := h; unfold laws_eqFrame.f at H
 clear h
 replace H := zob H; obtain ⟨FD, A3, H⟩ := H
 by_cases c4 : FD = true
 ·subst c4
  rw [if_pos rfl] at H; replace H := zob H; obtain ⟨ED, A5, H⟩ := H
  by_cases c6 : ED = true
  ·subst c6
   rw [if_pos rfl] at H; obtain rfl := Option.some.inj H
   go_enter Try.func39, Try.ntmps39
   go_wp2_with (first | ((with_reducible refine zd 2 ?_); refine zbx (N := 2) (cs := #[.slice A0_0 l0_0.length c0_0, .slice A0_1 l0_1.length c0_1]) (t := 27) ?_; intro xD hg w7 bA hb; have dA := zQ (bA); have GB := zgz hg HB.out; have mA := GB; replace HB := zbs HB.out hb; clear hb bA hg) | ((with_reducible refine zd 3 ?_); refine zbx (N := 3) (cs := #[.slice A1_0 l1_0.length c1_0, .slice A1_1 l1_1.length c1_1]) (t := 27) ?_; intro wD hg w8 bA hb; have lA := zQ (bA); have FB := zgz2 hg HB.out mA.out; have hB := FB; have ZA := zn1 hg dA.out; have YA := zn2 hg dA.out; replace dA := zbl dA.out hb; replace HB := zbs2 HB.out mA.out hb; clear hb bA hg; have gF := ZA.out; have eF := YA.out; obtain ⟨iC, hC, eC, dC⟩ := zy2 dA.out; obtain ⟨FE, EE, sE, rE⟩ := zy2 lA.out) | ((with_reducible refine zgc 100 ?_); refine zgo (some 9) Try.func100 #[.slice A0_0 l0_0.length c0_0, .slice A1_0 l1_0.length c1_0] ?_; (with_reducible refine (laws_eqKnotS.calls k _ _ l0_0 _ _ l1_0 true _ (zC yC.out HB.out) DC.out (zC wC.out HB.out) CC.out A3.out).mono ?_); rintro e VD ⟨rfl, hb⟩; refine ⟨_, rfl, ?_⟩; replace dA := zbl dA.out hb; replace lA := zbl lA.out hb; replace HB := zQ (below_step (zB3 HB.out mA.out hB.out) hb); (try clear hb); obtain ⟨iD, hD, TC, SC⟩ := zy2 dA.out; obtain ⟨CB, BB, xB, wB⟩ := zy2 lA.out) | ((with_reducible refine zgc 101 ?_); refine zgo (some 15) Try.func101 #[.slice A0_1 l0_1.length c0_1, .slice A1_1 l1_1.length c1_1] ?_; (with_reducible refine (laws_eqBarS.calls k _ _ l0_1 _ _ l1_1 true _ (zC AD.out HB.out) CD.out (zC yD.out HB.out) BD.out A5.out).mono ?_); rintro e cF ⟨rfl, hb⟩; refine ⟨_, rfl, ?_⟩; replace dA := zbl dA.out hb; replace lA := zbl lA.out hb; replace HB := zQ (below_step (zB3 HB.out mA.out hB.out) hb); (try clear hb)))
   go_ret
   exact ⟨zE, zB3 HB.out mA.out hB.out⟩
  ·replace c6 := Bool.eq_false_iff.mpr c6
   subst c6
   rw [if_neg Bool.false_ne_true] at H; obtain rfl := Option.some.inj H
   go_enter Try.func39, Try.ntmps39
   go_wp2_with (first | ((with_reducible refine zd 2 ?_); refine zbx (N := 2) (cs := #[.slice A0_0 l0_0.length c0_0, .slice A0_1 l0_1.length c0_1]) (t := 27) ?_; intro xD hg GE bA hb; have dA := zQ (bA); have GB := zgz hg HB.out; have mA := GB; replace HB := zbs HB.out hb; clear hb bA hg) | ((with_reducible refine zd 3 ?_); refine zbx (N := 3) (cs := #[.slice A1_0 l1_0.length c1_0, .slice A1_1 l1_1.length c1_1]) (t := 27) ?_; intro wD hg UE bA hb; have lA := zQ (bA); have FB := zgz2 hg HB.out mA.out; have hB := FB; have ZA := zn1 hg dA.out; have YA := zn2 hg dA.out; replace dA := zbl dA.out hb; replace HB := zbs2 HB.out mA.out hb; clear hb bA hg; have pD := ZA.out; have oD := YA.out; obtain ⟨AB, yB, vB, uB⟩ := zy2 dA.out; obtain ⟨gC, fC, cC, bC⟩ := zy2 lA.out) | ((with_reducible refine zgc 100 ?_); refine zgo (some 9) Try.func100 #[.slice A0_0 l0_0.length c0_0, .slice A1_0 l1_0.length c1_0] ?_; (with_reducible refine (laws_eqKnotS.calls k _ _ l0_0 _ _ l1_0 true _ (zC yC.out HB.out) DC.out (zC wC.out HB.out) CC.out A3.out).mono ?_); rintro e TE ⟨rfl, hb⟩; refine ⟨_, rfl, ?_⟩; replace dA := zbl dA.out hb; replace lA := zbl lA.out hb; replace HB := zQ (below_step (zB3 HB.out mA.out hB.out) hb); (try clear hb); obtain ⟨BE, AE, oE, nE⟩ := zy2 dA.out; obtain ⟨yE, xE, mE, lE⟩ := zy2 lA.out) | ((with_reducible refine zgc 101 ?_); refine zgo (some 15) Try.func101 #[.slice A0_1 l0_1.length c0_1, .slice A1_1 l1_1.length c1_1] ?_; (with_reducible refine (laws_eqBarS.calls k _ _ l0_1 _ _ l1_1 false _ (zC AD.out HB.out) CD.out (zC yD.out HB.out) BD.out A5.out).mono ?_); rintro e mF ⟨rfl, hb⟩; refine ⟨_, rfl, ?_⟩; replace dA := zbl dA.out hb; replace lA := zbl lA.out hb; replace HB := zQ (below_step (zB3 HB.out mA.out hB.out) hb); (try clear hb)))
   go_ret
   exact ⟨zE, zB3 HB.out mA.out hB.out⟩
 ·replace c4 := Bool.eq_false_iff.mpr c4
  subst c4
  rw [if_neg Bool.false_ne_true] at H; obtain rfl := Option.some.inj H
  go_enter Try.func39, Try.ntmps39
  go_wp2_with (first | ((with_reducible refine zd 2 ?_); refine zbx (N := 2) (cs := #[.slice A0_0 l0_0.length c0_0, .slice A0_1 l0_1.length c0_1]) (t := 27) ?_; intro xD hg lF bA hb; have dA := zQ (bA); have GB := zgz hg HB.out; have mA := GB; replace HB := zbs HB.out hb; clear hb bA hg) | ((with_reducible refine zd 3 ?_); refine zbx (N := 3) (cs := #[.slice A1_0 l1_0.length c1_0, .slice A1_1 l1_1.length c1_1]) (t := 27) ?_; intro wD hg kF bA hb; have lA := zQ (bA); have FB := zgz2 hg HB.out mA.out; have hB := FB; have ZA := zn1 hg dA.out; have YA := zn2 hg dA.out; replace dA := zbl dA.out hb; replace HB := zbs2 HB.out mA.out hb; clear hb bA hg; have YE := ZA.out; have VE := YA.out; obtain ⟨wE, vE, kE, jE⟩ := zy2 dA.out; obtain ⟨uE, tE, iE, hE⟩ := zy2 lA.out) | ((with_reducible refine zgc 100 ?_); refine zgo (some 9) Try.func100 #[.slice A0_0 l0_0.length c0_0, .slice A1_0 l1_0.length c1_0] ?_; (with_reducible refine (laws_eqKnotS.calls k _ _ l0_0 _ _ l1_0 false _ (zC yC.out HB.out) DC.out (zC wC.out HB.out) CC.out A3.out).mono ?_); rintro e jF ⟨rfl, hb⟩; refine ⟨_, rfl, ?_⟩; replace dA := zbl dA.out hb; replace lA := zbl lA.out hb; replace HB := zQ (below_step (zB3 HB.out mA.out hB.out) hb); (try clear hb)))
  go_ret
  exact ⟨zE, zB3 HB.out mA.out hB.out⟩

def laws_eqInt64S.l0 : Nat → List Int → List Int → Int → Option (Bool)
 | 0, _, _, _ => none
 | k + 1, x0, x1, x5 => if x5 < (x0.length : Int) then (if 0 ≤ x5 then (if x5 < (x1.length : Int) then (if (rd x0 x5) = (rd x1 x5) then (laws_eqInt64S.l0 k x0 x1 (wrap64 (x5 + 1))) else (some false)) else (none)) else (none)) else (some true)
def laws_eqInt64S.f (k : Nat) (l0 : List Int) (l1 : List Int) : Option (Bool) := if (l0.length : Int) = (l1.length : Int) then (laws_eqInt64S.l0 k l0 l1 0) else (some false)
theorem laws_eqInt64S.calls (k : Nat) (A0 : Option Addr) (c0 : Nat) (l0 : List Int) (A1 : Option Addr) (c1 : Nat) (l1 : List Int) (r : Bool) (w : World) (kC : Kd.C (Kd.int .i64) w A0 l0.length l0) (qC : l0.length ≤ c0) (jC : Kd.C (Kd.int .i64) w A1 l1.length l1) (pC : l1.length ≤ c1) (h : laws_eqInt64S.f k l0 l1 = some r) :
  Calls Try.prog 41 #[.slice A0 l0.length c0, .slice A1 l1.length c1] w fun e w' => e = .returned (.bool r) ∧ Drawn0 w w' := by
 have AC := zQ kC
 have SE := zQ qC
 clear kC qC
 have xC := zQ jC
 have RE := zQ pC
 clear jC pC
 have H := h; unfold laws_eqInt64S.f at H
 clear h
 by_cases c3 : (l0.length : Int) = (l1.length : Int)
 ·rw [if_pos c3] at H
  have bB : ((l0.length : Int) == (l1.length : Int)) = true := beq_iff_eq.mpr c3; have aB : ((l0.length : Int) != (l1.length : Int)) = false := bne_eq_false_iff_eq.mpr c3
  have jB : (l0.length == l1.length) = true := by first | simpa using c3 | (simp at c3 ⊢; omega)
  clear c3; have H' := zQ H; clear H
  go_enter Try.func41, Try.ntmps41
  go_wp2
  repeat (go_quiet (fail); try go_wp2)
  go_loopg [5] k (fun kq v5 w' => ∃ (aA : Int), v5 = .int .i64 aA ∧ Aside0 (laws_eqInt64S.l0 kq l0 l1 aA = some r) ∧ Aside0 (kq ≤ k) ∧ Drawn0 w w')
  case atStart => exact ⟨(0), (zF), H', ⟨Nat.le_refl _⟩, by repeat (first | exact Drawn0.refl _ | apply Drawn0.step)⟩
  case round =>
   clear H'; (try clear c1); (try clear p2); (try clear c3); (try clear bB); (try clear aB); (try clear jB); obtain ⟨aA, rfl, HA, BC, ⟨m1, rfl⟩⟩ := hrel
   cases gk with
   | zero => exact absurd HA.out (by simp [laws_eqInt64S.l0])
   | succ k1 =>
    have H := HA.out; clear HA
    simp only [laws_eqInt64S.l0] at H
    by_cases c4 : aA < (l0.length : Int)
    ·rw [if_pos c4] at H
     have iB := decide_eq_true c4; clear c4
     by_cases c5 : 0 ≤ aA
     ·rw [if_pos c5] at H
      have aC := decide_eq_true c5; clear c5
      by_cases c6 : aA < (l1.length : Int)
      ·rw [if_pos c6] at H
       have SD := decide_eq_true c6; clear c6
       by_cases c7 : (rd l0 aA) = (rd l1 aA)
       ·rw [if_pos c7] at H
        have PE : ((rd l0 aA) == (rd l1 aA)) = true := beq_iff_eq.mpr c7; have OE : ((rd l0 aA) != (rd l1 aA)) = false := bne_eq_false_iff_eq.mpr c7; clear c7; have H' := zQ H; clear H; have VB : 0 ≤ (aA : Int) := zD; have NB : aA < (l0.length : Int) := zD; obtain ⟨gE, ND, FC⟩ := Kd.at_int AC.out aA VB NB
        cases ND
        replace VB := eq_true VB; replace NB := eq_true NB; have UB : 0 ≤ (aA : Int) := zD; have MB : aA < (l1.length : Int) := zD; obtain ⟨fE, MD, EC⟩ := Kd.at_int xC.out aA UB MB
        cases MD
        replace UB := eq_true UB; replace MB := eq_true MB
        go_wp2
        repeat (go_quiet (fail); try go_wp2)
        go_roundg k1
        case measure => have := BC.out; omega
        case rel => exact ⟨(wrap64 (aA + 1)), (zF), H', ⟨by have := BC.out; omega⟩, by repeat (first | exact Drawn0.refl _ | apply Drawn0.step)⟩
       ·rw [if_neg c7] at H
        have PE : ((rd l0 aA) == (rd l1 aA)) = false := beq_eq_false_iff_ne.mpr c7; have OE : ((rd l0 aA) != (rd l1 aA)) = true := bne_iff_ne.mpr c7; obtain rfl := Option.some.inj H; have VB : 0 ≤ (aA : Int) := zD; have NB : aA < (l0.length : Int) := zD; obtain ⟨gE, ND, FC⟩ := Kd.at_int AC.out aA VB NB
        cases ND
        replace VB := eq_true VB; replace NB := eq_true NB; have UB : 0 ≤ (aA : Int) := zD; have MB : aA < (l1.length : Int) := zD; obtain ⟨fE, MD, EC⟩ := Kd.at_int xC.out aA UB MB
        cases MD
        replace UB := eq_true UB; replace MB := eq_true MB
        go_wp2
        repeat (go_quiet (fail); try go_wp2)
        go_ret
        exact ⟨zF, by repeat (first | exact Drawn0.refl _ | apply Drawn0.step)⟩
      ·rw [if_neg c6] at H
       exact absurd H (by simp)
     ·rw [if_neg c5] at H
      exact absurd H (by simp)
    ·rw [if_neg c4] at H
     have iB := decide_eq_false c4; clear c4; obtain rfl := Option.some.inj H
     go_wp2
     repeat (go_quiet (fail); try go_wp2)
     go_ret
     exact ⟨zF, by repeat (first | exact Drawn0.refl _ | apply Drawn0.step)⟩
 ·rw [if_neg c3] at H
  have bB : ((l0.length : Int) == (l1.length : Int)) = false := beq_eq_false_iff_ne.mpr c3; have aB : ((l0.length : Int) != (l1.length : Int)) = true := bne_iff_ne.mpr c3
  have jB : (l0.length == l1.length) = false := by first | simpa using c3 | (simp at c3 ⊢; omega)
  obtain rfl := Option.some.inj H
  go_enter Try.func41, Try.ntmps41
  go_wp2
  repeat (go_quiet (fail); try go_wp2)
  go_ret
  exact ⟨zF, by repeat (first | exact Drawn0.refl _ | apply Drawn0.step)⟩

def laws_eqPull.f (a0_0 : Int) (a0_1 : Int) (a1_0 : Int) (a1_1 : Int) : Option (Bool) := if a0_0 = a1_0 then (if a0_1 = a1_1 then (some true) else (some false)) else (some false)
theorem laws_eqPull.calls (a0_0 : Int) (a0_1 : Int) (a1_0 : Int) (a1_1 : Int) (r : Bool) (w : World) (h : laws_eqPull.f a0_0 a0_1 a1_0 a1_1 = some r) :
  Calls Try.prog 102 #[.agg #[.int .i64 a0_0, .int .i64 a0_1], .agg #[.int .i64 a1_0, .int .i64 a1_1]] w fun e w' => e = .returned (.bool r) ∧ Below w.heap.size w w' := by
 have ZD := Try.underlying113
 have HB := zQ (Below.refl w.heap.size w)
 have H := h; unfold laws_eqPull.f at H
 clear h
 by_cases c3 : a0_0 = a1_0
 ·rw [if_pos c3] at H
  have bB : (a0_0 == a1_0) = true := beq_iff_eq.mpr c3; have aB : (a0_0 != a1_0) = false := bne_eq_false_iff_eq.mpr c3; clear c3
  by_cases c4 : a0_1 = a1_1
  ·rw [if_pos c4] at H
   have iB : (a0_1 == a1_1) = true := beq_iff_eq.mpr c4; have vC : (a0_1 != a1_1) = false := bne_eq_false_iff_eq.mpr c4; clear c4; obtain rfl := Option.some.inj H
   go_enter Try.func102, Try.ntmps102
   go_wp2_with (first | ((with_reducible refine zd 2 ?_); refine zbx (N := 2) (cs := #[.int .i64 a0_0, .int .i64 a0_1]) (t := 113) ?_; intro vD hg w5 bA hb; have kA := zQ (bA); have EB := zgz hg HB.out; have gB := EB; replace HB := zbs HB.out hb; clear hb bA hg) | ((with_reducible refine zd 3 ?_); refine zbx (N := 3) (cs := #[.int .i64 a1_0, .int .i64 a1_1]) (t := 113) ?_; intro uD hg w6 bA hb; have JB := zQ (bA); have DB := zgz2 hg HB.out gB.out; have IB := DB; have XA := zn1 hg kA.out; have WA := zn2 hg kA.out; replace kA := zbl kA.out hb; replace HB := zbs2 HB.out gB.out hb; clear hb bA hg; have hF := XA.out; have fF := WA.out; obtain ⟨NE, ME, LE, KE⟩ := zy2 kA.out; obtain ⟨oC, nC, mC, lC⟩ := zy2 JB.out))
   go_ret
   exact ⟨zE, zB3 HB.out gB.out IB.out⟩
  ·rw [if_neg c4] at H
   have iB : (a0_1 == a1_1) = false := beq_eq_false_iff_ne.mpr c4; have vC : (a0_1 != a1_1) = true := bne_iff_ne.mpr c4; obtain rfl := Option.some.inj H
   go_enter Try.func102, Try.ntmps102
   go_wp2_with (first | ((with_reducible refine zd 2 ?_); refine zbx (N := 2) (cs := #[.int .i64 a0_0, .int .i64 a0_1]) (t := 113) ?_; intro vD hg HE bA hb; have kA := zQ (bA); have EB := zgz hg HB.out; have gB := EB; replace HB := zbs HB.out hb; clear hb bA hg) | ((with_reducible refine zd 3 ?_); refine zbx (N := 3) (cs := #[.int .i64 a1_0, .int .i64 a1_1]) (t := 113) ?_; intro uD hg WD bA hb; have JB := zQ (bA); have DB := zgz2 hg HB.out gB.out; have IB := DB; have XA := zn1 hg kA.out; have WA := zn2 hg kA.out; replace kA := zbl kA.out hb; replace HB := zbs2 HB.out gB.out hb; clear hb bA hg; have aF := XA.out; have XE := WA.out; obtain ⟨iD, hD, TC, SC⟩ := zy2 kA.out; obtain ⟨CB, BB, xB, wB⟩ := zy2 JB.out))
   go_ret
   exact ⟨zE, zB3 HB.out gB.out IB.out⟩
 ·rw [if_neg c3] at H
  have bB : (a0_0 == a1_0) = false := beq_eq_false_iff_ne.mpr c3; have aB : (a0_0 != a1_0) = true := bne_iff_ne.mpr c3; obtain rfl := Option.some.inj H
  go_enter Try.func102, Try.ntmps102
  go_wp2_with (first | ((with_reducible refine zd 2 ?_); refine zbx (N := 2) (cs := #[.int .i64 a0_0, .int .i64 a0_1]) (t := 113) ?_; intro vD hg cF bA hb; have kA := zQ (bA); have EB := zgz hg HB.out; have gB := EB; replace HB := zbs HB.out hb; clear hb bA hg) | ((with_reducible refine zd 3 ?_); refine zbx (N := 3) (cs := #[.int .i64 a1_0, .int .i64 a1_1]) (t := 113) ?_; intro uD hg GE bA hb; have JB := zQ (bA); have DB := zgz2 hg HB.out gB.out; have IB := DB; have XA := zn1 hg kA.out; have WA := zn2 hg kA.out; replace kA := zbl kA.out hb; replace HB := zbs2 HB.out gB.out hb; clear hb bA hg; have ZE := XA.out; have WE := WA.out; obtain ⟨DE, CE, qE, pE⟩ := zy2 kA.out; obtain ⟨AB, yB, vB, uB⟩ := zy2 JB.out))
  go_ret
  exact ⟨zE, zB3 HB.out gB.out IB.out⟩

def laws_eqPullS.l0 : Nat → List (S113) → List (S113) → Int → Option (Bool)
 | 0, _, _, _ => none
 | k + 1, x0, x1, x5 => if x5 < (x0.length : Int) then (if 0 ≤ x5 then (if x5 < (x1.length : Int) then ((laws_eqPull.f ((rd_T113 x0 x5).f0) ((rd_T113 x0 x5).f1) ((rd_T113 x1 x5).f0) ((rd_T113 x1 x5).f1)).bind fun DD => (if DD = true then (laws_eqPullS.l0 k x0 x1 (wrap64 (x5 + 1))) else (some false))) else (none)) else (none)) else (some true)
def laws_eqPullS.f (k : Nat) (l0 : List (S113)) (l1 : List (S113)) : Option (Bool) := if (l0.length : Int) = (l1.length : Int) then (laws_eqPullS.l0 k l0 l1 0) else (some false)
def laws_eqPullS.T6 : Bool × List (List Nat × List Nat) := (true, [([], []), ([], []), ([0, 1], [0, 1]), ([2], [2]), ([], []), ([], []), ([4, 5], [4, 5]), ([6], [6]), ([3, 7], [3, 7]), ([8], [8])])
def laws_eqPullS.B6 : List Nat := [0, 0, 3, 7, 0, 0, 48, 112, 255, 511]
theorem laws_eqPullS.tab6 : rtab .any (opsOf Try.f40 6) = laws_eqPullS.T6 := by kernel_rfl
theorem laws_eqPullS.bits6 : waitsOk laws_eqPullS.T6.2 laws_eqPullS.B6 = true := by kernel_rfl
theorem laws_eqPullS.calls (k : Nat) (A0 : Option Addr) (c0 : Nat) (l0 : List (S113)) (A1 : Option Addr) (c1 : Nat) (l1 : List (S113)) (r : Bool) (w : World) (kC : Kd.C k113 w A0 l0.length l0) (qC : l0.length ≤ c0) (jC : Kd.C k113 w A1 l1.length l1) (pC : l1.length ≤ c1) (h : laws_eqPullS.f k l0 l1 = some r) :
  Calls Try.prog 40 #[.slice A0 l0.length c0, .slice A1 l1.length c1] w fun e w' => e = .returned (.bool r) ∧ Below w.heap.size w w' := by
 have ZD := Try.underlying113
 have AC := zQ kC
 have SE := zQ qC
 clear kC qC
 have xC := zQ jC
 have RE := zQ pC
 clear jC pC
 have HB := zQ (Below.refl w.heap.size w)
 have H := h; unfold laws_eqPullS.f at H
 clear h
 by_cases c3 : (l0.length : Int) = (l1.length : Int)
 ·rw [if_pos c3] at H
  have bB : ((l0.length : Int) == (l1.length : Int)) = true := beq_iff_eq.mpr c3; have aB : ((l0.length : Int) != (l1.length : Int)) = false := bne_eq_false_iff_eq.mpr c3
  have jB : (l0.length == l1.length) = true := by first | simpa using c3 | (simp at c3 ⊢; omega)
  clear c3; have H' := zQ H; clear H
  go_enter Try.func40, Try.ntmps40
  go_wp2
  go_loopg [5] k (fun kq v5 w' => ∃ (aA : Int), v5 = .int .i64 aA ∧ Aside0 (laws_eqPullS.l0 kq l0 l1 aA = some r) ∧ Aside0 (kq ≤ k) ∧ Aside0 (Below w.heap.size w w'))
  case atStart => exact ⟨(0), (zF), H', ⟨Nat.le_refl _⟩, ⟨zB HB.out⟩⟩
  case round =>
   clear H'; (try clear c1); (try clear p2); (try clear c3); (try clear bB); (try clear aB); (try clear jB); obtain ⟨aA, rfl, HA, BC, HB⟩ := hrel
   cases gk with
   | zero => exact absurd HA.out (by simp [laws_eqPullS.l0])
   | succ k1 =>
    have H := HA.out; clear HA
    simp only [laws_eqPullS.l0] at H
    by_cases c4 : aA < (l0.length : Int)
    ·rw [if_pos c4] at H
     have iB := decide_eq_true c4; clear c4
     by_cases c5 : 0 ≤ aA
     ·rw [if_pos c5] at H
      have aC := decide_eq_true c5; clear c5
      by_cases c6 : aA < (l1.length : Int)
      ·rw [if_pos c6] at H
       have SD := decide_eq_true c6; clear c6; replace H := zob H; obtain ⟨DD, A7, H⟩ := H
       by_cases c8 : DD = true
       ·subst c8
        rw [if_pos rfl] at H; have H' := zQ H; clear H
        try go_wp2
        have n0_ := zQ (below_drew1 HB.out); clear HB; have HB := n0_; clear n0_; have TB : 0 ≤ (aA : Int) := zD; have LB : aA < (l0.length : Int) := zD; obtain ⟨lB, LD, qA, pA⟩ := at_T113 AC.out aA TB LB; have FA := pA; have GA := qA
        cases LD
        replace qA := zw HB.out qA; replace pA := zw HB.out pA; replace TB := eq_true TB; replace LB := eq_true LB; have SB : 0 ≤ (aA : Int) := zD; have KB : aA < (l1.length : Int) := zD; obtain ⟨kB, KD, oA, nA⟩ := at_T113 xC.out aA SB KB; have DA := nA; have EA := oA
        cases KD
        replace oA := zw HB.out oA; replace nA := zw HB.out nA; replace SB := eq_true SB; replace KB := eq_true KB
        refine zs (fun w' => w'.cell? (lB.add ((aA).toNat * 2)) = some (.int .i64 ((rd_T113 l0 aA).f0)) ∧ w'.cell? ⟨(lB.add ((aA).toNat * 2)).block, (lB.add ((aA).toNat * 2)).off + 1, none⟩ = some (.int .i64 ((rd_T113 l0 aA).f1)) ∧ w'.cell? (kB.add ((aA).toNat * 2)) = some (.int .i64 ((rd_T113 l1 aA).f0)) ∧ w'.cell? ⟨(kB.add ((aA).toNat * 2)).block, (kB.add ((aA).toNat * 2)).off + 1, none⟩ = some (.int .i64 ((rd_T113 l1 aA).f1))) [] 10 ⟨((HB.out.cell (World.block_lt_of_cell? w _ GA)).trans GA), ((HB.out.cell (World.block_lt_of_cell? w _ FA)).trans FA), ((HB.out.cell (World.block_lt_of_cell? w _ EA)).trans EA), ((HB.out.cell (World.block_lt_of_cell? w _ DA)).trans DA)⟩ (fun cA => ?_); refine with_tabW laws_eqPullS.tab6 laws_eqPullS.bits6 (fun HT_ HW_ => ?_)
        generalize wr.drew = w9 at HB qA pA oA nA cA ⊢
        refine zp 0 17 ?_
        refine zp 1 18 ?_
        refine zp 2 19 ?_
        refine zp 4 21 ?_
        refine zp 5 22 ?_
        refine zp 6 23 ?_
        refine zt 3 20 cA ?_
        refine zt 7 24 cA ?_
        refine zo 8 (some 25) (fun K hK => ?_)
        refine goes_ Try.func102 (by kernel_rfl) rfl #[.agg #[.int .i64 ((rd_T113 l0 aA).f0), .int .i64 ((rd_T113 l0 aA).f1)], .agg #[.int .i64 ((rd_T113 l1 aA).f0), .int .i64 ((rd_T113 l1 aA).f1)]] (by rfl) rfl rfl zM ?_
        with_reducible refine (laws_eqPull.calls ((rd_T113 l0 aA).f0) ((rd_T113 l0 aA).f1) ((rd_T113 l1 aA).f0) ((rd_T113 l1 aA).f1) true _ A7.out).mono ?_
        rintro e HE ⟨rfl, hb⟩
        refine ⟨_, rfl, ?_⟩
        have n0_ := zbs HB.out hb; clear HB; have HB := n0_; clear n0_
        (try clear hb)
        (try clear eE)
        (try clear hk)
        (try clear hi)
        refine hK.out _ _ ⟨((HB.out.cell (World.block_lt_of_cell? w _ GA)).trans GA), ((HB.out.cell (World.block_lt_of_cell? w _ FA)).trans FA), ((HB.out.cell (World.block_lt_of_cell? w _ EA)).trans EA), ((HB.out.cell (World.block_lt_of_cell? w _ DA)).trans DA)⟩ (fun cA => ?_)
        clear hK K
        refine zn 25 ?_
        refine zp 9 26 ?_
        refine done_ (done_of HT_.out (by kernel_rfl)) ?_
        try go_wp2
        go_roundg k1
        case measure => have := BC.out; omega
        case rel => exact ⟨(wrap64 (aA + 1)), (zF), H', ⟨by have := BC.out; omega⟩, ⟨zB HB.out⟩⟩
       ·replace c8 := Bool.eq_false_iff.mpr c8
        subst c8
        rw [if_neg Bool.false_ne_true] at H; obtain rfl := Option.some.inj H
        try go_wp2
        have n0_ := zQ (below_drew1 HB.out); clear HB; have HB := n0_; clear n0_; have TB : 0 ≤ (aA : Int) := zD; have LB : aA < (l0.length : Int) := zD; obtain ⟨lB, LD, qA, pA⟩ := at_T113 AC.out aA TB LB; have FA := pA; have GA := qA
        cases LD
        replace qA := zw HB.out qA; replace pA := zw HB.out pA; replace TB := eq_true TB; replace LB := eq_true LB; have SB : 0 ≤ (aA : Int) := zD; have KB : aA < (l1.length : Int) := zD; obtain ⟨kB, KD, oA, nA⟩ := at_T113 xC.out aA SB KB; have DA := nA; have EA := oA
        cases KD
        replace oA := zw HB.out oA; replace nA := zw HB.out nA; replace SB := eq_true SB; replace KB := eq_true KB
        refine zs (fun w' => w'.cell? (lB.add ((aA).toNat * 2)) = some (.int .i64 ((rd_T113 l0 aA).f0)) ∧ w'.cell? ⟨(lB.add ((aA).toNat * 2)).block, (lB.add ((aA).toNat * 2)).off + 1, none⟩ = some (.int .i64 ((rd_T113 l0 aA).f1)) ∧ w'.cell? (kB.add ((aA).toNat * 2)) = some (.int .i64 ((rd_T113 l1 aA).f0)) ∧ w'.cell? ⟨(kB.add ((aA).toNat * 2)).block, (kB.add ((aA).toNat * 2)).off + 1, none⟩ = some (.int .i64 ((rd_T113 l1 aA).f1))) [] 10 ⟨((HB.out.cell (World.block_lt_of_cell? w _ GA)).trans GA), ((HB.out.cell (World.block_lt_of_cell? w _ FA)).trans FA), ((HB.out.cell (World.block_lt_of_cell? w _ EA)).trans EA), ((HB.out.cell (World.block_lt_of_cell? w _ DA)).trans DA)⟩ (fun cA => ?_); refine with_tabW laws_eqPullS.tab6 laws_eqPullS.bits6 (fun HT_ HW_ => ?_)
        generalize wr.drew = WD at HB qA pA oA nA cA ⊢
        refine zp 0 17 ?_
        refine zp 1 18 ?_
        refine zp 2 19 ?_
        refine zp 4 21 ?_
        refine zp 5 22 ?_
        refine zp 6 23 ?_
        refine zt 3 20 cA ?_
        refine zt 7 24 cA ?_
        refine zo 8 (some 25) (fun K hK => ?_)
        refine goes_ Try.func102 (by kernel_rfl) rfl #[.agg #[.int .i64 ((rd_T113 l0 aA).f0), .int .i64 ((rd_T113 l0 aA).f1)], .agg #[.int .i64 ((rd_T113 l1 aA).f0), .int .i64 ((rd_T113 l1 aA).f1)]] (by rfl) rfl rfl zM ?_
        with_reducible refine (laws_eqPull.calls ((rd_T113 l0 aA).f0) ((rd_T113 l0 aA).f1) ((rd_T113 l1 aA).f0) ((rd_T113 l1 aA).f1) false _ A7.out).mono ?_
        rintro e VD ⟨rfl, hb⟩
        refine ⟨_, rfl, ?_⟩
        have n0_ := zbs HB.out hb; clear HB; have HB := n0_; clear n0_
        (try clear hb)
        (try clear eE)
        (try clear hk)
        (try clear hi)
        refine hK.out _ _ ⟨((HB.out.cell (World.block_lt_of_cell? w _ GA)).trans GA), ((HB.out.cell (World.block_lt_of_cell? w _ FA)).trans FA), ((HB.out.cell (World.block_lt_of_cell? w _ EA)).trans EA), ((HB.out.cell (World.block_lt_of_cell? w _ DA)).trans DA)⟩ (fun cA => ?_)
        clear hK K
        refine zn 25 ?_
        refine zp 9 26 ?_
        refine done_ (done_of HT_.out (by kernel_rfl)) ?_
        try go_wp2
        go_ret
        exact ⟨zE, zB HB.out⟩
      ·rw [if_neg c6] at H
       exact absurd H (by simp)
     ·rw [if_neg c5] at H
      exact absurd H (by simp)
    ·rw [if_neg c4] at H
     have iB := decide_eq_false c4; clear c4; obtain rfl := Option.some.inj H
     go_wp2
     go_ret
     exact ⟨zE, zB HB.out⟩
 ·rw [if_neg c3] at H
  have bB : ((l0.length : Int) == (l1.length : Int)) = false := beq_eq_false_iff_ne.mpr c3; have aB : ((l0.length : Int) != (l1.length : Int)) = true := bne_iff_ne.mpr c3
  have jB : (l0.length == l1.length) = false := by first | simpa using c3 | (simp at c3 ⊢; omega)
  obtain rfl := Option.some.inj H
  go_enter Try.func40, Try.ntmps40
  go_wp2
  go_ret
  exact ⟨zE, zB HB.out⟩

end
end Go.Proofs.Ytimjblgepbhoaaa.PStays

