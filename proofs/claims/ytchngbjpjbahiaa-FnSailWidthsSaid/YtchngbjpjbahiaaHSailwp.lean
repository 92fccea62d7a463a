import Derived.Test.YtchngbjpjbahiaaHSailw0
import Derived.Test.YtchngbjpjbahiaaHSailwm
import Derived.Test.YtchngbjpjbahiaaHSailwn
namespace Go.Proofs.Ytchngbjpjbahiaa.PSailw
noncomputable section
open Go.RowKit Go.Proofs.YtchngbjpjbahiaaW.PrintWords Go.Proofs.YtchngbjpjbahiaaW.PrintLast Go.Proofs.YtchngbjpjbahiaaW.PrintMore
attribute [local go_sem] max2_int min2_int max_two min_two max_three min_three max_four min_four   -- for this text's walks alone
set_option linter.unusedVariables false
set_option linter.unusedSimpArgs false
set_option maxHeartbeats 8000000
set_option maxRecDepth 100000

mutual
def impl_widthAt.l0 : Nat → List (S49) → Int → List (S25) → List (S49) → Int → Int → Option (Int × Int)
 | 0, _, _, _, _, _, _ => none
 | k + 1, x0, x1, x5, x12, x13, x14 => if x14 < x13 then (if 0 ≤ x14 then (if x14 < (x12.length : Int) then (if (x0.length : Int) = 0 then (none) else (if 0 ≤ (Int.tmod (wrap64 (x14 + 1)) (x0.length : Int)) then (if (Int.tmod (wrap64 (x14 + 1)) (x0.length : Int)) < (x0.length : Int) then (if ((rd_T49 x12 x14).f1) = x1 then ((impl_fraction.f k ((rd_T49 x12 x14).f0) 1).bind fun SA => (if x5.length < 8796093022208 then (impl_widthAt.j1 k x0 x1 (x5 ++ [(⟨SA.1, SA.2⟩ : S25)]) x12 x13 x14 ((rd_T49 x12 x14).f0) ((rd_T49 x12 x14).f1) ((rd_T49 x0 (Int.tmod (wrap64 (x14 + 1)) (x0.length : Int))).f0) ((rd_T49 x0 (Int.tmod (wrap64 (x14 + 1)) (x0.length : Int))).f1)) else (none))) else (impl_widthAt.j1 k x0 x1 x5 x12 x13 x14 ((rd_T49 x12 x14).f0) ((rd_T49 x12 x14).f1) ((rd_T49 x0 (Int.tmod (wrap64 (x14 + 1)) (x0.length : Int))).f0) ((rd_T49 x0 (Int.tmod (wrap64 (x14 + 1)) (x0.length : Int))).f1))) else (none)) else (none))) else (none)) else (none)) else ((impl_Fraction_61.f k x5).bind fun uC => ((impl_Fraction_63.f k x5).bind fun tC => ((impl_addFractions.f k tC.1 tC.2 (wrap64 (-uC.1)) uC.2).bind fun sC => (some (sC.1, sC.2)))))
def impl_widthAt.j1 : Nat → List (S49) → Int → List (S25) → List (S49) → Int → Int → Int → Int → Int → Int → Option (Int × Int)
 | 0, _, _, _, _, _, _, _, _, _, _ => none
 | k + 1, x0, x1, x5, x12, x13, x14, yA, qA, EA, uA => if ((decide (qA < x1)) != (decide (uA < x1))) = true then (if qA = x1 then (impl_widthAt.j2 k x0 x1 x5 x12 x13 x14 false yA qA EA uA) else (impl_widthAt.j2 k x0 x1 x5 x12 x13 x14 (uA != x1) yA qA EA uA)) else (impl_widthAt.j2 k x0 x1 x5 x12 x13 x14 false yA qA EA uA)
def impl_widthAt.j2 : Nat → List (S49) → Int → List (S25) → List (S49) → Int → Int → Bool → Int → Int → Int → Int → Option (Int × Int)
 | 0, _, _, _, _, _, _, _, _, _, _, _ => none
 | k + 1, x0, x1, x5, x12, x13, x14, x57, yA, qA, EA, uA => if x57 = true then ((impl_fraction.f k yA 1).bind fun xC => ((impl_fraction.f k (wrap64 ((wrap64 (EA - yA)) * (wrap64 (x1 - qA)))) (wrap64 (uA - qA))).bind fun wC => ((impl_addFractions.f k xC.1 xC.2 wC.1 wC.2).bind fun vC => (if x5.length < 8796093022208 then (impl_widthAt.l0 k x0 x1 (x5 ++ [(⟨vC.1, vC.2⟩ : S25)]) x12 x13 (wrap64 (x14 + 1))) else (none))))) else (impl_widthAt.l0 k x0 x1 x5 x12 x13 (wrap64 (x14 + 1)))
end
def impl_widthAt.f (k : Nat) (l0 : List (S49)) (a1 : Int) : Option (Int × Int) := impl_widthAt.l0 k l0 a1 (([] : List (S25))) l0 (l0.length : Int) 0
def impl_widthAt.T9 : Bool × List (List Nat × List Nat) := (true, [([], []), ([], []), ([1], [1]), ([2], [2]), ([], []), ([4], [4]), ([], []), ([6], [6]), ([5, 7], [5, 7]), ([], []), ([], []), ([10], [10]), ([9, 11], [9, 11]), ([8, 12], [8, 12]), ([], []), ([14], [14]), ([], []), ([16], [16]), ([15, 17], [15, 17]), ([13, 18, 3], [13, 18]), ([3, 19, 19], [3, 19]), ([20], [20]), ([0, 21, 20], [0, 21]), ([22, 22, 0, 1, 2, 3, 4, 5, 6, 7, 8, 9, 10, 11, 12, 13, 14, 15, 16, 17, 18, 19, 20, 21, 22], [0, 22])])
def impl_widthAt.B9 : List Nat := [0, 0, 2, 6, 0, 16, 0, 64, 240, 0, 0, 1024, 3584, 8176, 0, 16384, 0, 65536, 245760, 524286, 1048574, 2097150, 4194303, 8388607]
theorem impl_widthAt.tab9 : rtab .any (opsOf Try.f35 9) = impl_widthAt.T9 := by kernel_rfl
theorem impl_widthAt.bits9 : waitsOk impl_widthAt.T9.2 impl_widthAt.B9 = true := by kernel_rfl
theorem impl_widthAt.calls (k : Nat) (A0 : Option Addr) (c0 : Nat) (l0 : List (S49)) (a1 : Int) (r1 : Int) (r2 : Int) (w : World) (ED : Kd.C k49 w A0 l0.length l0) (nE : l0.length ≤ c0) (h : impl_widthAt.f k l0 a1 = some (r1, r2)) :
  Calls Try.prog 35 #[.slice A0 l0.length c0, .int .i64 a1] w fun e w' => e = .returned (.agg #[.int .i64 r1, .int .i64 r2]) ∧ Below w.heap.size w w' := by
 have CE := Try.underlying25
 have BE := Try.underlying49
 have qE := zQ ED
 have sF := zQ nE
 clear ED nE
 have HB := zQ (Below.refl w.heap.size w)
 have H := h; unfold impl_widthAt.f at H
 clear h
 obtain ⟨OC, kC⟩ : ∃ y_ : List (S25), y_ = (([] : List (S25))) := ⟨_, rfl⟩
 replace H : (impl_widthAt.l0 k l0 a1 OC l0 (l0.length : Int) 0) = some (r1, r2) := zh H
 have yC := zQ kC
 clear kC
 have H' := zQ H
 clear H
 go_enter Try.func35, Try.ntmps35
 go_wp2_with (first | ((with_reducible refine zd 4 ?_); refine zbx (N := 4) (cs := #[.int .i64 0, .int .i64 0]) (t := 25) ?_; intro iA hg w3 FA hb; have bA := zQ (FA); have fD := zgz hg HB.out; have fA := fD; replace HB := zbs HB.out hb; clear hb FA hg) | ((with_reducible refine zd 11 ?_); refine Kd.R_lit k25 _ 25 ?hg (N := 11) ?hd (xs := ([] : List (S25))) (inner := []) (ok := fun _ => True) (okp := fun _ => True) ?hr ?hp (fun _ hk => hk) trivial (Below.refl _ _) (Nat.le_refl _) (by simp) ?_; (case hd => rfl); (case hg => rfl); (case hr => first | (go_simp; done) | (go_simp; rfl)); (case hp => exact (Reps.none _ _)); intro wE w4 QC hb hg_ hnew_; clear hg_ hnew_; (first | rw [← yC.out] at QC | (simp only [Int.reduceToNat] at QC; rw [← yC.out] at QC)); have dD := zQ (Kd.R_lower (Kd.R_newB QC (g := iA) (o := .cells #[.int .i64 0, .int .i64 0] 25 (0, 0)) (zb bA.out)) (below_size (zB2 HB.out fA.out))); replace bA := zbl bA.out hb; replace HB := zbs2 HB.out fA.out hb; clear hb QC))
 go_loopg [5, 14] k (fun kq v5 xE w' => ∃ (CA : List (S25)) (aA : Int), xE = .int .i64 aA ∧ Aside0 (impl_widthAt.l0 kq l0 a1 CA l0 (l0.length : Int) aA = some (r1, r2)) ∧ Aside0 (kq ≤ k) ∧ Aside0 (Kd.R k25 25 w' w.heap.size (fun k_ => k_ ≠ iA) v5 CA) ∧ Aside0 (w'.heap[iA]? = some (.cells #[.int .i64 0, .int .i64 0] 25 (0, 0))) ∧ Aside0 (Below w.heap.size w w'))
 case atStart => exact ⟨(OC), (0), (zF), H', ⟨Nat.le_refl _⟩, ⟨by (with_reducible repeat (first | apply Kd.R_alloc | apply Kd.R_drewN | apply Kd.R_drew)); exact Kd.R_mono dD.out (fun _ hk => hk.2)⟩, ⟨zb bA.out⟩, ⟨zB2 HB.out fA.out⟩⟩
 case round =>
  clear H'; (try clear p2); (try clear c3); obtain ⟨CA, aA, rfl, HA, gC, eA, bA, HB⟩ := hrel
  cases gk with
  | zero => exact absurd HA.out (by simp [impl_widthAt.l0])
  | succ k1 =>
   have H := HA.out; clear HA
   simp only [impl_widthAt.l0] at H
   by_cases c6 : aA < (l0.length : Int)
   ·rw [if_pos c6] at H
    have GC := decide_eq_true c6; clear c6
    by_cases c7 : 0 ≤ aA
    ·rw [if_pos c7] at H
     have VC := decide_eq_true c7; clear c7
     by_cases c8 : aA < (l0.length : Int)
     ·rw [if_pos c8] at H
      have UC := decide_eq_true c8; clear c8
      by_cases c9 : (l0.length : Int) = 0
      ·rw [if_pos c9] at H
       exact absurd H (by simp)
      ·rw [if_neg c9] at H
       have TC : ((l0.length : Int) == 0) = false := beq_eq_false_iff_ne.mpr c9; have SC : ((l0.length : Int) != 0) = true := bne_iff_ne.mpr c9
       have RC : ¬ (l0 = []) := fun h_ => c9 (by rw [h_]; rfl)
       obtain ⟨gA, VA⟩ : ∃ j_ : Int, (Int.tmod (wrap64 (aA + 1)) (l0.length : Int)) = j_ := ⟨_, rfl⟩
       replace H : (if 0 ≤ (gA) then (if (gA) < (l0.length : Int) then (if ((rd_T49 l0 aA).f1) = a1 then ((impl_fraction.f k1 ((rd_T49 l0 aA).f0) 1).bind fun SA => (if CA.length < 8796093022208 then (impl_widthAt.j1 k1 l0 a1 (CA ++ [(⟨SA.1, SA.2⟩ : S25)]) l0 (l0.length : Int) aA ((rd_T49 l0 aA).f0) ((rd_T49 l0 aA).f1) ((rd_T49 l0 (gA)).f0) ((rd_T49 l0 (gA)).f1)) else (none))) else (impl_widthAt.j1 k1 l0 a1 CA l0 (l0.length : Int) aA ((rd_T49 l0 aA).f0) ((rd_T49 l0 aA).f1) ((rd_T49 l0 (gA)).f0) ((rd_T49 l0 (gA)).f1))) else (none)) else (none)) = some (r1, r2) := by first | (rw [VA] at H; exact H) | (simp only [VA] at H ⊢; exact H)
       by_cases LC : 0 ≤ (gA)
       ·rw [if_pos LC] at H
        have rC := decide_eq_true LC; clear LC
        by_cases KC : (gA) < (l0.length : Int)
        ·rw [if_pos KC] at H
         have qC := decide_eq_true KC; clear KC; have IC := zQ H; clear H; have BB : 0 ≤ (aA : Int) := zD; have zB : aA < (l0.length : Int) := zD; obtain ⟨DB, DD, LA, KA⟩ := at_T49 qE.out aA BB zB
         cases DD
         replace LA := zw HB.out LA; replace KA := zw HB.out KA; replace BB := eq_true BB; replace zB := eq_true zB
         go_upto_if 30 with (first | ((with_reducible refine zd 7 ?_); refine zbx (N := 7) (cs := #[.int .i64 0, .int .i64 0]) (t := 49) ?_; intro kA hg dF FA hb; have cA := zQ (FA); have EB := zgz2 hg HB.out fA.out; have mA := EB; have hA := zn1 hg bA.out; have tA := zn2 hg bA.out; replace eA := zRb eA.out hb; replace bA := zbl bA.out hb; replace HB := zbs2 HB.out fA.out hb; clear hb FA hg; have mE := tA.out; have VD := hA.out; obtain ⟨mB, lB, eB, dB⟩ := zy2 cA.out; have AB : 0 ≤ ((gA) : Int) := zD; have yB : (gA) < (l0.length : Int) := zD; obtain ⟨WC, CD, nA, rA⟩ := at_T49 qE.out (gA) AB yB; obtain rfl : DB = WC := (by injection CD); have wA : DB.block ≠ kA := Nat.ne_of_lt (Nat.lt_of_lt_of_le (by have := World.block_lt_of_cell? _ _ nA; first | rwa [add_block] at this | exact this) EB.out); have vA : DB.block ≠ kA := Nat.ne_of_lt (Nat.lt_of_lt_of_le (by have := World.block_lt_of_cell? _ _ nA; first | rwa [add_block] at this | exact this) EB.out); replace nA := zw HB.out nA; replace rA := zw HB.out rA; replace nA := (cell_far (p := ⟨kA, 0, none⟩) (by first | (rw [add_block]; exact wA) | (show (Addr.add _ _).block ≠ _; rw [add_block]; exact wA) | exact wA) (.int .i64 ((rd_T49 l0 aA).f0))).trans nA; replace rA := (cell_far (p := ⟨kA, 0, none⟩) (by first | (rw [add_block]; exact wA) | (show (Addr.add _ _).block ≠ _; rw [add_block]; exact wA) | exact wA) (.int .i64 ((rd_T49 l0 aA).f0))).trans rA; replace nA := (cell_far (p := ⟨kA, 1, none⟩) (by first | (rw [add_block]; exact vA) | (show (Addr.add _ _).block ≠ _; rw [add_block]; exact vA) | exact vA) (.int .i64 ((rd_T49 l0 aA).f1))).trans nA; replace rA := (cell_far (p := ⟨kA, 1, none⟩) (by first | (rw [add_block]; exact vA) | (show (Addr.add _ _).block ≠ _; rw [add_block]; exact vA) | exact vA) (.int .i64 ((rd_T49 l0 aA).f1))).trans rA; clear wA; clear vA; replace AB := eq_true AB; replace yB := eq_true yB) | ((with_reducible refine zd 8 ?_); refine zbx (N := 8) (cs := #[.int .i64 0, .int .i64 0]) (t := 49) ?_; intro oA hg cF FA hb; have dA := zQ (FA); have sE := zQ ((by rw [hg]; exact (below_size (zB3 HB.out fA.out mA.out)) : w.heap.size ≤ oA)); have pA := zQ ((by rw [hg]; exact (below_size (zB3 HB.out fA.out mA.out)) : w.heap.size ≤ oA)); have lA := zQ ((by rw [hg]; exact Nat.ne_of_lt (blk_lt (g := iA) (o := .cells #[.int .i64 0, .int .i64 0] 25 (0, 0)) (by refine zb ?_; refine blk_far ?_ hA.out _; refine zb ?_; refine blk_far ?_ hA.out _; refine zb ?_; exact bA.out)) : iA ≠ oA)); have zA := zQ ((by rw [hg]; exact Nat.ne_of_gt (blk_lt (g := iA) (o := .cells #[.int .i64 0, .int .i64 0] 25 (0, 0)) (by refine zb ?_; refine blk_far ?_ hA.out _; refine zb ?_; refine blk_far ?_ hA.out _; refine zb ?_; exact bA.out)) : oA ≠ iA)); have jA := zQ ((by rw [hg]; exact Nat.ne_of_lt (blk_lt (g := kA) (o := .cells #[.int .i64 ((rd_T49 l0 aA).f0), .int .i64 ((rd_T49 l0 aA).f1)] 49 (0, 0)) (by refine zb ?_; refine blk_put (cs := #[.int .i64 ((rd_T49 l0 aA).f0), .int .i64 0]) ?_ 1 _ rfl; refine zb ?_; refine blk_put (cs := #[.int .i64 0, .int .i64 0]) ?_ 0 _ rfl; refine zb ?_; exact cA.out)) : kA ≠ oA)); have sA := zQ ((by rw [hg]; exact Nat.ne_of_gt (blk_lt (g := kA) (o := .cells #[.int .i64 ((rd_T49 l0 aA).f0), .int .i64 ((rd_T49 l0 aA).f1)] 49 (0, 0)) (by refine zb ?_; refine blk_put (cs := #[.int .i64 ((rd_T49 l0 aA).f0), .int .i64 0]) ?_ 1 _ rfl; refine zb ?_; refine blk_put (cs := #[.int .i64 0, .int .i64 0]) ?_ 0 _ rfl; refine zb ?_; exact cA.out)) : oA ≠ kA)); replace eA := zQ (Kd.R_below (by (with_reducible repeat (first | apply Kd.R_alloc | apply Kd.R_drewN | apply Kd.R_drew)); exact (Kd.R_mono (Kd.R_far (p := ⟨kA, 1, none⟩) (Kd.R_far (p := ⟨kA, 0, none⟩) (Kd.R_types eA.out cA.out (by decide)) (fun _ hk => hk.2) (.int .i64 ((rd_T49 l0 aA).f0))) (fun _ hk => hk.2) (.int .i64 ((rd_T49 l0 aA).f1))) (fun _ h_ => h_.1))) hb); replace bA := zQ (blk_below (g := iA) (o := .cells #[.int .i64 0, .int .i64 0] 25 (0, 0)) (by refine zb ?_; refine blk_far ?_ hA.out _; refine zb ?_; refine blk_far ?_ hA.out _; refine zb ?_; exact bA.out) hb); replace cA := zQ (blk_below (g := kA) (o := .cells #[.int .i64 ((rd_T49 l0 aA).f0), .int .i64 ((rd_T49 l0 aA).f1)] 49 (0, 0)) (by refine zb ?_; refine blk_put (cs := #[.int .i64 ((rd_T49 l0 aA).f0), .int .i64 0]) ?_ 1 _ rfl; refine zb ?_; refine blk_put (cs := #[.int .i64 0, .int .i64 0]) ?_ 0 _ rfl; refine zb ?_; exact cA.out) hb); replace HB := zQ (below_step (zB3 HB.out fA.out mA.out) hb); clear hb FA hg; have lE := zA.out; have UD := lA.out; have kE := sA.out; have TD := jA.out; obtain ⟨kB, jB, cB, bB⟩ := zy2 dA.out; obtain ⟨iB, hB, ZA, YA⟩ := zy2 cA.out))
         (try simp only [Act.put, List.setIfInBounds_toArray, List.set_cons_zero, List.set_cons_succ])
         go_cut [5] (fun v5 wc => ∃ (kq : Nat) (DA : List (S25)), Aside0 (impl_widthAt.j1 kq l0 a1 DA l0 (l0.length : Int) aA ((rd_T49 l0 aA).f0) ((rd_T49 l0 aA).f1) ((rd_T49 l0 (gA)).f0) ((rd_T49 l0 (gA)).f1) = some (r1, r2)) ∧ Aside0 (kq ≤ k1) ∧ Aside0 (Kd.R k25 25 wc w.heap.size (fun k_ => k_ ≠ iA) v5 DA) ∧ Aside0 (wc.heap[iA]? = some (.cells #[.int .i64 0, .int .i64 0] 25 (0, 0))) ∧ Aside0 (wc.heap[kA]? = some (.cells #[.int .i64 ((rd_T49 l0 aA).f0), .int .i64 ((rd_T49 l0 aA).f1)] 49 (0, 0))) ∧ Aside0 (wc.heap[oA]? = some (.cells #[.int .i64 ((rd_T49 l0 (gA)).f0), .int .i64 ((rd_T49 l0 (gA)).f1)] 49 (0, 0))) ∧ Aside0 (Below w.heap.size w wc))
         case first =>
          have H := IC.out; clear IC
          by_cases fC : ((rd_T49 l0 aA).f1) = a1
          ·rw [if_pos fC] at H
           have NA : (((rd_T49 l0 aA).f1) == a1) = true := beq_iff_eq.mpr fC; have CB : (((rd_T49 l0 aA).f1) != a1) = false := bne_eq_false_iff_eq.mpr fC; clear fC
           (first | rw [NA] | (simp only [i64_w, i32_w]; rw [NA]) | skip)
           replace H := zob H; obtain ⟨⟨xB, wB⟩, OE, H⟩ := H
           by_cases JC : CA.length < 8796093022208
           ·rw [if_pos JC] at H
            have aD := zQ JC; clear JC; obtain ⟨NC, jC⟩ : ∃ y_ : List (S25), y_ = (CA ++ [(⟨xB, wB⟩ : S25)]) := ⟨_, rfl⟩; replace H : (impl_widthAt.j1 k1 l0 a1 NC l0 (l0.length : Int) aA ((rd_T49 l0 aA).f0) ((rd_T49 l0 aA).f1) ((rd_T49 l0 (gA)).f0) ((rd_T49 l0 (gA)).f1)) = some (r1, r2) := zh H; have YC := zQ jC; clear jC; have H' := zQ H; clear H; have jE := tA.out; have SD := hA.out; have iE := jA.out; have RD := sA.out; obtain ⟨gB, fB, XA, WA⟩ := zy2 cA.out
            go_wp2_with (first | ((with_reducible refine zgc 59 ?_); refine zgo (some 34) Try.func59 #[.int .i64 ((rd_T49 l0 aA).f0), .int .i64 1] ?_; (with_reducible refine (impl_fraction.calls k1 ((rd_T49 l0 aA).f0) 1 xB wB _ OE.out).mono ?_); rintro e bF ⟨rfl, hb⟩; refine ⟨_, rfl, ?_⟩; replace eA := zQ (Kd.R_below (by (with_reducible repeat (first | apply Kd.R_alloc | apply Kd.R_drewN | apply Kd.R_drew)); exact (Kd.R_mono (Kd.R_far (p := ⟨oA, 1, none⟩) (Kd.R_far (p := ⟨oA, 0, none⟩) (Kd.R_types eA.out dA.out (by decide)) (fun _ hk => hk.2) (.int .i64 ((rd_T49 l0 (gA)).f0))) (fun _ hk => hk.2) (.int .i64 ((rd_T49 l0 (gA)).f1))) (fun _ h_ => h_.1))) hb); replace bA := zQ (blk_below (g := iA) (o := .cells #[.int .i64 0, .int .i64 0] 25 (0, 0)) (by refine zb ?_; refine blk_far ?_ lA.out _; refine zb ?_; refine blk_far ?_ lA.out _; refine zb ?_; exact bA.out) hb); replace cA := zQ (blk_below (g := kA) (o := .cells #[.int .i64 ((rd_T49 l0 aA).f0), .int .i64 ((rd_T49 l0 aA).f1)] 49 (0, 0)) (by refine zb ?_; refine blk_far ?_ jA.out _; refine zb ?_; refine blk_far ?_ jA.out _; refine zb ?_; exact cA.out) hb); replace dA := zQ (blk_below (g := oA) (o := .cells #[.int .i64 ((rd_T49 l0 (gA)).f0), .int .i64 ((rd_T49 l0 (gA)).f1)] 49 (0, 0)) (by refine zb ?_; refine blk_put (cs := #[.int .i64 ((rd_T49 l0 (gA)).f0), .int .i64 0]) ?_ 1 _ rfl; refine zb ?_; refine blk_put (cs := #[.int .i64 0, .int .i64 0]) ?_ 0 _ rfl; refine zb ?_; exact dA.out) hb); replace HB := zQ (below_step (by repeat (first | (with_reducible first | exact HB.out | apply below_alloc | apply pw_below_drewN | apply below_drew1 | refine below_set ?_ fA.out | refine below_set ?_ mA.out | refine below_set ?_ pA.out) | exact HB.out)) hb); (try clear hb)) | ((with_reducible refine gate_builtin (b := .append) (xs := #[.tmp 31, .tmp 35]) rfl ?_); at_builtin; refine Kd.R_append k25 (w0 := w) w.heap.size rfl (.tmp 31) (.tmp 35) 67 25 (.agg #[(.int .i64 0), (.int .i64 0)]) 16 rfl Try.underlying67 info25 rfl (by decide) (by omega) u5 CA (⟨xB, wB⟩ : S25) [.int .i64 xB, .int .i64 wB] (fun k_ => k_ ≠ iA) (fun _ => False) rfl rfl ?aP (fun _ hk => hk.elim) ?aF ?aO ?aB ?aS ?aL ?_; (case aP => exact k25_mkM _ _ _ (⟨xB, wB⟩ : S25)); (case aB => exact (by repeat (first | (with_reducible first | exact HB.out | apply below_alloc | apply pw_below_drewN | apply below_drew1 | refine below_set ?_ fA.out | refine below_set ?_ mA.out | refine below_set ?_ pA.out) | exact HB.out))); (case aF => exact (fun k_ hk => Kd.freshB (g := iA) (o := .cells #[.int .i64 0, .int .i64 0] 25 (0, 0)) (zb bA.out) k_ hk)); (case aO => exact (zR eA.out)); (case aS => exact (below_size (by repeat (first | (with_reducible first | exact HB.out | apply below_alloc | apply pw_below_drewN | apply below_drew1 | refine below_set ?_ fA.out | refine below_set ?_ mA.out | refine below_set ?_ pA.out) | exact HB.out)))); (case aL => have := aD.out; omega); intro vE ZE ho hb hg hat; rw [← YC.out] at ho; have cD := zQ (ho); replace bA := zQ (blk_grown (g := iA) (o := .cells #[.int .i64 0, .int .i64 0] 25 (0, 0)) (zb bA.out) hg (Kd.R_away eA.out (fun _ hk => hk))); replace cA := zQ (blk_grown (g := kA) (o := .cells #[.int .i64 ((rd_T49 l0 aA).f0), .int .i64 ((rd_T49 l0 aA).f1)] 49 (0, 0)) (zb cA.out) hg (Kd.R_ne eA.out cA.out (by decide))); replace dA := zQ (blk_grown (g := oA) (o := .cells #[.int .i64 ((rd_T49 l0 (gA)).f0), .int .i64 ((rd_T49 l0 (gA)).f1)] 49 (0, 0)) (zb dA.out) hg (Kd.R_ne eA.out dA.out (by decide))); replace HB := zQ (hb); clear eA ho hb hg hat))
            go_meet
            case rel => exact ⟨_, (NC), H', ⟨by have := gC.out; first | omega | exact Nat.le_refl _⟩, ⟨zR cD.out⟩, ⟨zb bA.out⟩, ⟨zb cA.out⟩, ⟨zb dA.out⟩, ⟨by repeat (first | (with_reducible first | exact HB.out | apply below_alloc | apply pw_below_drewN | apply below_drew1 | refine below_set ?_ fA.out | refine below_set ?_ mA.out | refine below_set ?_ pA.out) | exact HB.out)⟩⟩
           ·rw [if_neg JC] at H
            exact absurd H (by simp)
          ·rw [if_neg fC] at H
           have NA : (((rd_T49 l0 aA).f1) == a1) = false := beq_eq_false_iff_ne.mpr fC; have CB : (((rd_T49 l0 aA).f1) != a1) = true := bne_iff_ne.mpr fC
           (first | rw [NA] | (simp only [i64_w, i32_w]; rw [NA]) | skip)
           have H' := zQ H; clear H
           go_wp2
           go_meet
           case rel => exact ⟨_, (CA), H', ⟨by have := gC.out; first | omega | exact Nat.le_refl _⟩, ⟨by (with_reducible repeat (first | apply Kd.R_alloc | apply Kd.R_drewN | apply Kd.R_drew)); exact Kd.R_mono (Kd.R_far (p := ⟨oA, 1, none⟩) (Kd.R_far (p := ⟨oA, 0, none⟩) (Kd.R_types eA.out dA.out (by decide)) (fun _ hk => hk.2) (.int .i64 ((rd_T49 l0 (gA)).f0))) (fun _ hk => hk.2) (.int .i64 ((rd_T49 l0 (gA)).f1))) (fun _ hk => hk.1)⟩, ⟨by refine zb ?_; refine blk_far ?_ lA.out _; refine zb ?_; refine blk_far ?_ lA.out _; refine zb ?_; exact bA.out⟩, ⟨by refine zb ?_; refine blk_far ?_ jA.out _; refine zb ?_; refine blk_far ?_ jA.out _; refine zb ?_; exact cA.out⟩, ⟨by refine zb ?_; refine blk_put (cs := #[.int .i64 ((rd_T49 l0 (gA)).f0), .int .i64 0]) ?_ 1 _ rfl; refine zb ?_; refine blk_put (cs := #[.int .i64 0, .int .i64 0]) ?_ 0 _ rfl; refine zb ?_; exact dA.out⟩, ⟨by repeat (first | (with_reducible first | exact HB.out | apply below_alloc | apply pw_below_drewN | apply below_drew1 | refine below_set ?_ fA.out | refine below_set ?_ mA.out | refine below_set ?_ pA.out) | exact HB.out)⟩⟩
         case rest =>
          clear IC; (try clear c1); (try clear c2); (try clear p2); (try clear c3); (try clear p3); (try clear q3); (try clear AE); (try clear c5); (try clear c6); (try clear GC); (try clear p6); (try clear c7); (try clear VC); (try clear c8); (try clear UC); (try clear c9); (try clear TC); (try clear SC); (try clear RC); (try clear LC); (try clear rC); (try clear KC); (try clear qC); (try clear HE); (try clear GE); (try clear FE); (try clear fC); (try clear NA); (try clear CB); (try clear JC); (try clear EE); (try clear DE); (try clear mB lB eB dB); (try clear kB jB cB bB); (try clear iB hB ZA YA); (try clear gB fB XA WA); (try clear LA); (try clear KA); (try clear nA); (try clear rA); (try clear p2); (try clear BB); (try clear AB); (try clear zB); (try clear yB); obtain ⟨kq, DA, HA, UA, eA, bA, cA, dA, HB⟩ := hcut
          cases kq with
          | zero => exact absurd HA.out (by simp [impl_widthAt.j1])
          | succ AD =>
           have H := HA.out; clear HA
           simp only [impl_widthAt.j1] at H
           have HC := zQ H; clear H
           go_upto_region 8 with (fail)
           go_cut [57] (fun tE wc => ∃ (kq : Nat) (QA : Bool), tE = .bool QA ∧ Aside0 (impl_widthAt.j2 kq l0 a1 DA l0 (l0.length : Int) aA QA ((rd_T49 l0 aA).f0) ((rd_T49 l0 aA).f1) ((rd_T49 l0 (gA)).f0) ((rd_T49 l0 (gA)).f1) = some (r1, r2)) ∧ Aside0 (kq ≤ AD) ∧ Aside0 (Kd.R k25 25 wc w.heap.size (fun k_ => k_ ≠ iA) u5 DA) ∧ Aside0 (wc.heap[iA]? = some (.cells #[.int .i64 0, .int .i64 0] 25 (0, 0))) ∧ Aside0 (wc.heap[kA]? = some (.cells #[.int .i64 ((rd_T49 l0 aA).f0), .int .i64 ((rd_T49 l0 aA).f1)] 49 (0, 0))) ∧ Aside0 (wc.heap[oA]? = some (.cells #[.int .i64 ((rd_T49 l0 (gA)).f0), .int .i64 ((rd_T49 l0 (gA)).f1)] 49 (0, 0))) ∧ Aside0 (Below w.heap.size w wc))
           case first =>
            have H := HC.out; clear HC
            by_cases sB : ((decide (((rd_T49 l0 aA).f1) < a1)) != (decide (((rd_T49 l0 (gA)).f1) < a1))) = true
            ·rw [if_pos sB] at H
             have OA : ((decide (((rd_T49 l0 aA).f1) < a1)) != (decide (((rd_T49 l0 (gA)).f1) < a1))) = true := sB
             (try (have pC : decide ((decide (((rd_T49 l0 aA).f1) < a1)) = (decide (((rd_T49 l0 (gA)).f1) < a1))) = false := by simpa using sB))
             (try (have oC : ((decide (((rd_T49 l0 aA).f1) < a1)) == (decide (((rd_T49 l0 (gA)).f1) < a1))) = false := by simpa using sB))
             (try (have pE : ¬ ((decide (((rd_T49 l0 aA).f1) < a1)) = (decide (((rd_T49 l0 (gA)).f1) < a1))) := by simpa using sB))
             clear sB
             (first | rw [OA] | (simp only [i64_w, i32_w]; rw [OA]) | skip)
             by_cases nC : ((rd_T49 l0 aA).f1) = a1
             ·rw [if_pos nC] at H
              have mC : (((rd_T49 l0 aA).f1) == a1) = true := beq_iff_eq.mpr nC; have lC : (((rd_T49 l0 aA).f1) != a1) = false := bne_eq_false_iff_eq.mpr nC; clear nC; have H' := zQ H; clear H; have hE := tA.out; have QD := hA.out; have gE := jA.out; have PD := sA.out; obtain ⟨eC, dC, SB, RB⟩ := zy2 cA.out; have fE := zA.out; have OD := lA.out; obtain ⟨cC, bC, QB, PB⟩ := zy2 dA.out
              go_wp2
              go_meet
              case rel => exact ⟨_, (false), (zF), H', ⟨by have := gC.out; have := UA.out; first | omega | exact Nat.le_refl _⟩, ⟨zR eA.out⟩, ⟨zb bA.out⟩, ⟨zb cA.out⟩, ⟨zb dA.out⟩, ⟨by repeat (first | (with_reducible first | exact HB.out | apply below_alloc | apply pw_below_drewN | apply below_drew1 | refine below_set ?_ fA.out | refine below_set ?_ mA.out | refine below_set ?_ pA.out) | exact HB.out)⟩⟩
             ·rw [if_neg nC] at H
              have mC : (((rd_T49 l0 aA).f1) == a1) = false := beq_eq_false_iff_ne.mpr nC; have lC : (((rd_T49 l0 aA).f1) != a1) = true := bne_iff_ne.mpr nC; have H' := zQ H; clear H; have eE := tA.out; have ND := hA.out; have dE := jA.out; have MD := sA.out; obtain ⟨aC, ZB, OB, NB⟩ := zy2 cA.out; have cE := zA.out; have LD := lA.out; obtain ⟨YB, XB, MB, LB⟩ := zy2 dA.out
              go_wp2
              go_meet
              case rel => exact ⟨_, ((((rd_T49 l0 (gA)).f1) != a1)), (by first | rfl | (simp; done) | (simp only [← VA] <;> (first | rfl | simp)) | (simp [*]; done)), H', ⟨by have := gC.out; have := UA.out; first | omega | exact Nat.le_refl _⟩, ⟨zR eA.out⟩, ⟨zb bA.out⟩, ⟨zb cA.out⟩, ⟨zb dA.out⟩, ⟨by repeat (first | (with_reducible first | exact HB.out | apply below_alloc | apply pw_below_drewN | apply below_drew1 | refine below_set ?_ fA.out | refine below_set ?_ mA.out | refine below_set ?_ pA.out) | exact HB.out)⟩⟩
            ·rw [if_neg sB] at H
             have OA : ((decide (((rd_T49 l0 aA).f1) < a1)) != (decide (((rd_T49 l0 (gA)).f1) < a1))) = false := by simpa using sB
             (try (have pC : decide ((decide (((rd_T49 l0 aA).f1) < a1)) = (decide (((rd_T49 l0 (gA)).f1) < a1))) = true := by simpa using sB))
             (try (have oC : ((decide (((rd_T49 l0 aA).f1) < a1)) == (decide (((rd_T49 l0 (gA)).f1) < a1))) = true := by simpa using sB))
             clear sB
             (first | rw [OA] | (simp only [i64_w, i32_w]; rw [OA]) | skip)
             have H' := zQ H; clear H; have bE := tA.out; have KD := hA.out; have aE := jA.out; have JD := sA.out; obtain ⟨WB, VB, KB, JB⟩ := zy2 cA.out; have ZD := zA.out; have ID := lA.out; obtain ⟨UB, TB, IB, GB⟩ := zy2 dA.out
             go_wp2
             go_meet
             case rel => exact ⟨_, (false), (zF), H', ⟨by have := gC.out; have := UA.out; first | omega | exact Nat.le_refl _⟩, ⟨zR eA.out⟩, ⟨zb bA.out⟩, ⟨zb cA.out⟩, ⟨zb dA.out⟩, ⟨by repeat (first | (with_reducible first | exact HB.out | apply below_alloc | apply pw_below_drewN | apply below_drew1 | refine below_set ?_ fA.out | refine below_set ?_ mA.out | refine below_set ?_ pA.out) | exact HB.out)⟩⟩
           case rest =>
            clear HC; (try clear c1); (try clear c2); (try clear p2); (try clear c3); (try clear p3); (try clear q3); (try clear AE); (try clear c4); (try clear c5); (try clear c6); (try clear GC); (try clear p6); (try clear c7); (try clear VC); (try clear c8); (try clear UC); (try clear c9); (try clear TC); (try clear SC); (try clear RC); (try clear LC); (try clear rC); (try clear KC); (try clear qC); (try clear HE); (try clear GE); (try clear FE); (try clear fC); (try clear NA); (try clear CB); (try clear JC); (try clear EE); (try clear DE); (try clear sB); (try clear OA); (try clear pC); (try clear oC); (try clear nC); (try clear mC); (try clear lC); (try clear fF); (try clear eF); (try clear yE); (try clear rF); (try clear qF); (try clear pF); (try clear nF); (try clear mF); (try clear lF); (try clear kF); (try clear jF); (try clear hF); (try clear gF); (try clear mB lB eB dB); (try clear kB jB cB bB); (try clear iB hB ZA YA); (try clear gB fB); (try clear eC dC); (try clear cC bC); (try clear aC ZB); (try clear YB XB); (try clear WB VB); (try clear UB TB)
            (try clear XA WA); (try clear SB RB); (try clear QB PB); (try clear OB NB); (try clear MB LB); (try clear KB JB); (try clear IB GB); (try clear LA); (try clear KA); (try clear nA); (try clear rA); (try clear p2); (try clear p3); (try clear BB); (try clear AB); (try clear p6); (try clear q3); (try clear zB); (try clear yB); obtain ⟨kq, QA, rfl, HA, hC, eA, bA, cA, dA, HB⟩ := hcut
            cases kq with
            | zero => exact absurd HA.out (by simp [impl_widthAt.j2])
            | succ oB =>
             have H := HA.out; clear HA
             simp only [impl_widthAt.j2] at H
             by_cases yD : QA = true
             ·subst yD
              rw [if_pos rfl] at H; replace H := zob H; obtain ⟨⟨EC, DC⟩, NE, H⟩ := H; replace H := zob H; obtain ⟨⟨CC, BC⟩, ME, H⟩ := H; replace H := zob H; obtain ⟨⟨vB, uB⟩, LE, H⟩ := H
              by_cases xD : DA.length < 8796093022208
              ·rw [if_pos xD] at H
               have ZC := zQ xD; clear xD; obtain ⟨MC, iC⟩ : ∃ y_ : List (S25), y_ = (DA ++ [(⟨vB, uB⟩ : S25)]) := ⟨_, rfl⟩; replace H : (impl_widthAt.l0 oB l0 a1 MC l0 (l0.length : Int) (wrap64 (aA + 1))) = some (r1, r2) := zh H; have XC := zQ iC; clear iC; have H' := zQ H; clear H
               try go_wp2
               have n0_ := zQ (Kd.R_drew eA.out); have n1_ := zQ (blk_drew bA.out); have n2_ := zQ (blk_drew cA.out); have n3_ := zQ (blk_drew dA.out); have n4_ := zQ (below_drew1 HB.out); clear eA; clear bA; clear cA; clear dA; clear HB; have eA := n0_; have bA := n1_; have cA := n2_; have dA := n3_; have HB := n4_; clear n0_ n1_ n2_ n3_ n4_
               refine zs (fun w' => w'.cell? ⟨kA, 0, none⟩ = some (.int .i64 ((rd_T49 l0 aA).f0)) ∧ w'.cell? ⟨kA, 1, none⟩ = some (.int .i64 ((rd_T49 l0 aA).f1)) ∧ w'.cell? ⟨oA, 0, none⟩ = some (.int .i64 ((rd_T49 l0 (gA)).f0)) ∧ w'.cell? ⟨oA, 1, none⟩ = some (.int .i64 ((rd_T49 l0 (gA)).f1))) [] 24 ⟨(blk_cell cA.out 0).trans rfl, (blk_cell cA.out 1).trans rfl, (blk_cell dA.out 0).trans rfl, (blk_cell dA.out 1).trans rfl⟩ (fun xA => ?_); refine with_tabW impl_widthAt.tab9 impl_widthAt.bits9 (fun HT_ HW_ => ?_)
               generalize wc.drew = YE at eA bA cA dA HB xA ⊢
               refine zp 0 58 ?_
               refine zp 1 59 ?_
               refine zp 4 62 ?_
               refine zp 6 64 ?_
               refine zp 9 67 ?_
               refine zp 10 68 ?_
               refine zp 14 72 ?_
               refine zp 16 74 ?_
               refine zt 2 60 xA ?_
               refine zt 5 63 xA ?_
               refine zt 7 65 xA ?_
               refine zp 8 66 ?_
               refine zt 11 69 xA ?_
               refine zp 12 70 ?_
               refine zp 13 71 ?_
               refine zt 15 73 xA ?_
               refine zt 17 75 xA ?_
               refine zp 18 76 ?_
               refine zo 3 (some 61) (fun K hK => ?_)
               refine goes_ Try.func59 (by kernel_rfl) rfl #[.int .i64 ((rd_T49 l0 aA).f0), .int .i64 1] (by rfl) rfl rfl zM ?_
               with_reducible refine (impl_fraction.calls oB ((rd_T49 l0 aA).f0) 1 EC DC _ NE.out).mono ?_
               rintro e XE ⟨rfl, hb⟩
               refine ⟨_, rfl, ?_⟩
               have n0_ := zRb eA.out hb; have n1_ := zbl bA.out hb; have n2_ := zbl cA.out hb; have n3_ := zbl dA.out hb; have n4_ := zQ (below_step (by repeat (first | (with_reducible first | exact HB.out | apply below_alloc | apply pw_below_drewN | apply below_drew1 | refine below_set ?_ fA.out | refine below_set ?_ mA.out | refine below_set ?_ pA.out) | exact HB.out)) hb); clear eA; clear bA; clear cA; clear dA; clear HB; have eA := n0_; have bA := n1_; have cA := n2_; have dA := n3_; have HB := n4_; clear n0_ n1_ n2_ n3_ n4_
               (try clear hb)
               (try clear oE)
               (try clear hk)
               (try clear hi)
               refine hK.out _ _ ⟨(blk_cell cA.out 0).trans rfl, (blk_cell cA.out 1).trans rfl, (blk_cell dA.out 0).trans rfl, (blk_cell dA.out 1).trans rfl⟩ (fun xA => ?_)
               clear hK K
               refine zn 61 ?_
               refine zo 19 (some 77) (fun K hK => ?_)
               refine goes_ Try.func59 (by kernel_rfl) rfl #[.int .i64 (wrap64 ((wrap64 (((rd_T49 l0 (gA)).f0) - ((rd_T49 l0 aA).f0))) * (wrap64 (a1 - ((rd_T49 l0 aA).f1))))), .int .i64 (wrap64 (((rd_T49 l0 (gA)).f1) - ((rd_T49 l0 aA).f1)))] (by rfl) rfl rfl (by (try simp only [List.map_toArray, List.map_cons, List.map_nil]); first | done | (simp only [VA]; rfl) | rfl | (simp only [List.length_drop, List.length_take]; rfl)) ?_
               with_reducible refine (impl_fraction.calls oB (wrap64 ((wrap64 (((rd_T49 l0 (gA)).f0) - ((rd_T49 l0 aA).f0))) * (wrap64 (a1 - ((rd_T49 l0 aA).f1))))) (wrap64 (((rd_T49 l0 (gA)).f1) - ((rd_T49 l0 aA).f1))) CC BC _ ME.out).mono ?_
               rintro e WE ⟨rfl, hb⟩
               refine ⟨_, rfl, ?_⟩
               have n0_ := zRb eA.out hb; have n1_ := zbl bA.out hb; have n2_ := zbl cA.out hb; have n3_ := zbl dA.out hb; have n4_ := zQ (below_step (by repeat (first | (with_reducible first | exact HB.out | apply below_alloc | apply pw_below_drewN | apply below_drew1 | refine below_set ?_ fA.out | refine below_set ?_ mA.out | refine below_set ?_ pA.out) | exact HB.out)) hb); clear eA; clear bA; clear cA; clear dA; clear HB; have eA := n0_; have bA := n1_; have cA := n2_; have dA := n3_; have HB := n4_; clear n0_ n1_ n2_ n3_ n4_
               (try clear hb)
               (try clear oE)
               (try clear hk)
               (try clear hi)
               refine hK.out _ _ ⟨(blk_cell cA.out 0).trans rfl, (blk_cell cA.out 1).trans rfl, (blk_cell dA.out 0).trans rfl, (blk_cell dA.out 1).trans rfl⟩ (fun xA => ?_)
               clear hK K
               refine zn 77 ?_
               refine zo 20 (some 78) (fun K hK => ?_)
               refine goes_ Try.func60 (by kernel_rfl) rfl #[.agg #[.int .i64 EC, .int .i64 DC], .agg #[.int .i64 CC, .int .i64 BC]] (by rfl) rfl rfl zM ?_
               with_reducible refine (impl_addFractions.calls oB EC DC CC BC vB uB _ LE.out).mono ?_
               rintro e VE ⟨rfl, hb⟩
               refine ⟨_, rfl, ?_⟩
               have n0_ := zRb eA.out hb; have n1_ := zbl bA.out hb; have n2_ := zbl cA.out hb; have n3_ := zbl dA.out hb; have n4_ := zQ (below_step (by repeat (first | (with_reducible first | exact HB.out | apply below_alloc | apply pw_below_drewN | apply below_drew1 | refine below_set ?_ fA.out | refine below_set ?_ mA.out | refine below_set ?_ pA.out) | exact HB.out)) hb); clear eA; clear bA; clear cA; clear dA; clear HB; have eA := n0_; have bA := n1_; have cA := n2_; have dA := n3_; have HB := n4_; clear n0_ n1_ n2_ n3_ n4_
               (try clear hb)
               (try clear oE)
               (try clear hk)
               (try clear hi)
               refine hK.out _ _ ⟨(blk_cell cA.out 0).trans rfl, (blk_cell cA.out 1).trans rfl, (blk_cell dA.out 0).trans rfl, (blk_cell dA.out 1).trans rfl⟩ (fun xA => ?_)
               clear hK K
               refine zn 78 ?_
               refine zo 21 (some 79) (fun K hK => ?_)
               refine value_ (w1 := ?_) (v := ?_) (by rfl) rfl ?_ ?_
               rotate_left 2
               ·go_simp
                constructor
                ·rfl
                ·rfl
               refine hK.out _ _ ⟨(blk_cell (blk_alloc cA.out _) 0).trans rfl, (blk_cell (blk_alloc cA.out _) 1).trans rfl, (blk_cell (blk_alloc dA.out _) 0).trans rfl, (blk_cell (blk_alloc dA.out _) 1).trans rfl⟩ (fun xA => ?_)
               clear hK K
               refine zn 79 ?_
               refine zo 22 (some 80) (fun K hK => ?_)
               refine Kd.R_append_step k25 (w0 := w) w.heap.size (by rfl) (.tmp 58) (.tmp 79) 67 25 (.agg #[(.int .i64 0), (.int .i64 0)]) 16 rfl Try.underlying67 info25 rfl (by decide) (by omega) u5 DA (⟨vB, uB⟩ : S25) [.int .i64 vB, .int .i64 uB] (fun k_ => k_ ≠ iA) (fun _ => False) rfl rfl ?aP (fun _ hk => hk.elim) ?aF ?aO ?aB ?aS ?aL ?_
               (case aP => exact k25_mkM _ _ _ (⟨vB, uB⟩ : S25))
               (case aB => exact (by repeat (first | (with_reducible first | exact HB.out | apply below_alloc | apply pw_below_drewN | apply below_drew1 | refine below_set ?_ fA.out | refine below_set ?_ mA.out | refine below_set ?_ pA.out) | exact HB.out)))
               (case aF => exact (fun k_ hk => Kd.freshB (g := iA) (o := .cells #[.int .i64 0, .int .i64 0] 25 (0, 0)) (zb bA.out) k_ hk))
               (case aO => exact (zR eA.out))
               (case aS => exact (below_size (by repeat (first | (with_reducible first | exact HB.out | apply below_alloc | apply pw_below_drewN | apply below_drew1 | refine below_set ?_ fA.out | refine below_set ?_ mA.out | refine below_set ?_ pA.out) | exact HB.out))))
               (case aL => have := ZC.out; omega)
               intro uE UE ho hb hg hat
               rw [← XC.out] at ho; have n0_ := zQ (blk_grown (g := iA) (o := .cells #[.int .i64 0, .int .i64 0] 25 (0, 0)) (zb bA.out) hg (Kd.R_away eA.out (fun _ hk => hk))); have n1_ := zQ (blk_grown (g := kA) (o := .cells #[.int .i64 ((rd_T49 l0 aA).f0), .int .i64 ((rd_T49 l0 aA).f1)] 49 (0, 0)) (zb cA.out) hg (Kd.R_ne eA.out cA.out (by decide))); have n2_ := zQ (blk_grown (g := oA) (o := .cells #[.int .i64 ((rd_T49 l0 (gA)).f0), .int .i64 ((rd_T49 l0 (gA)).f1)] 49 (0, 0)) (zb dA.out) hg (Kd.R_ne eA.out dA.out (by decide))); have n3_ := zQ (hb); have n4_ := zQ (ho); clear bA; clear cA; clear dA; clear HB; clear eA; have bA := n0_; have cA := n1_; have dA := n2_; have HB := n3_; have bD := n4_; clear n0_ n1_ n2_ n3_ n4_; clear ho hb hg hat
               refine hK.out _ _ ⟨(blk_cell cA.out 0).trans rfl, (blk_cell cA.out 1).trans rfl, (blk_cell dA.out 0).trans rfl, (blk_cell dA.out 1).trans rfl⟩ (fun xA => ?_)
               clear hK K
               refine zn 80 ?_
               refine zp 23 5 ?_
               refine done_ (done_of HT_.out (by kernel_rfl)) ?_
               try go_wp2
               go_roundg oB
               case measure => have := gC.out; have := UA.out; have := hC.out; omega
               case rel => exact ⟨(MC), (wrap64 (aA + 1)), (zF), H', ⟨by have := gC.out; have := UA.out; have := hC.out; omega⟩, ⟨zR bD.out⟩, ⟨zb bA.out⟩, ⟨by repeat (first | (with_reducible first | exact HB.out | apply below_alloc | apply pw_below_drewN | apply below_drew1 | refine below_set ?_ fA.out | refine below_set ?_ mA.out | refine below_set ?_ pA.out) | exact HB.out)⟩⟩
              ·rw [if_neg xD] at H
               exact absurd H (by simp)
             ·replace yD := Bool.eq_false_iff.mpr yD
              subst yD
              rw [if_neg Bool.false_ne_true] at H; have H' := zQ H; clear H
              go_wp2
              go_roundg oB
              case measure => have := gC.out; have := UA.out; have := hC.out; omega
              case rel => exact ⟨(DA), (wrap64 (aA + 1)), (zF), H', ⟨by have := gC.out; have := UA.out; have := hC.out; omega⟩, ⟨zR eA.out⟩, ⟨zb bA.out⟩, ⟨by repeat (first | (with_reducible first | exact HB.out | apply below_alloc | apply pw_below_drewN | apply below_drew1 | refine below_set ?_ fA.out | refine below_set ?_ mA.out | refine below_set ?_ pA.out) | exact HB.out)⟩⟩
        ·rw [if_neg KC] at H
         exact absurd H (by simp)
       ·rw [if_neg LC] at H
        exact absurd H (by simp)
     ·rw [if_neg c8] at H
      exact absurd H (by simp)
    ·rw [if_neg c7] at H
     exact absurd H (by simp)
   ·rw [if_neg c6] at H
    have GC := decide_eq_false c6; clear c6; replace H := zob H; obtain ⟨⟨RA, TA⟩, KE, H⟩ := H; replace H := zob H; obtain ⟨⟨nB, tB⟩, JE, H⟩ := H; replace H := zob H; obtain ⟨⟨AC, PC⟩, IE, H⟩ := H
    simp only [Option.some.injEq, Prod.mk.injEq] at H
    obtain ⟨rfl, rfl⟩ := H; obtain ⟨gD, FC, BD⟩ := Kd.R_slice eA.out; subst BD
    go_wp2_with (first | ((with_reducible refine zgc 61 ?_); refine zgo (some 83) Try.func61 #[.slice gD CA.length FC, .func (.func 62) #[] #[]] ?_; (with_reducible refine (impl_Fraction_61.calls k1 _ _ CA  RA TA _ ?side1 ((Kd.R_reads' eA.out).2.1) KE.out).mono ?_); (case side1 => exact zk (Kd.R_reads' eA.out).2.2); rintro e TE ⟨rfl, hb⟩; refine ⟨_, rfl, ?_⟩; replace eA := zRb eA.out hb; replace bA := zbl bA.out hb; replace HB := zbs2 HB.out fA.out hb; (try clear hb)) | ((with_reducible refine zd 9 ?_); refine zbx (N := 9) (cs := #[.int .i64 0, .int .i64 0]) (t := 25) ?_; intro AA hg SE FA hb; have BA := zQ (FA); have eD := zgz2 hg HB.out fA.out; have PA := eD; have JA := zn1 hg bA.out; have rB := zn2 hg bA.out; replace eA := zQ (Kd.R_below (Kd.R_elderB (zR eA.out) AA (Nat.le_of_eq hg.symm)) hb); replace bA := zbl bA.out hb; replace HB := zbs2 HB.out fA.out hb; clear hb FA hg; have YD := rB.out; have HD := JA.out; obtain ⟨wD, vD, oD, nD⟩ := zy2 BA.out) | ((with_reducible refine zgc 63 ?_); refine zgo (some 85) Try.func63 #[.slice gD CA.length FC, .func (.func 62) #[] #[]] ?_; (with_reducible refine (impl_Fraction_63.calls k1 _ _ CA  nB tB _ ?side1 ((Kd.R_reads' eA.out).2.1) JE.out).mono ?_); (case side1 => refine (Kd.R_reads' (e := 25) (base := w.heap.size) (ok := fun k_ => (k_ ≠ iA ∧ k_ ≠ AA)) (n := CA.length) (c := FC) ?_).2.2; exact (by (with_reducible repeat (first | apply Kd.R_alloc | apply Kd.R_drewN | apply Kd.R_drew)); exact (Kd.R_mono (Kd.R_far (p := ⟨AA, 1, none⟩) (Kd.R_far (p := ⟨AA, 0, none⟩) (Kd.R_mono eA.out (fun k_ hk => (⟨hk, hk.2⟩ : _ ∧ k_ ≠ AA))) (fun _ hk => hk.2) (.int .i64 RA)) (fun _ hk => hk.2) (.int .i64 TA)) (fun _ h_ => h_.1)))); rintro e RE ⟨rfl, hb⟩; refine ⟨_, rfl, ?_⟩; replace eA := zQ (Kd.R_below (by (with_reducible repeat (first | apply Kd.R_alloc | apply Kd.R_drewN | apply Kd.R_drew)); exact (Kd.R_mono (Kd.R_far (p := ⟨AA, 1, none⟩) (Kd.R_far (p := ⟨AA, 0, none⟩) (Kd.R_mono eA.out (fun k_ hk => (⟨hk, hk.2⟩ : _ ∧ k_ ≠ AA))) (fun _ hk => hk.2) (.int .i64 RA)) (fun _ hk => hk.2) (.int .i64 TA)) (fun _ h_ => h_.1))) hb); replace bA := zQ (blk_below (g := iA) (o := .cells #[.int .i64 0, .int .i64 0] 25 (0, 0)) (by refine zb ?_; refine blk_far ?_ JA.out _; refine zb ?_; refine blk_far ?_ JA.out _; refine zb ?_; exact bA.out) hb); replace BA := zQ (blk_below (g := AA) (o := .cells #[.int .i64 RA, .int .i64 TA] 25 (0, 0)) (by refine zb ?_; refine blk_put (cs := #[.int .i64 RA, .int .i64 0]) ?_ 1 _ rfl; refine zb ?_; refine blk_put (cs := #[.int .i64 0, .int .i64 0]) ?_ 0 _ rfl; refine zb ?_; exact BA.out) hb); replace HB := zQ (below_step (zB3 HB.out fA.out PA.out) hb); (try clear hb)) | ((with_reducible refine zd 10 ?_); refine zbx (N := 10) (cs := #[.int .i64 0, .int .i64 0]) (t := 25) ?_; intro MA hg QE FA hb; have FB := zQ (FA); have rE := zQ ((by rw [hg]; exact (below_size (zB3 HB.out fA.out PA.out)) : w.heap.size ≤ MA)); have zC := zQ ((by rw [hg]; exact (below_size (zB3 HB.out fA.out PA.out)) : w.heap.size ≤ MA)); have IA := zn1 hg bA.out; have qB := zn2 hg bA.out; have GA := zn1 hg BA.out; have pB := zn2 hg BA.out; replace eA := zQ (Kd.R_below (Kd.R_elderB (zR eA.out) MA (Nat.le_of_eq hg.symm)) hb); replace bA := zbl bA.out hb; replace BA := zbl BA.out hb; replace HB := zQ (below_step (zB3 HB.out fA.out PA.out) hb); clear hb FA hg; have XD := qB.out; have GD := IA.out; have WD := pB.out; have FD := GA.out; obtain ⟨uD, tD, mD, lD⟩ := zy2 FB.out; obtain ⟨sD, rD, kD, jD⟩ := zy2 BA.out) | ((with_reducible refine zgc 60 ?_); refine zgo (some 93) Try.func60 #[.agg #[.int .i64 nB, .int .i64 tB], .agg #[.int .i64 (wrap64 (-RA)), .int .i64 TA]] ?_; (with_reducible refine (impl_addFractions.calls k1 nB tB (wrap64 (-RA)) TA AC PC _ IE.out).mono ?_); rintro e PE ⟨rfl, hb⟩; refine ⟨_, rfl, ?_⟩; replace eA := zQ (Kd.R_below (by (with_reducible repeat (first | apply Kd.R_alloc | apply Kd.R_drewN | apply Kd.R_drew)); exact (Kd.R_mono (Kd.R_far (p := ⟨MA, 1, none⟩) (Kd.R_far (p := ⟨MA, 0, none⟩) (Kd.R_mono eA.out (fun k_ hk => (⟨hk, hk.2⟩ : _ ∧ k_ ≠ MA))) (fun _ hk => hk.2) (.int .i64 nB)) (fun _ hk => hk.2) (.int .i64 tB)) (fun _ h_ => h_.1))) hb); replace bA := zQ (blk_below (g := iA) (o := .cells #[.int .i64 0, .int .i64 0] 25 (0, 0)) (by refine zb ?_; refine blk_far ?_ IA.out _; refine zb ?_; refine blk_far ?_ IA.out _; refine zb ?_; exact bA.out) hb); replace BA := zQ (blk_below (g := AA) (o := .cells #[.int .i64 RA, .int .i64 TA] 25 (0, 0)) (by refine zb ?_; refine blk_far ?_ GA.out _; refine zb ?_; refine blk_far ?_ GA.out _; refine zb ?_; exact BA.out) hb); replace FB := zQ (blk_below (g := MA) (o := .cells #[.int .i64 nB, .int .i64 tB] 25 (0, 0)) (by refine zb ?_; refine blk_put (cs := #[.int .i64 nB, .int .i64 0]) ?_ 1 _ rfl; refine zb ?_; refine blk_put (cs := #[.int .i64 0, .int .i64 0]) ?_ 0 _ rfl; refine zb ?_; exact FB.out) hb); replace HB := zQ (below_step (by repeat (first | (with_reducible first | exact HB.out | apply below_alloc | apply pw_below_drewN | apply below_drew1 | refine below_set ?_ fA.out | refine below_set ?_ PA.out | refine below_set ?_ zC.out) | exact HB.out)) hb); (try clear hb); obtain ⟨qD, pD, iD, hD⟩ := zy2 bA.out))
    refine bodyPost_ret (results_cell_row rfl _ _ iA 25 #[.int .i64 AC, .int .i64 PC] (0, 0) _ rfl (by refine zb ?_; refine blk_put (cs := #[.int .i64 AC, .int .i64 0]) ?_ 1 _ rfl; refine zb ?_; refine blk_put (cs := #[.int .i64 0, .int .i64 0]) ?_ 0 _ rfl; refine zb ?_; exact bA.out) Try.underlying25 rfl (by kernel_rfl)) rfl ?_
    exact ⟨zE, by repeat (first | (with_reducible first | exact HB.out | apply below_alloc | apply pw_below_drewN | apply below_drew1 | refine below_set ?_ fA.out | refine below_set ?_ PA.out | refine below_set ?_ zC.out) | exact HB.out)⟩

end
end Go.Proofs.Ytchngbjpjbahiaa.PSailw

