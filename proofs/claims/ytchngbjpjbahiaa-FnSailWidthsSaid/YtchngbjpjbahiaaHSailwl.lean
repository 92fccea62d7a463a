import Derived.Test.YtchngbjpjbahiaaHSailw0
import Derived.Test.YtchngbjpjbahiaaHSailwh
namespace Go.Proofs.Ytchngbjpjbahiaa.PSailw
noncomputable section
open Go.RowKit Go.Proofs.YtchngbjpjbahiaaW.PrintWords Go.Proofs.YtchngbjpjbahiaaW.PrintLast Go.Proofs.YtchngbjpjbahiaaW.PrintMore
attribute [local go_sem] max2_int min2_int max_two min_two max_three min_three max_four min_four   -- for this text's walks alone
set_option linter.unusedVariables false
set_option linter.unusedSimpArgs false
set_option maxHeartbeats 8000000
set_option maxRecDepth 100000

def impl_heightsOf.l0 : Nat → Int → Int → List (S49) → Int → Int → Option (Int × Int)
 | 0, _, _, _, _, _ => none
 | k + 1, x4, x5, x16, x17, x18 => if x18 < x17 then (if 0 ≤ x18 then (if x18 < (x16.length : Int) then (impl_heightsOf.l0 k (mn x4 ((rd_T49 x16 x18).f1)) (mx x5 ((rd_T49 x16 x18).f1)) x16 x17 (wrap64 (x18 + 1))) else (none)) else (none)) else (some (x4, x5))
def impl_heightsOf.f (k : Nat) (l0 : List (S49)) : Option (Int × Int) := if 0 < (l0.length : Int) then (impl_heightsOf.l0 k ((rd_T49 l0 0).f1) ((rd_T49 l0 0).f1) l0 (l0.length : Int) 0) else (none)
theorem impl_heightsOf.calls (k : Nat) (A0 : Option Addr) (c0 : Nat) (l0 : List (S49)) (r1 : Int) (r2 : Int) (w : World) (nB : Kd.C k49 w A0 l0.length l0) (oB : l0.length ≤ c0) (h : impl_heightsOf.f k l0 = some (r1, r2)) :
  Calls Try.prog 32 #[.slice A0 l0.length c0] w fun e w' => e = .returned (.tuple #[.int .i64 r1, .int .i64 r2]) ∧ Below w.heap.size w w' := by
 have yB := Try.underlying49
 have XA := zQ nB
 have QB := zQ oB
 clear nB oB
 have HB := zQ (Below.refl w.heap.size w)
 have H := h; unfold impl_heightsOf.f at H
 clear h
 by_cases c2 : 0 < (l0.length : Int)
 ·rw [if_pos c2] at H
  have lB := decide_eq_true c2; have DB : decide (0 < l0.length) = true := decide_eq_true (by omega); clear c2; have H' := zQ H; clear H; have bB : 0 ≤ (0 : Int) := (by omega); have ZA : 0 < (l0.length : Int) := zD; obtain ⟨eB, CB, vA, uA⟩ := at_T49 XA.out 0 bB ZA
  cases CB
  have qi260 : (0 < l0.length) = True := eq_true (by omega)
  (try rw [show ((0 : Int)).toNat = 0 from rfl] at vA)
  (try rw [show 0 * 2 = 0 from rfl] at vA)
  (try rw [Addr.add_zero'] at vA)
  (try rw [show ((0 : Int)).toNat = 0 from rfl] at uA)
  (try rw [show 0 * 2 = 0 from rfl] at uA)
  (try rw [Addr.add_zero'] at uA)
  replace bB := eq_true bB; replace ZA := eq_true ZA; have aB : 0 ≤ (0 : Int) := (by omega); have YA : 0 < (l0.length : Int) := zD; obtain ⟨tB, BB, tA, sA⟩ := at_T49 XA.out 0 aB YA; obtain rfl : eB = tB := (by injection BB); have qi261 : (0 < l0.length) = True := eq_true (by omega)
  (try rw [show ((0 : Int)).toNat = 0 from rfl] at tA)
  (try rw [show 0 * 2 = 0 from rfl] at tA)
  (try rw [Addr.add_zero'] at tA)
  (try rw [show ((0 : Int)).toNat = 0 from rfl] at sA)
  (try rw [show 0 * 2 = 0 from rfl] at sA)
  (try rw [Addr.add_zero'] at sA)
  replace aB := eq_true aB; replace YA := eq_true YA
  go_enter Try.func32, Try.ntmps32
  go_wp2
  repeat (go_quiet (fail); try go_wp2)
  go_loopg [4, 5, 18] k (fun kq v4 v5 LB w' => ∃ (OA : Int) (EA : Int) (cA : Int), v4 = .int .i64 OA ∧ v5 = .int .i64 EA ∧ LB = .int .i64 cA ∧ Aside0 (impl_heightsOf.l0 kq OA EA l0 (l0.length : Int) cA = some (r1, r2)) ∧ Aside0 (kq ≤ k) ∧ Aside0 (Below w.heap.size w w'))
  case atStart => exact ⟨((rd_T49 l0 0).f1), ((rd_T49 l0 0).f1), (0), (zF), (zF), (zF), H', ⟨Nat.le_refl _⟩, ⟨zB HB.out⟩⟩
  case round =>
   clear H'; (try clear c2); (try clear lB); (try clear DB); (try clear p2); (try clear q2); (try clear VB); (try clear qi2); (try clear vA); (try clear uA); (try clear tA); (try clear sA); (try clear bB); (try clear aB); (try clear ZA); (try clear YA); obtain ⟨OA, EA, cA, rfl, rfl, rfl, HA, uB, HB⟩ := hrel
   cases gk with
   | zero => exact absurd HA.out (by simp [impl_heightsOf.l0])
   | succ k1 =>
    have H := HA.out; clear HA
    simp only [impl_heightsOf.l0] at H
    by_cases c3 : cA < (l0.length : Int)
    ·rw [if_pos c3] at H
     have qB := decide_eq_true c3; clear c3
     by_cases c4 : 0 ≤ cA
     ·rw [if_pos c4] at H
      have AA := decide_eq_true c4; clear c4
      by_cases c5 : cA < (l0.length : Int)
      ·rw [if_pos c5] at H
       have kB := decide_eq_true c5; clear c5; obtain ⟨pA, xA⟩ : ∃ j_ : Int, (mn OA ((rd_T49 l0 cA).f1)) = j_ := ⟨_, rfl⟩
       replace H : (impl_heightsOf.l0 k1 pA (mx EA ((rd_T49 l0 cA).f1)) l0 (l0.length : Int) (wrap64 (cA + 1))) = some (r1, r2) := by first | (rw [xA] at H; exact H) | (simp only [xA] at H ⊢; exact H)
       have hji6_ : (if ((rd_T49 l0 cA).f1) < OA then ((rd_T49 l0 cA).f1) else OA) = pA := xA; obtain ⟨xB, cB⟩ : ∃ j_ : Int, (mx EA ((rd_T49 l0 cA).f1)) = j_ := ⟨_, rfl⟩
       replace H : (impl_heightsOf.l0 k1 pA xB l0 (l0.length : Int) (wrap64 (cA + 1))) = some (r1, r2) := by first | (rw [cB] at H; exact H) | (simp only [cB] at H ⊢; exact H)
       have hji7_ : (if EA < ((rd_T49 l0 cA).f1) then ((rd_T49 l0 cA).f1) else EA) = xB := cB; have H' := zQ H; clear H; have gB : 0 ≤ (cA : Int) := zD; have fB : cA < (l0.length : Int) := zD; obtain ⟨sB, AB, NA, MA⟩ := at_T49 XA.out cA gB fB; obtain rfl : eB = sB := (by injection AB); replace NA := zw HB.out NA; replace MA := zw HB.out MA; replace gB := eq_true gB; replace fB := eq_true fB
       go_wp2_with (first | ((with_reducible refine zd 7 ?_); refine zbx (N := 7) (cs := #[.int .i64 0, .int .i64 0]) (t := 49) ?_; intro dB hg w8 BA hb; have DA := zQ (BA); have CA := zgz hg HB.out; have WA := CA; replace HB := zbs HB.out hb; clear hb BA hg; obtain ⟨TA, SA, RA, QA⟩ := zy2 DA.out))
       repeat (go_quiet (first | ((with_reducible refine zd 7 ?_); refine zbx (N := 7) (cs := #[.int .i64 0, .int .i64 0]) (t := 49) ?_; intro dB hg w8 BA hb; have DA := zQ (BA); have CA := zgz hg HB.out; have WA := CA; replace HB := zbs HB.out hb; clear hb BA hg; obtain ⟨TA, SA, RA, QA⟩ := zy2 DA.out)); try go_wp2_with (first | ((with_reducible refine zd 7 ?_); refine zbx (N := 7) (cs := #[.int .i64 0, .int .i64 0]) (t := 49) ?_; intro dB hg w8 BA hb; have DA := zQ (BA); have CA := zgz hg HB.out; have WA := CA; replace HB := zbs HB.out hb; clear hb BA hg; obtain ⟨TA, SA, RA, QA⟩ := zy2 DA.out)))
       go_roundg k1
       case measure => have := uB.out; omega
       case rel => exact ⟨(pA), (xB), (wrap64 (cA + 1)), (by first | rfl | (simp; done) | (simp only [← xA] <;> (first | rfl | simp)) | (simp [*]; done)), (by first | rfl | (simp; done) | (simp only [← cB] <;> (first | rfl | simp)) | (simp [*]; done)), (zF), H', ⟨by have := uB.out; omega⟩, ⟨zB2 HB.out WA.out⟩⟩
      ·rw [if_neg c5] at H
       exact absurd H (by simp)
     ·rw [if_neg c4] at H
      exact absurd H (by simp)
    ·rw [if_neg c3] at H
     have qB := decide_eq_false c3; clear c3
     simp only [Option.some.injEq, Prod.mk.injEq] at H
     obtain ⟨rfl, rfl⟩ := H
     go_wp2
     repeat (go_quiet (fail); try go_wp2)
     go_ret2
     exact ⟨zE, zB HB.out⟩
 ·rw [if_neg c2] at H
  exact absurd H (by simp)

def impl_isBulged.l0 : Nat → List (S49) → Int → Int → Int → Option (Bool)
 | 0, _, _, _, _ => none
 | k + 1, x0, x3, x8, x9 => if x9 < x8 then (if 0 ≤ x9 then (if x9 < (x0.length : Int) then (if x3 = 0 then (none) else (if 0 ≤ (Int.tmod (wrap64 (x9 + 1)) x3) then (if (Int.tmod (wrap64 (x9 + 1)) x3) < (x0.length : Int) then (if 0 ≤ (Int.tmod (wrap64 (x9 + 2)) x3) then (if (Int.tmod (wrap64 (x9 + 2)) x3) < (x0.length : Int) then ((impl_turnAt.f ((rd_T49 x0 x9).f0) ((rd_T49 x0 x9).f1) ((rd_T49 x0 (Int.tmod (wrap64 (x9 + 1)) x3)).f0) ((rd_T49 x0 (Int.tmod (wrap64 (x9 + 1)) x3)).f1) ((rd_T49 x0 (Int.tmod (wrap64 (x9 + 2)) x3)).f0) ((rd_T49 x0 (Int.tmod (wrap64 (x9 + 2)) x3)).f1)).bind fun zA => (if zA < 0 then (some false) else (impl_isBulged.l0 k x0 x3 x8 (wrap64 (x9 + 1))))) else (none)) else (none)) else (none)) else (none))) else (none)) else (none)) else (some true)
def impl_isBulged.f (k : Nat) (l0 : List (S49)) : Option (Bool) := impl_isBulged.l0 k l0 (l0.length : Int) (l0.length : Int) 0
def impl_isBulged.T5 : Bool × List (List Nat × List Nat) := (true, [([], []), ([], []), ([0, 1], [0, 1]), ([2], [2]), ([], []), ([], []), ([5], [5]), ([], []), ([6, 7], [6, 7]), ([4, 8], [4, 8]), ([9], [9]), ([], []), ([], []), ([12], [12]), ([], []), ([13, 14], [13, 14]), ([11, 15], [11, 15]), ([16], [16]), ([3, 10, 17], [3, 10, 17]), ([18], [18])])
def impl_isBulged.B5 : List Nat := [0, 0, 3, 7, 0, 0, 32, 0, 224, 496, 1008, 0, 0, 4096, 0, 28672, 63488, 129024, 262143, 524287]
theorem impl_isBulged.tab5 : rtab .any (opsOf Try.f34 5) = impl_isBulged.T5 := by kernel_rfl
theorem impl_isBulged.bits5 : waitsOk impl_isBulged.T5.2 impl_isBulged.B5 = true := by kernel_rfl
theorem impl_isBulged.calls (k : Nat) (A0 : Option Addr) (c0 : Nat) (l0 : List (S49)) (r : Bool) (w : World) (nB : Kd.C k49 w A0 l0.length l0) (oB : l0.length ≤ c0) (h : impl_isBulged.f k l0 = some r) :
  Calls Try.prog 34 #[.slice A0 l0.length c0] w fun e w' => e = .returned (.bool r) ∧ Below w.heap.size w w' := by
 have yB := Try.underlying49
 have XA := zQ nB
 have QB := zQ oB
 clear nB oB
 have HB := zQ (Below.refl w.heap.size w)
 have H := h; unfold impl_isBulged.f at H
 clear h
 have H' := zQ H
 clear H
 go_enter Try.func34, Try.ntmps34
 go_wp2
 go_loopg [9] k (fun kq v9 w' => ∃ (aA : Int), v9 = .int .i64 aA ∧ Aside0 (impl_isBulged.l0 kq l0 (l0.length : Int) (l0.length : Int) aA = some r) ∧ Aside0 (kq ≤ k) ∧ Aside0 (Below w.heap.size w w'))
 case atStart => exact ⟨(0), (zF), H', ⟨Nat.le_refl _⟩, ⟨zB HB.out⟩⟩
 case round =>
  clear H'; obtain ⟨aA, rfl, HA, uB, HB⟩ := hrel
  cases gk with
  | zero => exact absurd HA.out (by simp [impl_isBulged.l0])
  | succ k1 =>
   have H := HA.out; clear HA
   simp only [impl_isBulged.l0] at H
   by_cases c2 : aA < (l0.length : Int)
   ·rw [if_pos c2] at H
    have lB := decide_eq_true c2; clear c2
    by_cases c3 : 0 ≤ aA
    ·rw [if_pos c3] at H
     have qB := decide_eq_true c3; clear c3
     by_cases c4 : aA < (l0.length : Int)
     ·rw [if_pos c4] at H
      have AA := decide_eq_true c4; clear c4
      by_cases c5 : (l0.length : Int) = 0
      ·rw [if_pos c5] at H
       exact absurd H (by simp)
      ·rw [if_neg c5] at H
       have kB : ((l0.length : Int) == 0) = false := beq_eq_false_iff_ne.mpr c5; have pB : ((l0.length : Int) != 0) = true := bne_iff_ne.mpr c5
       have PB : ¬ (l0 = []) := fun h_ => c5 (by rw [h_]; rfl)
       obtain ⟨pA, xA⟩ : ∃ j_ : Int, (Int.tmod (wrap64 (aA + 1)) (l0.length : Int)) = j_ := ⟨_, rfl⟩
       replace H : (if 0 ≤ (pA) then (if (pA) < (l0.length : Int) then (if 0 ≤ (Int.tmod (wrap64 (aA + 2)) (l0.length : Int)) then (if (Int.tmod (wrap64 (aA + 2)) (l0.length : Int)) < (l0.length : Int) then ((impl_turnAt.f ((rd_T49 l0 aA).f0) ((rd_T49 l0 aA).f1) ((rd_T49 l0 (pA)).f0) ((rd_T49 l0 (pA)).f1) ((rd_T49 l0 (Int.tmod (wrap64 (aA + 2)) (l0.length : Int))).f0) ((rd_T49 l0 (Int.tmod (wrap64 (aA + 2)) (l0.length : Int))).f1)).bind fun zA => (if zA < 0 then (some false) else (impl_isBulged.l0 k1 l0 (l0.length : Int) (l0.length : Int) (wrap64 (aA + 1))))) else (none)) else (none)) else (none)) else (none)) = some r := by first | (rw [xA] at H; exact H) | (simp only [xA] at H ⊢; exact H)
       by_cases c7 : 0 ≤ (pA)
       ·rw [if_pos c7] at H
        have OB := decide_eq_true c7; clear c7
        by_cases c8 : (pA) < (l0.length : Int)
        ·rw [if_pos c8] at H
         have NB := decide_eq_true c8; clear c8; obtain ⟨rA, PA⟩ : ∃ j_ : Int, (Int.tmod (wrap64 (aA + 2)) (l0.length : Int)) = j_ := ⟨_, rfl⟩
         replace H : (if 0 ≤ (rA) then (if (rA) < (l0.length : Int) then ((impl_turnAt.f ((rd_T49 l0 aA).f0) ((rd_T49 l0 aA).f1) ((rd_T49 l0 (pA)).f0) ((rd_T49 l0 (pA)).f1) ((rd_T49 l0 (rA)).f0) ((rd_T49 l0 (rA)).f1)).bind fun zA => (if zA < 0 then (some false) else (impl_isBulged.l0 k1 l0 (l0.length : Int) (l0.length : Int) (wrap64 (aA + 1))))) else (none)) else (none)) = some r := by first | (rw [PA] at H; exact H) | (simp only [PA] at H ⊢; exact H)
         by_cases wB : 0 ≤ (rA)
         ·rw [if_pos wB] at H
          have IB := decide_eq_true wB; clear wB
          by_cases vB : (rA) < (l0.length : Int)
          ·rw [if_pos vB] at H
           have GB := decide_eq_true vB; clear vB; replace H := zob H; obtain ⟨zA, KB, H⟩ := H
           by_cases mB : zA < 0
           ·rw [if_pos mB] at H
            have rB := decide_eq_true mB; clear mB; obtain rfl := Option.some.inj H
            try go_wp2
            have n0_ := zQ (below_drew1 HB.out); clear HB; have HB := n0_; clear n0_; have LA : 0 ≤ (aA : Int) := zD; have IA : aA < (l0.length : Int) := zD; obtain ⟨bA, jB, iA, hA⟩ := at_T49 XA.out aA LA IA; have nA := hA; have oA := iA
            cases jB
            replace iA := zw HB.out iA; replace hA := zw HB.out hA; replace LA := eq_true LA; replace IA := eq_true IA; have KA : 0 ≤ ((pA) : Int) := zD; have GA : (pA) < (l0.length : Int) := zD; obtain ⟨VA, iB, gA, fA⟩ := at_T49 XA.out (pA) KA GA; have lA := fA; have mA := gA; obtain rfl : bA = VA := (by injection iB); replace gA := zw HB.out gA; replace fA := zw HB.out fA; replace KA := eq_true KA; replace GA := eq_true GA; have JA : 0 ≤ ((rA) : Int) := zD; have FA : (rA) < (l0.length : Int) := zD; obtain ⟨UA, hB, eA, dA⟩ := at_T49 XA.out (rA) JA FA; have jA := dA; have kA := eA; obtain rfl : bA = UA := (by injection hB); replace eA := zw HB.out eA; replace dA := zw HB.out dA; replace JA := eq_true JA; replace FA := eq_true FA
            refine zs (fun w' => w'.cell? (bA.add ((aA).toNat * 2)) = some (.int .i64 ((rd_T49 l0 aA).f0)) ∧ w'.cell? ⟨(bA.add ((aA).toNat * 2)).block, (bA.add ((aA).toNat * 2)).off + 1, none⟩ = some (.int .i64 ((rd_T49 l0 aA).f1)) ∧ w'.cell? (bA.add (((pA)).toNat * 2)) = some (.int .i64 ((rd_T49 l0 (pA)).f0)) ∧ w'.cell? ⟨(bA.add (((pA)).toNat * 2)).block, (bA.add (((pA)).toNat * 2)).off + 1, none⟩ = some (.int .i64 ((rd_T49 l0 (pA)).f1)) ∧ w'.cell? (bA.add (((rA)).toNat * 2)) = some (.int .i64 ((rd_T49 l0 (rA)).f0)) ∧ w'.cell? ⟨(bA.add (((rA)).toNat * 2)).block, (bA.add (((rA)).toNat * 2)).off + 1, none⟩ = some (.int .i64 ((rd_T49 l0 (rA)).f1))) [] 20 ⟨((HB.out.cell (World.block_lt_of_cell? w _ oA)).trans oA), ((HB.out.cell (World.block_lt_of_cell? w _ nA)).trans nA), ((HB.out.cell (World.block_lt_of_cell? w _ mA)).trans mA), ((HB.out.cell (World.block_lt_of_cell? w _ lA)).trans lA), ((HB.out.cell (World.block_lt_of_cell? w _ kA)).trans kA), ((HB.out.cell (World.block_lt_of_cell? w _ jA)).trans jA)⟩ (fun qA => ?_); refine with_tabW impl_isBulged.tab5 impl_isBulged.bits5 (fun HT_ HW_ => ?_)
            generalize wr.drew = UB at HB iA hA gA fA eA dA qA ⊢
            refine zp 0 12 ?_
            refine zp 1 13 ?_
            refine zp 2 14 ?_
            refine zp 4 16 ?_
            refine zp 5 17 ?_
            refine zp 6 18 ?_
            refine zp 7 19 ?_
            refine zp 8 20 ?_
            refine zp 9 21 ?_
            refine zp 11 23 ?_
            refine zp 12 24 ?_
            refine zp 13 25 ?_
            refine zp 14 26 ?_
            refine zp 15 27 ?_
            refine zp 16 28 ?_
            refine zt 3 15 qA ?_
            refine zt 10 22 qA ?_
            refine zt 17 29 qA ?_
            refine zo 18 (some 30) (fun K hK => ?_)
            refine goes_ Try.func56 (by kernel_rfl) rfl #[.agg #[.int .i64 ((rd_T49 l0 aA).f0), .int .i64 ((rd_T49 l0 aA).f1)], .agg #[.int .i64 ((rd_T49 l0 (pA)).f0), .int .i64 ((rd_T49 l0 (pA)).f1)], .agg #[.int .i64 ((rd_T49 l0 (rA)).f0), .int .i64 ((rd_T49 l0 (rA)).f1)]] (by rfl) rfl rfl (by (try simp only [List.map_toArray, List.map_cons, List.map_nil]); first | done | (simp only [xA, PA]; rfl) | rfl | (simp only [List.length_drop, List.length_take]; rfl)) ?_
            with_reducible refine (impl_turnAt.calls ((rd_T49 l0 aA).f0) ((rd_T49 l0 aA).f1) ((rd_T49 l0 (pA)).f0) ((rd_T49 l0 (pA)).f1) ((rd_T49 l0 (rA)).f0) ((rd_T49 l0 (rA)).f1) zA _ KB.out).mono ?_
            rintro e TB ⟨rfl, hb⟩
            refine ⟨_, rfl, ?_⟩
            have n0_ := zbs HB.out hb; clear HB; have HB := n0_; clear n0_
            (try clear hb)
            (try clear MB)
            (try clear hk)
            (try clear hi)
            refine hK.out _ _ ⟨((HB.out.cell (World.block_lt_of_cell? w _ oA)).trans oA), ((HB.out.cell (World.block_lt_of_cell? w _ nA)).trans nA), ((HB.out.cell (World.block_lt_of_cell? w _ mA)).trans mA), ((HB.out.cell (World.block_lt_of_cell? w _ lA)).trans lA), ((HB.out.cell (World.block_lt_of_cell? w _ kA)).trans kA), ((HB.out.cell (World.block_lt_of_cell? w _ jA)).trans jA)⟩ (fun qA => ?_)
            clear hK K
            refine zn 30 ?_
            refine zp 19 31 ?_
            refine done_ (done_of HT_.out (by kernel_rfl)) ?_
            try go_wp2
            go_ret
            exact ⟨by first | rfl | (simp [errW_none, errW_some] <;> rfl) | (simp only [← xA, ← PA]; first | rfl | (simp [errW_none, errW_some] <;> rfl)) | (simp [*, errW_none, errW_some] <;> rfl), zB HB.out⟩
           ·rw [if_neg mB] at H
            have rB := decide_eq_false mB; clear mB; have H' := zQ H; clear H
            try go_wp2
            have n0_ := zQ (below_drew1 HB.out); clear HB; have HB := n0_; clear n0_; have LA : 0 ≤ (aA : Int) := zD; have IA : aA < (l0.length : Int) := zD; obtain ⟨bA, jB, iA, hA⟩ := at_T49 XA.out aA LA IA; have nA := hA; have oA := iA
            cases jB
            replace iA := zw HB.out iA; replace hA := zw HB.out hA; replace LA := eq_true LA; replace IA := eq_true IA; have KA : 0 ≤ ((pA) : Int) := zD; have GA : (pA) < (l0.length : Int) := zD; obtain ⟨VA, iB, gA, fA⟩ := at_T49 XA.out (pA) KA GA; have lA := fA; have mA := gA; obtain rfl : bA = VA := (by injection iB); replace gA := zw HB.out gA; replace fA := zw HB.out fA; replace KA := eq_true KA; replace GA := eq_true GA; have JA : 0 ≤ ((rA) : Int) := zD; have FA : (rA) < (l0.length : Int) := zD; obtain ⟨UA, hB, eA, dA⟩ := at_T49 XA.out (rA) JA FA; have jA := dA; have kA := eA; obtain rfl : bA = UA := (by injection hB); replace eA := zw HB.out eA; replace dA := zw HB.out dA; replace JA := eq_true JA; replace FA := eq_true FA
            refine zs (fun w' => w'.cell? (bA.add ((aA).toNat * 2)) = some (.int .i64 ((rd_T49 l0 aA).f0)) ∧ w'.cell? ⟨(bA.add ((aA).toNat * 2)).block, (bA.add ((aA).toNat * 2)).off + 1, none⟩ = some (.int .i64 ((rd_T49 l0 aA).f1)) ∧ w'.cell? (bA.add (((pA)).toNat * 2)) = some (.int .i64 ((rd_T49 l0 (pA)).f0)) ∧ w'.cell? ⟨(bA.add (((pA)).toNat * 2)).block, (bA.add (((pA)).toNat * 2)).off + 1, none⟩ = some (.int .i64 ((rd_T49 l0 (pA)).f1)) ∧ w'.cell? (bA.add (((rA)).toNat * 2)) = some (.int .i64 ((rd_T49 l0 (rA)).f0)) ∧ w'.cell? ⟨(bA.add (((rA)).toNat * 2)).block, (bA.add (((rA)).toNat * 2)).off + 1, none⟩ = some (.int .i64 ((rd_T49 l0 (rA)).f1))) [] 20 ⟨((HB.out.cell (World.block_lt_of_cell? w _ oA)).trans oA), ((HB.out.cell (World.block_lt_of_cell? w _ nA)).trans nA), ((HB.out.cell (World.block_lt_of_cell? w _ mA)).trans mA), ((HB.out.cell (World.block_lt_of_cell? w _ lA)).trans lA), ((HB.out.cell (World.block_lt_of_cell? w _ kA)).trans kA), ((HB.out.cell (World.block_lt_of_cell? w _ jA)).trans jA)⟩ (fun qA => ?_); refine with_tabW impl_isBulged.tab5 impl_isBulged.bits5 (fun HT_ HW_ => ?_)
            generalize wr.drew = SB at HB iA hA gA fA eA dA qA ⊢
            refine zp 0 12 ?_
            refine zp 1 13 ?_
            refine zp 2 14 ?_
            refine zp 4 16 ?_
            refine zp 5 17 ?_
            refine zp 6 18 ?_
            refine zp 7 19 ?_
            refine zp 8 20 ?_
            refine zp 9 21 ?_
            refine zp 11 23 ?_
            refine zp 12 24 ?_
            refine zp 13 25 ?_
            refine zp 14 26 ?_
            refine zp 15 27 ?_
            refine zp 16 28 ?_
            refine zt 3 15 qA ?_
            refine zt 10 22 qA ?_
            refine zt 17 29 qA ?_
            refine zo 18 (some 30) (fun K hK => ?_)
            refine goes_ Try.func56 (by kernel_rfl) rfl #[.agg #[.int .i64 ((rd_T49 l0 aA).f0), .int .i64 ((rd_T49 l0 aA).f1)], .agg #[.int .i64 ((rd_T49 l0 (pA)).f0), .int .i64 ((rd_T49 l0 (pA)).f1)], .agg #[.int .i64 ((rd_T49 l0 (rA)).f0), .int .i64 ((rd_T49 l0 (rA)).f1)]] (by rfl) rfl rfl (by (try simp only [List.map_toArray, List.map_cons, List.map_nil]); first | done | (simp only [xA, PA]; rfl) | rfl | (simp only [List.length_drop, List.length_take]; rfl)) ?_
            with_reducible refine (impl_turnAt.calls ((rd_T49 l0 aA).f0) ((rd_T49 l0 aA).f1) ((rd_T49 l0 (pA)).f0) ((rd_T49 l0 (pA)).f1) ((rd_T49 l0 (rA)).f0) ((rd_T49 l0 (rA)).f1) zA _ KB.out).mono ?_
            rintro e RB ⟨rfl, hb⟩
            refine ⟨_, rfl, ?_⟩
            have n0_ := zbs HB.out hb; clear HB; have HB := n0_; clear n0_
            (try clear hb)
            (try clear MB)
            (try clear hk)
            (try clear hi)
            refine hK.out _ _ ⟨((HB.out.cell (World.block_lt_of_cell? w _ oA)).trans oA), ((HB.out.cell (World.block_lt_of_cell? w _ nA)).trans nA), ((HB.out.cell (World.block_lt_of_cell? w _ mA)).trans mA), ((HB.out.cell (World.block_lt_of_cell? w _ lA)).trans lA), ((HB.out.cell (World.block_lt_of_cell? w _ kA)).trans kA), ((HB.out.cell (World.block_lt_of_cell? w _ jA)).trans jA)⟩ (fun qA => ?_)
            clear hK K
            refine zn 30 ?_
            refine zp 19 31 ?_
            refine done_ (done_of HT_.out (by kernel_rfl)) ?_
            try go_wp2
            go_roundg k1
            case measure => have := uB.out; omega
            case rel => exact ⟨(wrap64 (aA + 1)), (zF), H', ⟨by have := uB.out; omega⟩, ⟨zB HB.out⟩⟩
          ·rw [if_neg vB] at H
           exact absurd H (by simp)
         ·rw [if_neg wB] at H
          exact absurd H (by simp)
        ·rw [if_neg c8] at H
         exact absurd H (by simp)
       ·rw [if_neg c7] at H
        exact absurd H (by simp)
     ·rw [if_neg c4] at H
      exact absurd H (by simp)
    ·rw [if_neg c3] at H
     exact absurd H (by simp)
   ·rw [if_neg c2] at H
    have lB := decide_eq_false c2; clear c2; obtain rfl := Option.some.inj H
    go_wp2
    go_ret
    exact ⟨zE, zB HB.out⟩

mutual
def impl_gcd.j0 : Nat → Int → Int → Option (Int)
 | 0, _, _ => none
 | k + 1, x0, x1 => impl_gcd.l0 k x0 x1
def impl_gcd.l0 : Nat → Int → Int → Option (Int)
 | 0, _, _ => none
 | k + 1, x0, x1 => if x1 = 0 then (some x0) else (impl_gcd.l0 k x1 (Int.tmod x0 x1))
end
def impl_gcd.f (k : Nat) (a0 : Int) (a1 : Int) : Option (Int) := if a0 < 0 then (impl_gcd.j0 k (wrap64 (-a0)) a1) else (impl_gcd.j0 k a0 a1)
theorem impl_gcd.calls (k : Nat) (a0 : Int) (a1 : Int) (r : Int) (w : World) (h : impl_gcd.f k a0 a1 = some r) :
  Calls Try.prog 72 #[.int .i64 a0, .int .i64 a1] w fun e w' => e = .returned (.int .i64 r) ∧ Drawn0 w w' := by
 have H := h; unfold impl_gcd.f at H
 clear h
 have EB := zQ H
 clear H
 go_enter Try.func72, Try.ntmps72
 go_upto_if 6 with (fail)
 repeat (go_quiet (fail); go_upto_if 6 with (fail); try go_upto_if 6 with (fail))
 go_cut [0] (fun v0 wc => ∃ (kq : Nat) (yA : Int), v0 = .int .i64 yA ∧ Aside0 (impl_gcd.j0 kq yA a1 = some r) ∧ Aside0 (kq ≤ k) ∧ Drawn0 w wc)
 case first =>
  have H := EB.out; clear EB
  by_cases c4 : a0 < 0
  ·rw [if_pos c4] at H
   have AA := decide_eq_true c4; clear c4
   (first | rw [AA] | (simp only [i64_w, i32_w]; rw [AA]) | skip)
   have H' := zQ H; clear H
   go_wp2
   repeat (go_quiet (fail); try go_wp2)
   go_meet
   case rel => exact ⟨_, (wrap64 (-a0)), (zF), H', ⟨by first | omega | exact Nat.le_refl _⟩, by repeat (first | exact Drawn0.refl _ | apply Drawn0.step)⟩
  ·rw [if_neg c4] at H
   have AA := decide_eq_false c4; clear c4
   (first | rw [AA] | (simp only [i64_w, i32_w]; rw [AA]) | skip)
   have H' := zQ H; clear H
   go_wp2
   repeat (go_quiet (fail); try go_wp2)
   go_meet
   case rel => exact ⟨_, (a0), (zF), H', ⟨by first | omega | exact Nat.le_refl _⟩, by repeat (first | exact Drawn0.refl _ | apply Drawn0.step)⟩
 case rest =>
  clear EB; (try clear p2); (try clear c4); (try clear AA); obtain ⟨kq, yA, rfl, HA, JB, ⟨mc2, rfl⟩⟩ := hcut
  cases kq with
  | zero => exact absurd HA.out (by simp [impl_gcd.j0])
  | succ FB =>
   have H := HA.out; clear HA
   simp only [impl_gcd.j0] at H
   have H' := zQ H; clear H
   go_wp2
   repeat (go_quiet (fail); try go_wp2)
   go_loopg [0, 1] FB (fun kq v0 v1 w' => ∃ (yA : Int) (wA : Int), v0 = .int .i64 yA ∧ v1 = .int .i64 wA ∧ Aside0 (impl_gcd.l0 kq yA wA = some r) ∧ Aside0 (kq ≤ FB) ∧ Drawn0 w w')
   case atStart => exact ⟨(yA), (a1), (zF), (zF), H', ⟨Nat.le_refl _⟩, by repeat (first | exact Drawn0.refl _ | apply Drawn0.step)⟩
   case round =>
    clear H'; (try clear c2); (try clear p2); (try clear c4); (try clear AA); (try clear p2); obtain ⟨yA, wA, rfl, rfl, HA, HK2, ⟨m2, rfl⟩⟩ := hrel
    cases gk with
    | zero => exact absurd HA.out (by simp [impl_gcd.l0])
    | succ k2 =>
     have H := HA.out; clear HA
     simp only [impl_gcd.l0] at H
     by_cases c5 : wA = 0
     ·rw [if_pos c5] at H
      have kB : (wA == 0) = true := beq_iff_eq.mpr c5; have pB : (wA != 0) = false := bne_eq_false_iff_eq.mpr c5; clear c5; obtain rfl := Option.some.inj H
      go_wp2
      repeat (go_quiet (fail); try go_wp2)
      go_ret
      exact ⟨zF, by repeat (first | exact Drawn0.refl _ | apply Drawn0.step)⟩
     ·rw [if_neg c5] at H
      have kB : (wA == 0) = false := beq_eq_false_iff_ne.mpr c5; have pB : (wA != 0) = true := bne_iff_ne.mpr c5; have H' := zQ H; clear H
      go_wp2
      repeat (go_quiet (fail); try go_wp2)
      go_roundg k2
      case measure => have := JB.out; have := HK2.out; omega
      case rel => exact ⟨(wA), (Int.tmod yA wA), (zF), (zF), H', ⟨by have := JB.out; have := HK2.out; omega⟩, by repeat (first | exact Drawn0.refl _ | apply Drawn0.step)⟩

end
end Go.Proofs.Ytchngbjpjbahiaa.PSailw

