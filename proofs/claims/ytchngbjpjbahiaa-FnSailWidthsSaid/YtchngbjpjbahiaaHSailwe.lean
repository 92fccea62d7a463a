import Derived.Test.YtchngbjpjbahiaaHSailw0
import Derived.Test.YtchngbjpjbahiaaHSailwa
namespace Go.Proofs.Ytchngbjpjbahiaa.PSailw
noncomputable section
open Go.RowKit Go.Proofs.YtchngbjpjbahiaaW.PrintWords Go.Proofs.YtchngbjpjbahiaaW.PrintLast Go.Proofs.YtchngbjpjbahiaaW.PrintMore
attribute [local go_sem] max2_int min2_int max_two min_two max_three min_three max_four min_four   -- for this text's walks alone
set_option linter.unusedVariables false
set_option linter.unusedSimpArgs false
set_option maxHeartbeats 8000000
set_option maxRecDepth 100000

def spec_l13Limits.l0 : Nat → List (S49) → Int → Int → Int → Option (Int × Int)
 | 0, _, _, _, _ => none
 | k + 1, x0, x4, x5, x6 => if x6 < (x0.length : Int) then (if 0 ≤ x6 then ((spec_l00Min.f x4 ((rd_T49 x0 x6).f1)).bind fun MA => ((spec_l00Max.f x5 ((rd_T49 x0 x6).f1)).bind fun LA => (spec_l13Limits.l0 k x0 MA LA (wrap64 (x6 + 1))))) else (none)) else (some (x4, x5))
def spec_l13Limits.f (k : Nat) (l0 : List (S49)) : Option (Int × Int) := if 0 < (l0.length : Int) then (spec_l13Limits.l0 k l0 ((rd_T49 l0 0).f1) ((rd_T49 l0 0).f1) 1) else (none)
theorem spec_l13Limits.calls (k : Nat) (A0 : Option Addr) (c0 : Nat) (l0 : List (S49)) (r1 : Int) (r2 : Int) (w : World) (aB : Kd.C k49 w A0 l0.length l0) (bB : l0.length ≤ c0) (h : spec_l13Limits.f k l0 = some (r1, r2)) :
  Calls Try.prog 26 #[.slice A0 l0.length c0] w fun e w' => e = .returned (.tuple #[.int .i64 r1, .int .i64 r2]) ∧ Drawn0 w w' := by
 have JA := zQ aB
 have CB := zQ bB
 clear aB bB
 have H := h; unfold spec_l13Limits.f at H
 clear h
 by_cases c2 : 0 < (l0.length : Int)
 ·rw [if_pos c2] at H
  have FA := decide_eq_true c2; have qB : decide (0 < l0.length) = true := decide_eq_true (by omega); clear c2; have H' := zQ H; clear H; have OA : 0 ≤ (0 : Int) := (by omega); have NA : 0 < (l0.length : Int) := zD; obtain ⟨QA, nB, tA, sA⟩ := at_T49 JA.out 0 OA NA
  cases nB
  have qi152 : (0 < l0.length) = True := eq_true (by omega)
  (try rw [show ((0 : Int)).toNat = 0 from rfl] at tA)
  (try rw [show 0 * 2 = 0 from rfl] at tA)
  (try rw [Addr.add_zero'] at tA)
  (try rw [show ((0 : Int)).toNat = 0 from rfl] at sA)
  (try rw [show 0 * 2 = 0 from rfl] at sA)
  (try rw [Addr.add_zero'] at sA)
  replace OA := eq_true OA; replace NA := eq_true NA
  go_enter Try.func26, Try.ntmps26
  go_wp2
  go_loopg [4, 5, 6] k (fun kq v4 v5 v6 w' => ∃ (aA : Int) (CA : Int) (pA : Int), v4 = .int .i64 aA ∧ v5 = .int .i64 CA ∧ v6 = .int .i64 pA ∧ Aside0 (spec_l13Limits.l0 kq l0 aA CA pA = some (r1, r2)) ∧ Aside0 (kq ≤ k) ∧ Drawn0 w w')
  case atStart => exact ⟨((rd_T49 l0 0).f1), ((rd_T49 l0 0).f1), (1), (zF), (zF), (zF), H', ⟨Nat.le_refl _⟩, by repeat (first | exact Drawn0.refl _ | apply Drawn0.step)⟩
  case round =>
   clear H'; (try clear p1); (try clear q1); (try clear IB); (try clear qi1); (try clear c2); (try clear FA); (try clear qB); (try clear p2); (try clear tA); (try clear sA); (try clear OA); (try clear NA); obtain ⟨aA, CA, pA, rfl, rfl, rfl, HA, RA, ⟨m1, rfl⟩⟩ := hrel
   cases gk with
   | zero => exact absurd HA.out (by simp [spec_l13Limits.l0])
   | succ k1 =>
    have H := HA.out; clear HA
    simp only [spec_l13Limits.l0] at H
    by_cases c3 : pA < (l0.length : Int)
    ·rw [if_pos c3] at H
     have PA := decide_eq_true c3; clear c3
     by_cases c4 : 0 ≤ pA
     ·rw [if_pos c4] at H
      have oB := decide_eq_true c4; clear c4; replace H := zob H; obtain ⟨MA, A5, H⟩ := H; replace H := zob H; obtain ⟨LA, A6, H⟩ := H; have H' := zQ H; clear H; have VA : 0 ≤ (pA : Int) := zD; have TA : pA < (l0.length : Int) := zD; obtain ⟨eB, mB, iB, hB⟩ := at_T49 JA.out pA VA TA; obtain rfl : QA = eB := (by injection mB); replace VA := eq_true VA; replace TA := eq_true TA
      go_wp2_with (first | ((with_reducible refine zgc 43 ?_); refine zgo (some 24) Try.func43 #[.int .i64 aA, .int .i64 ((rd_T49 l0 pA).f1)] ?_; (with_reducible refine (spec_l00Min.calls aA ((rd_T49 l0 pA).f1) MA _ A5.out).mono ?_); rintro e w' ⟨rfl, ⟨nd, rfl⟩⟩; refine ⟨_, rfl, ?_⟩; have UA : 0 ≤ (pA : Int) := zD; have SA : pA < (l0.length : Int) := zD; obtain ⟨dB, lB, gB, fB⟩ := at_T49 JA.out pA UA SA; obtain rfl : QA = dB := (by injection lB); replace UA := eq_true UA; replace SA := eq_true SA) | ((with_reducible refine zgc 41 ?_); refine zgo (some 31) Try.func41 #[.int .i64 CA, .int .i64 ((rd_T49 l0 pA).f1)] ?_; (with_reducible refine (spec_l00Max.calls CA ((rd_T49 l0 pA).f1) LA _ A6.out).mono ?_); rintro e w' ⟨rfl, ⟨nd, rfl⟩⟩; refine ⟨_, rfl, ?_⟩))
      go_roundg k1
      case measure => have := RA.out; omega
      case rel => exact ⟨(MA), (LA), (wrap64 (pA + 1)), (zF), (zF), (zF), H', ⟨by have := RA.out; omega⟩, by repeat (first | exact Drawn0.refl _ | apply Drawn0.step)⟩
     ·rw [if_neg c4] at H
      exact absurd H (by simp)
    ·rw [if_neg c3] at H
     have PA := decide_eq_false c3; clear c3
     simp only [Option.some.injEq, Prod.mk.injEq] at H
     obtain ⟨rfl, rfl⟩ := H
     go_wp2
     go_ret2
     exact ⟨zF, by repeat (first | exact Drawn0.refl _ | apply Drawn0.step)⟩
 ·rw [if_neg c2] at H
  exact absurd H (by simp)

def spec_l13Bulged.l0 : Nat → List (S49) → Int → Int → Option (Bool)
 | 0, _, _, _ => none
 | k + 1, x0, x3, x4 => if x4 < x3 then (if 0 ≤ x4 then (if x4 < (x0.length : Int) then (if x3 = 0 then (none) else (if 0 ≤ (Int.tmod (wrap64 (x4 + 1)) x3) then (if (Int.tmod (wrap64 (x4 + 1)) x3) < (x0.length : Int) then (if 0 ≤ (Int.tmod (wrap64 (x4 + 2)) x3) then (if (Int.tmod (wrap64 (x4 + 2)) x3) < (x0.length : Int) then ((spec_l13Cross.f ((rd_T49 x0 x4).f0) ((rd_T49 x0 x4).f1) ((rd_T49 x0 (Int.tmod (wrap64 (x4 + 1)) x3)).f0) ((rd_T49 x0 (Int.tmod (wrap64 (x4 + 1)) x3)).f1) ((rd_T49 x0 (Int.tmod (wrap64 (x4 + 2)) x3)).f0) ((rd_T49 x0 (Int.tmod (wrap64 (x4 + 2)) x3)).f1)).bind fun vA => (if vA < 0 then (some false) else (spec_l13Bulged.l0 k x0 x3 (wrap64 (x4 + 1))))) else (none)) else (none)) else (none)) else (none))) else (none)) else (none)) else (some true)
def spec_l13Bulged.f (k : Nat) (l0 : List (S49)) : Option (Bool) := spec_l13Bulged.l0 k l0 (l0.length : Int) 0
def spec_l13Bulged.T5 : Bool × List (List Nat × List Nat) := (true, [([], []), ([], []), ([0, 1], [0, 1]), ([2], [2]), ([], []), ([], []), ([5], [5]), ([], []), ([6, 7], [6, 7]), ([4, 8], [4, 8]), ([9], [9]), ([], []), ([], []), ([12], [12]), ([], []), ([13, 14], [13, 14]), ([11, 15], [11, 15]), ([16], [16]), ([3, 10, 17], [3, 10, 17]), ([18], [18])])
def spec_l13Bulged.B5 : List Nat := [0, 0, 3, 7, 0, 0, 32, 0, 224, 496, 1008, 0, 0, 4096, 0, 28672, 63488, 129024, 262143, 524287]
theorem spec_l13Bulged.tab5 : rtab .any (opsOf Try.f28 5) = spec_l13Bulged.T5 := by kernel_rfl
theorem spec_l13Bulged.bits5 : waitsOk spec_l13Bulged.T5.2 spec_l13Bulged.B5 = true := by kernel_rfl
theorem spec_l13Bulged.calls (k : Nat) (A0 : Option Addr) (c0 : Nat) (l0 : List (S49)) (r : Bool) (w : World) (aB : Kd.C k49 w A0 l0.length l0) (bB : l0.length ≤ c0) (h : spec_l13Bulged.f k l0 = some r) :
  Calls Try.prog 28 #[.slice A0 l0.length c0] w fun e w' => e = .returned (.bool r) ∧ Below w.heap.size w w' := by
 have uB := Try.underlying49
 have JA := zQ aB
 have CB := zQ bB
 clear aB bB
 have HB := zQ (Below.refl w.heap.size w)
 have H : (spec_l13Bulged.l0 k l0 (l0.length : Int) 0) = some r := h
 clear h
 have H' := zQ H
 clear H
 go_enter Try.func28, Try.ntmps28
 go_wp2
 go_loopg [4] k (fun kq v4 w' => ∃ (aA : Int), v4 = .int .i64 aA ∧ Aside0 (spec_l13Bulged.l0 kq l0 (l0.length : Int) aA = some r) ∧ Aside0 (kq ≤ k) ∧ Aside0 (Below w.heap.size w w'))
 case atStart => exact ⟨(0), (zF), H', ⟨Nat.le_refl _⟩, ⟨zB HB.out⟩⟩
 case round =>
  clear H'; obtain ⟨aA, rfl, HA, RA, HB⟩ := hrel
  cases gk with
  | zero => exact absurd HA.out (by simp [spec_l13Bulged.l0])
  | succ k1 =>
   have H := HA.out; clear HA
   simp only [spec_l13Bulged.l0] at H
   by_cases c2 : aA < (l0.length : Int)
   ·rw [if_pos c2] at H
    have FA := decide_eq_true c2; clear c2
    by_cases c3 : 0 ≤ aA
    ·rw [if_pos c3] at H
     have PA := decide_eq_true c3; clear c3
     by_cases c4 : aA < (l0.length : Int)
     ·rw [if_pos c4] at H
      have oB := decide_eq_true c4; clear c4
      by_cases c5 : (l0.length : Int) = 0
      ·rw [if_pos c5] at H
       exact absurd H (by simp)
      ·rw [if_neg c5] at H
       have BB : ((l0.length : Int) == 0) = false := beq_eq_false_iff_ne.mpr c5; have AB : ((l0.length : Int) != 0) = true := bne_iff_ne.mpr c5
       have yB : ¬ (l0 = []) := fun h_ => c5 (by rw [h_]; rfl)
       obtain ⟨qA, EA⟩ : ∃ j_ : Int, (Int.tmod (wrap64 (aA + 1)) (l0.length : Int)) = j_ := ⟨_, rfl⟩
       replace H : (if 0 ≤ (qA) then (if (qA) < (l0.length : Int) then (if 0 ≤ (Int.tmod (wrap64 (aA + 2)) (l0.length : Int)) then (if (Int.tmod (wrap64 (aA + 2)) (l0.length : Int)) < (l0.length : Int) then ((spec_l13Cross.f ((rd_T49 l0 aA).f0) ((rd_T49 l0 aA).f1) ((rd_T49 l0 (qA)).f0) ((rd_T49 l0 (qA)).f1) ((rd_T49 l0 (Int.tmod (wrap64 (aA + 2)) (l0.length : Int))).f0) ((rd_T49 l0 (Int.tmod (wrap64 (aA + 2)) (l0.length : Int))).f1)).bind fun vA => (if vA < 0 then (some false) else (spec_l13Bulged.l0 k1 l0 (l0.length : Int) (wrap64 (aA + 1))))) else (none)) else (none)) else (none)) else (none)) = some r := by first | (rw [EA] at H; exact H) | (simp only [EA] at H ⊢; exact H)
       by_cases c7 : 0 ≤ (qA)
       ·rw [if_pos c7] at H
        have xB := decide_eq_true c7; clear c7
        by_cases c8 : (qA) < (l0.length : Int)
        ·rw [if_pos c8] at H
         have wB := decide_eq_true c8; clear c8; obtain ⟨rA, DA⟩ : ∃ j_ : Int, (Int.tmod (wrap64 (aA + 2)) (l0.length : Int)) = j_ := ⟨_, rfl⟩
         replace H : (if 0 ≤ (rA) then (if (rA) < (l0.length : Int) then ((spec_l13Cross.f ((rd_T49 l0 aA).f0) ((rd_T49 l0 aA).f1) ((rd_T49 l0 (qA)).f0) ((rd_T49 l0 (qA)).f1) ((rd_T49 l0 (rA)).f0) ((rd_T49 l0 (rA)).f1)).bind fun vA => (if vA < 0 then (some false) else (spec_l13Bulged.l0 k1 l0 (l0.length : Int) (wrap64 (aA + 1))))) else (none)) else (none)) = some r := by first | (rw [DA] at H; exact H) | (simp only [DA] at H ⊢; exact H)
         by_cases kB : 0 ≤ (rA)
         ·rw [if_pos kB] at H
          have sB := decide_eq_true kB; clear kB
          by_cases jB : (rA) < (l0.length : Int)
          ·rw [if_pos jB] at H
           have rB := decide_eq_true jB; clear jB; replace H := zob H; obtain ⟨vA, tB, H⟩ := H
           by_cases ZA : vA < 0
           ·rw [if_pos ZA] at H
            have cB := decide_eq_true ZA; clear ZA; obtain rfl := Option.some.inj H
            try go_wp2
            have n0_ := zQ (below_drew1 HB.out); clear HB; have HB := n0_; clear n0_; have BA : 0 ≤ (aA : Int) := zD; have yA : aA < (l0.length : Int) := zD; obtain ⟨bA, YA, hA, gA⟩ := at_T49 JA.out aA BA yA; have mA := gA; have nA := hA
            cases YA
            replace hA := zw HB.out hA; replace gA := zw HB.out gA; replace BA := eq_true BA; replace yA := eq_true yA; have AA : 0 ≤ ((qA) : Int) := zD; have xA : (qA) < (l0.length : Int) := zD; obtain ⟨IA, XA, fA, eA⟩ := at_T49 JA.out (qA) AA xA; have kA := eA; have lA := fA; obtain rfl : bA = IA := (by injection XA); replace fA := zw HB.out fA; replace eA := zw HB.out eA; replace AA := eq_true AA; replace xA := eq_true xA; have zA : 0 ≤ ((rA) : Int) := zD; have wA : (rA) < (l0.length : Int) := zD; obtain ⟨GA, WA, dA, cA⟩ := at_T49 JA.out (rA) zA wA; have iA := cA; have jA := dA; obtain rfl : bA = GA := (by injection WA); replace dA := zw HB.out dA; replace cA := zw HB.out cA; replace zA := eq_true zA; replace wA := eq_true wA
            refine zs (fun w' => w'.cell? (bA.add ((aA).toNat * 2)) = some (.int .i64 ((rd_T49 l0 aA).f0)) ∧ w'.cell? ⟨(bA.add ((aA).toNat * 2)).block, (bA.add ((aA).toNat * 2)).off + 1, none⟩ = some (.int .i64 ((rd_T49 l0 aA).f1)) ∧ w'.cell? (bA.add (((qA)).toNat * 2)) = some (.int .i64 ((rd_T49 l0 (qA)).f0)) ∧ w'.cell? ⟨(bA.add (((qA)).toNat * 2)).block, (bA.add (((qA)).toNat * 2)).off + 1, none⟩ = some (.int .i64 ((rd_T49 l0 (qA)).f1)) ∧ w'.cell? (bA.add (((rA)).toNat * 2)) = some (.int .i64 ((rd_T49 l0 (rA)).f0)) ∧ w'.cell? ⟨(bA.add (((rA)).toNat * 2)).block, (bA.add (((rA)).toNat * 2)).off + 1, none⟩ = some (.int .i64 ((rd_T49 l0 (rA)).f1))) [] 20 ⟨((HB.out.cell (World.block_lt_of_cell? w _ nA)).trans nA), ((HB.out.cell (World.block_lt_of_cell? w _ mA)).trans mA), ((HB.out.cell (World.block_lt_of_cell? w _ lA)).trans lA), ((HB.out.cell (World.block_lt_of_cell? w _ kA)).trans kA), ((HB.out.cell (World.block_lt_of_cell? w _ jA)).trans jA), ((HB.out.cell (World.block_lt_of_cell? w _ iA)).trans iA)⟩ (fun oA => ?_); refine with_tabW spec_l13Bulged.tab5 spec_l13Bulged.bits5 (fun HT_ HW_ => ?_)
            generalize wr.drew = GB at HB hA gA fA eA dA cA oA ⊢
            refine zp 0 12 ?_
            refine zp 1 13 ?_
            refine zp 2 14 ?_
            refine zp 4 16 ?_
            refine zp 5 17 ?_
            refine zp 6 18 ?_
            refine zp 7 19 ?_
            refine zp 8 20 ?_
            refine zp 9 21 ?_
            refine zp 11 23 ?_
            refine zp 12 24 ?_
            refine zp 13 25 ?_
            refine zp 14 26 ?_
            refine zp 15 27 ?_
            refine zp 16 28 ?_
            refine zt 3 15 oA ?_
            refine zt 10 22 oA ?_
            refine zt 17 29 oA ?_
            refine zo 18 (some 30) (fun K hK => ?_)
            refine goes_ Try.func50 (by kernel_rfl) rfl #[.agg #[.int .i64 ((rd_T49 l0 aA).f0), .int .i64 ((rd_T49 l0 aA).f1)], .agg #[.int .i64 ((rd_T49 l0 (qA)).f0), .int .i64 ((rd_T49 l0 (qA)).f1)], .agg #[.int .i64 ((rd_T49 l0 (rA)).f0), .int .i64 ((rd_T49 l0 (rA)).f1)]] (by rfl) rfl rfl (by (try simp only [List.map_toArray, List.map_cons, List.map_nil]); first | done | (simp only [EA, DA]; rfl) | rfl | (simp only [List.length_drop, List.length_take]; rfl)) ?_
            with_reducible refine (spec_l13Cross.calls ((rd_T49 l0 aA).f0) ((rd_T49 l0 aA).f1) ((rd_T49 l0 (qA)).f0) ((rd_T49 l0 (qA)).f1) ((rd_T49 l0 (rA)).f0) ((rd_T49 l0 (rA)).f1) vA _ tB.out).mono ?_
            rintro e FB ⟨rfl, hb⟩
            refine ⟨_, rfl, ?_⟩
            have n0_ := zbs HB.out hb; clear HB; have HB := n0_; clear n0_
            (try clear hb)
            (try clear vB)
            (try clear hk)
            (try clear hi)
            refine hK.out _ _ ⟨((HB.out.cell (World.block_lt_of_cell? w _ nA)).trans nA), ((HB.out.cell (World.block_lt_of_cell? w _ mA)).trans mA), ((HB.out.cell (World.block_lt_of_cell? w _ lA)).trans lA), ((HB.out.cell (World.block_lt_of_cell? w _ kA)).trans kA), ((HB.out.cell (World.block_lt_of_cell? w _ jA)).trans jA), ((HB.out.cell (World.block_lt_of_cell? w _ iA)).trans iA)⟩ (fun oA => ?_)
            clear hK K
            refine zn 30 ?_
            refine zp 19 31 ?_
            refine done_ (done_of HT_.out (by kernel_rfl)) ?_
            try go_wp2
            go_ret
            exact ⟨by first | rfl | (simp [errW_none, errW_some] <;> rfl) | (simp only [← EA, ← DA]; first | rfl | (simp [errW_none, errW_some] <;> rfl)) | (simp [*, errW_none, errW_some] <;> rfl), zB HB.out⟩
           ·rw [if_neg ZA] at H
            have cB := decide_eq_false ZA; clear ZA; have H' := zQ H; clear H
            try go_wp2
            have n0_ := zQ (below_drew1 HB.out); clear HB; have HB := n0_; clear n0_; have BA : 0 ≤ (aA : Int) := zD; have yA : aA < (l0.length : Int) := zD; obtain ⟨bA, YA, hA, gA⟩ := at_T49 JA.out aA BA yA; have mA := gA; have nA := hA
            cases YA
            replace hA := zw HB.out hA; replace gA := zw HB.out gA; replace BA := eq_true BA; replace yA := eq_true yA; have AA : 0 ≤ ((qA) : Int) := zD; have xA : (qA) < (l0.length : Int) := zD; obtain ⟨IA, XA, fA, eA⟩ := at_T49 JA.out (qA) AA xA; have kA := eA; have lA := fA; obtain rfl : bA = IA := (by injection XA); replace fA := zw HB.out fA; replace eA := zw HB.out eA; replace AA := eq_true AA; replace xA := eq_true xA; have zA : 0 ≤ ((rA) : Int) := zD; have wA : (rA) < (l0.length : Int) := zD; obtain ⟨GA, WA, dA, cA⟩ := at_T49 JA.out (rA) zA wA; have iA := cA; have jA := dA; obtain rfl : bA = GA := (by injection WA); replace dA := zw HB.out dA; replace cA := zw HB.out cA; replace zA := eq_true zA; replace wA := eq_true wA
            refine zs (fun w' => w'.cell? (bA.add ((aA).toNat * 2)) = some (.int .i64 ((rd_T49 l0 aA).f0)) ∧ w'.cell? ⟨(bA.add ((aA).toNat * 2)).block, (bA.add ((aA).toNat * 2)).off + 1, none⟩ = some (.int .i64 ((rd_T49 l0 aA).f1)) ∧ w'.cell? (bA.add (((qA)).toNat * 2)) = some (.int .i64 ((rd_T49 l0 (qA)).f0)) ∧ w'.cell? ⟨(bA.add (((qA)).toNat * 2)).block, (bA.add (((qA)).toNat * 2)).off + 1, none⟩ = some (.int .i64 ((rd_T49 l0 (qA)).f1)) ∧ w'.cell? (bA.add (((rA)).toNat * 2)) = some (.int .i64 ((rd_T49 l0 (rA)).f0)) ∧ w'.cell? ⟨(bA.add (((rA)).toNat * 2)).block, (bA.add (((rA)).toNat * 2)).off + 1, none⟩ = some (.int .i64 ((rd_T49 l0 (rA)).f1))) [] 20 ⟨((HB.out.cell (World.block_lt_of_cell? w _ nA)).trans nA), ((HB.out.cell (World.block_lt_of_cell? w _ mA)).trans mA), ((HB.out.cell (World.block_lt_of_cell? w _ lA)).trans lA), ((HB.out.cell (World.block_lt_of_cell? w _ kA)).trans kA), ((HB.out.cell (World.block_lt_of_cell? w _ jA)).trans jA), ((HB.out.cell (World.block_lt_of_cell? w _ iA)).trans iA)⟩ (fun oA => ?_); refine with_tabW spec_l13Bulged.tab5 spec_l13Bulged.bits5 (fun HT_ HW_ => ?_)
            generalize wr.drew = EB at HB hA gA fA eA dA cA oA ⊢
            refine zp 0 12 ?_
            refine zp 1 13 ?_
            refine zp 2 14 ?_
            refine zp 4 16 ?_
            refine zp 5 17 ?_
            refine zp 6 18 ?_
            refine zp 7 19 ?_
            refine zp 8 20 ?_
            refine zp 9 21 ?_
            refine zp 11 23 ?_
            refine zp 12 24 ?_
            refine zp 13 25 ?_
            refine zp 14 26 ?_
            refine zp 15 27 ?_
            refine zp 16 28 ?_
            refine zt 3 15 oA ?_
            refine zt 10 22 oA ?_
            refine zt 17 29 oA ?_
            refine zo 18 (some 30) (fun K hK => ?_)
            refine goes_ Try.func50 (by kernel_rfl) rfl #[.agg #[.int .i64 ((rd_T49 l0 aA).f0), .int .i64 ((rd_T49 l0 aA).f1)], .agg #[.int .i64 ((rd_T49 l0 (qA)).f0), .int .i64 ((rd_T49 l0 (qA)).f1)], .agg #[.int .i64 ((rd_T49 l0 (rA)).f0), .int .i64 ((rd_T49 l0 (rA)).f1)]] (by rfl) rfl rfl (by (try simp only [List.map_toArray, List.map_cons, List.map_nil]); first | done | (simp only [EA, DA]; rfl) | rfl | (simp only [List.length_drop, List.length_take]; rfl)) ?_
            with_reducible refine (spec_l13Cross.calls ((rd_T49 l0 aA).f0) ((rd_T49 l0 aA).f1) ((rd_T49 l0 (qA)).f0) ((rd_T49 l0 (qA)).f1) ((rd_T49 l0 (rA)).f0) ((rd_T49 l0 (rA)).f1) vA _ tB.out).mono ?_
            rintro e DB ⟨rfl, hb⟩
            refine ⟨_, rfl, ?_⟩
            have n0_ := zbs HB.out hb; clear HB; have HB := n0_; clear n0_
            (try clear hb)
            (try clear vB)
            (try clear hk)
            (try clear hi)
            refine hK.out _ _ ⟨((HB.out.cell (World.block_lt_of_cell? w _ nA)).trans nA), ((HB.out.cell (World.block_lt_of_cell? w _ mA)).trans mA), ((HB.out.cell (World.block_lt_of_cell? w _ lA)).trans lA), ((HB.out.cell (World.block_lt_of_cell? w _ kA)).trans kA), ((HB.out.cell (World.block_lt_of_cell? w _ jA)).trans jA), ((HB.out.cell (World.block_lt_of_cell? w _ iA)).trans iA)⟩ (fun oA => ?_)
            clear hK K
            refine zn 30 ?_
            refine zp 19 31 ?_
            refine done_ (done_of HT_.out (by kernel_rfl)) ?_
            try go_wp2
            go_roundg k1
            case measure => have := RA.out; omega
            case rel => exact ⟨(wrap64 (aA + 1)), (zF), H', ⟨by have := RA.out; omega⟩, ⟨zB HB.out⟩⟩
          ·rw [if_neg jB] at H
           exact absurd H (by simp)
         ·rw [if_neg kB] at H
          exact absurd H (by simp)
        ·rw [if_neg c8] at H
         exact absurd H (by simp)
       ·rw [if_neg c7] at H
        exact absurd H (by simp)
     ·rw [if_neg c4] at H
      exact absurd H (by simp)
    ·rw [if_neg c3] at H
     exact absurd H (by simp)
   ·rw [if_neg c2] at H
    have FA := decide_eq_false c2; clear c2; obtain rfl := Option.some.inj H
    go_wp2
    go_ret
    exact ⟨zE, zB HB.out⟩

def spec_l00Gcd.l0 : Nat → Int → Int → Option (Int)
 | 0, _, _ => none
 | k + 1, x0, x1 => if x1 = 0 then (some x0) else (spec_l00Gcd.l0 k x1 (Int.tmod x0 x1))
def spec_l00Gcd.f (k : Nat) (a0 : Int) (a1 : Int) : Option (Int) := spec_l00Gcd.l0 k a0 a1
theorem spec_l00Gcd.calls (k : Nat) (a0 : Int) (a1 : Int) (r : Int) (w : World) (h : spec_l00Gcd.f k a0 a1 = some r) :
  Calls Try.prog 69 #[.int .i64 a0, .int .i64 a1] w fun e w' => e = .returned (.int .i64 r) ∧ Drawn0 w w' := by
 have H : (spec_l00Gcd.l0 k a0 a1) = some r := h
 clear h
 have H' := zQ H
 clear H
 go_enter Try.func69, Try.ntmps69
 go_wp2
 go_loopg [0, 1] k (fun kq v0 v1 w' => ∃ (KA : Int) (uA : Int), v0 = .int .i64 KA ∧ v1 = .int .i64 uA ∧ Aside0 (spec_l00Gcd.l0 kq KA uA = some r) ∧ Aside0 (kq ≤ k) ∧ Drawn0 w w')
 case atStart => exact ⟨(a0), (a1), (zF), (zF), H', ⟨Nat.le_refl _⟩, by repeat (first | exact Drawn0.refl _ | apply Drawn0.step)⟩
 case round =>
  clear H'; (try clear p2); obtain ⟨KA, uA, rfl, rfl, HA, RA, ⟨m1, rfl⟩⟩ := hrel
  cases gk with
  | zero => exact absurd HA.out (by simp [spec_l00Gcd.l0])
  | succ k1 =>
   have H := HA.out; clear HA
   simp only [spec_l00Gcd.l0] at H
   by_cases c3 : uA = 0
   ·rw [if_pos c3] at H
    have PA : (uA == 0) = true := beq_iff_eq.mpr c3; have pB : (uA != 0) = false := bne_eq_false_iff_eq.mpr c3; clear c3; obtain rfl := Option.some.inj H
    go_wp2
    go_ret
    exact ⟨zF, by repeat (first | exact Drawn0.refl _ | apply Drawn0.step)⟩
   ·rw [if_neg c3] at H
    have PA : (uA == 0) = false := beq_eq_false_iff_ne.mpr c3; have pB : (uA != 0) = true := bne_iff_ne.mpr c3; have H' := zQ H; clear H
    go_wp2
    go_roundg k1
    case measure => have := RA.out; omega
    case rel => exact ⟨(uA), (Int.tmod KA uA), (zF), (zF), H', ⟨by have := RA.out; omega⟩, by repeat (first | exact Drawn0.refl _ | apply Drawn0.step)⟩

def spec_l00Size.f (a0 : Int) : Option (Int) := if a0 < 0 then (some (wrap64 (-a0))) else (some a0)
theorem spec_l00Size.calls (a0 : Int) (r : Int) (w : World) (h : spec_l00Size.f a0 = some r) :
  Calls Try.prog 77 #[.int .i64 a0] w fun e w' => e = .returned (.int .i64 r) ∧ Drawn0 w w' := by
 have H := h; unfold spec_l00Size.f at H
 clear h
 by_cases c2 : a0 < 0
 ·rw [if_pos c2] at H
  have FA := decide_eq_true c2; clear c2; obtain rfl := Option.some.inj H
  go_enter Try.func77, Try.ntmps77
  go_wp2
  go_ret
  exact ⟨zF, by repeat (first | exact Drawn0.refl _ | apply Drawn0.step)⟩
 ·rw [if_neg c2] at H
  have FA := decide_eq_false c2; clear c2; obtain rfl := Option.some.inj H
  go_enter Try.func77, Try.ntmps77
  go_wp2
  go_ret
  exact ⟨zF, by repeat (first | exact Drawn0.refl _ | apply Drawn0.step)⟩

end
end Go.Proofs.Ytchngbjpjbahiaa.PSailw

