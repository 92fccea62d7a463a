import Derived.Test.YtchngbjpjbahiaaHSailw0
namespace Go.Proofs.Ytchngbjpjbahiaa.PSailw
noncomputable section
open Go.RowKit Go.Proofs.YtchngbjpjbahiaaW.PrintWords Go.Proofs.YtchngbjpjbahiaaW.PrintLast Go.Proofs.YtchngbjpjbahiaaW.PrintMore
attribute [local go_sem] max2_int min2_int max_two min_two max_three min_three max_four min_four   -- for this text's walks alone
set_option linter.unusedVariables false
set_option linter.unusedSimpArgs false
set_option maxHeartbeats 8000000
set_option maxRecDepth 100000

def impl_twiceSail.l0 : Nat → List (S49) → Int → List (S49) → Int → Int → Option (Int)
 | 0, _, _, _, _, _ => none
 | k + 1, x0, x3, x7, x8, x9 => if x9 < x8 then (if 0 ≤ x9 then (if x9 < (x7.length : Int) then (if (x0.length : Int) = 0 then (none) else (if 0 ≤ (Int.tmod (wrap64 (x9 + 1)) (x0.length : Int)) then (if (Int.tmod (wrap64 (x9 + 1)) (x0.length : Int)) < (x0.length : Int) then (impl_twiceSail.l0 k x0 (wrap64 (x3 + (wrap64 ((wrap64 (((rd_T49 x7 x9).f0) * ((rd_T49 x0 (Int.tmod (wrap64 (x9 + 1)) (x0.length : Int))).f1))) - (wrap64 (((rd_T49 x0 (Int.tmod (wrap64 (x9 + 1)) (x0.length : Int))).f0) * ((rd_T49 x7 x9).f1))))))) x7 x8 (wrap64 (x9 + 1))) else (none)) else (none))) else (none)) else (none)) else (some x3)
def impl_twiceSail.f (k : Nat) (l0 : List (S49)) : Option (Int) := impl_twiceSail.l0 k l0 0 l0 (l0.length : Int) 0
theorem impl_twiceSail.calls (k : Nat) (A0 : Option Addr) (c0 : Nat) (l0 : List (S49)) (r : Int) (w : World) (RA : Kd.C k49 w A0 l0.length l0) (UA : l0.length ≤ c0) (h : impl_twiceSail.f k l0 = some r) :
  Calls Try.prog 58 #[.slice A0 l0.length c0] w fun e w' => e = .returned (.int .i64 r) ∧ Below w.heap.size w w' := by
 have XA := Try.underlying49
 have VA := zQ RA
 have gB := zQ UA
 clear RA UA
 have HB := zQ (Below.refl w.heap.size w)
 have H : (impl_twiceSail.l0 k l0 0 l0 (l0.length : Int) 0) = some r := h
 clear h
 have H' := zQ H
 clear H
 go_enter Try.func58, Try.ntmps58
 go_wp2
 go_loopg [3, 9] k (fun kq v3 v9 w' => ∃ (lA : Int) (aA : Int), v3 = .int .i64 lA ∧ v9 = .int .i64 aA ∧ Aside0 (impl_twiceSail.l0 kq l0 lA l0 (l0.length : Int) aA = some r) ∧ Aside0 (kq ≤ k) ∧ Aside0 (Below w.heap.size w w'))
 case atStart => exact ⟨(0), (0), (zF), (zF), H', ⟨Nat.le_refl _⟩, ⟨zB HB.out⟩⟩
 case round =>
  clear H'; obtain ⟨lA, aA, rfl, rfl, HA, WA, HB⟩ := hrel
  cases gk with
  | zero => exact absurd HA.out (by simp [impl_twiceSail.l0])
  | succ k1 =>
   have H := HA.out; clear HA
   simp only [impl_twiceSail.l0] at H
   by_cases c2 : aA < (l0.length : Int)
   ·rw [if_pos c2] at H
    have QA := decide_eq_true c2; clear c2
    by_cases c3 : 0 ≤ aA
    ·rw [if_pos c3] at H
     have eB := decide_eq_true c3; clear c3
     by_cases c4 : aA < (l0.length : Int)
     ·rw [if_pos c4] at H
      have dB := decide_eq_true c4; clear c4
      by_cases c5 : (l0.length : Int) = 0
      ·rw [if_pos c5] at H
       exact absurd H (by simp)
      ·rw [if_neg c5] at H
       have cB : ((l0.length : Int) == 0) = false := beq_eq_false_iff_ne.mpr c5; have bB : ((l0.length : Int) != 0) = true := bne_iff_ne.mpr c5
       have aB : ¬ (l0 = []) := fun h_ => c5 (by rw [h_]; rfl)
       obtain ⟨mA, wA⟩ : ∃ j_ : Int, (Int.tmod (wrap64 (aA + 1)) (l0.length : Int)) = j_ := ⟨_, rfl⟩
       replace H : (if 0 ≤ (mA) then (if (mA) < (l0.length : Int) then (impl_twiceSail.l0 k1 l0 (wrap64 (lA + (wrap64 ((wrap64 (((rd_T49 l0 aA).f0) * ((rd_T49 l0 (mA)).f1))) - (wrap64 (((rd_T49 l0 (mA)).f0) * ((rd_T49 l0 aA).f1))))))) l0 (l0.length : Int) (wrap64 (aA + 1))) else (none)) else (none)) = some r := by first | (rw [wA] at H; exact H) | (simp only [wA] at H ⊢; exact H)
       by_cases c7 : 0 ≤ (mA)
       ·rw [if_pos c7] at H
        have ZA := decide_eq_true c7; clear c7
        by_cases c8 : (mA) < (l0.length : Int)
        ·rw [if_pos c8] at H
         have YA := decide_eq_true c8; clear c8; have H' := zQ H; clear H; have vA : 0 ≤ (aA : Int) := zD; have tA : aA < (l0.length : Int) := zD; obtain ⟨oA, PA, iA, hA⟩ := at_T49 VA.out aA vA tA
         cases PA
         replace iA := zw HB.out iA; replace hA := zw HB.out hA; replace vA := eq_true vA; replace tA := eq_true tA
         go_wp2_with (first | ((with_reducible refine zd 5 ?_); refine zbx (N := 5) (cs := #[.int .i64 0, .int .i64 0]) (t := 49) ?_; intro eA hg w9 nA hb; have gA := zQ (nA); have pA := zgz hg HB.out; have qA := pA; replace HB := zbs HB.out hb; clear hb nA hg; obtain ⟨NA, MA, GA, FA⟩ := zy2 gA.out; have uA : 0 ≤ ((mA) : Int) := zD; have sA : (mA) < (l0.length : Int) := zD; obtain ⟨xA, OA, bA, fA⟩ := at_T49 VA.out (mA) uA sA; obtain rfl : oA = xA := (by injection OA); have dA : oA.block ≠ eA := Nat.ne_of_lt (Nat.lt_of_lt_of_le (by have := World.block_lt_of_cell? _ _ bA; first | rwa [add_block] at this | exact this) pA.out); have cA : oA.block ≠ eA := Nat.ne_of_lt (Nat.lt_of_lt_of_le (by have := World.block_lt_of_cell? _ _ bA; first | rwa [add_block] at this | exact this) pA.out); replace bA := zw HB.out bA; replace fA := zw HB.out fA; replace bA := (cell_far (p := ⟨eA, 0, none⟩) (by first | (rw [add_block]; exact dA) | (show (Addr.add _ _).block ≠ _; rw [add_block]; exact dA) | exact dA) (.int .i64 ((rd_T49 l0 aA).f0))).trans bA; replace fA := (cell_far (p := ⟨eA, 0, none⟩) (by first | (rw [add_block]; exact dA) | (show (Addr.add _ _).block ≠ _; rw [add_block]; exact dA) | exact dA) (.int .i64 ((rd_T49 l0 aA).f0))).trans fA; replace bA := (cell_far (p := ⟨eA, 1, none⟩) (by first | (rw [add_block]; exact cA) | (show (Addr.add _ _).block ≠ _; rw [add_block]; exact cA) | exact cA) (.int .i64 ((rd_T49 l0 aA).f1))).trans bA; replace fA := (cell_far (p := ⟨eA, 1, none⟩) (by first | (rw [add_block]; exact cA) | (show (Addr.add _ _).block ≠ _; rw [add_block]; exact cA) | exact cA) (.int .i64 ((rd_T49 l0 aA).f1))).trans fA; clear dA; clear cA; replace uA := eq_true uA; replace sA := eq_true sA) | ((with_reducible refine zd 6 ?_); refine zbx (N := 6) (cs := #[.int .i64 0, .int .i64 0]) (t := 49) ?_; intro rA hg fB nA hb; have AA := zQ (nA); have yA := zgz2 hg HB.out qA.out; have zA := yA; have kA := zQ ((by rw [hg]; exact Nat.ne_of_lt (blk_lt (g := eA) (o := .cells #[.int .i64 ((rd_T49 l0 aA).f0), .int .i64 ((rd_T49 l0 aA).f1)] 49 (0, 0)) (by refine zb ?_; refine blk_put (cs := #[.int .i64 ((rd_T49 l0 aA).f0), .int .i64 0]) ?_ 1 _ rfl; refine zb ?_; refine blk_put (cs := #[.int .i64 0, .int .i64 0]) ?_ 0 _ rfl; refine zb ?_; exact gA.out)) : eA ≠ rA)); have jA := zQ ((by rw [hg]; exact Nat.ne_of_gt (blk_lt (g := eA) (o := .cells #[.int .i64 ((rd_T49 l0 aA).f0), .int .i64 ((rd_T49 l0 aA).f1)] 49 (0, 0)) (by refine zb ?_; refine blk_put (cs := #[.int .i64 ((rd_T49 l0 aA).f0), .int .i64 0]) ?_ 1 _ rfl; refine zb ?_; refine blk_put (cs := #[.int .i64 0, .int .i64 0]) ?_ 0 _ rfl; refine zb ?_; exact gA.out)) : rA ≠ eA)); replace gA := zQ (blk_below (g := eA) (o := .cells #[.int .i64 ((rd_T49 l0 aA).f0), .int .i64 ((rd_T49 l0 aA).f1)] 49 (0, 0)) (by refine zb ?_; refine blk_put (cs := #[.int .i64 ((rd_T49 l0 aA).f0), .int .i64 0]) ?_ 1 _ rfl; refine zb ?_; refine blk_put (cs := #[.int .i64 0, .int .i64 0]) ?_ 0 _ rfl; refine zb ?_; exact gA.out) hb); replace HB := zbs2 HB.out qA.out hb; clear hb nA hg; have TA := jA.out; have SA := kA.out; obtain ⟨LA, KA, EA, DA⟩ := zy2 AA.out; obtain ⟨JA, IA, CA, BA⟩ := zy2 gA.out))
         go_roundg k1
         case measure => have := WA.out; omega
         case rel => exact ⟨(wrap64 (lA + (wrap64 ((wrap64 (((rd_T49 l0 aA).f0) * ((rd_T49 l0 (mA)).f1))) - (wrap64 (((rd_T49 l0 (mA)).f0) * ((rd_T49 l0 aA).f1))))))), (wrap64 (aA + 1)), (by first | rfl | (simp; done) | (simp only [← wA] <;> (first | rfl | simp)) | (simp [*]; done)), (zF), H', ⟨by have := WA.out; omega⟩, ⟨zB3 HB.out qA.out zA.out⟩⟩
        ·rw [if_neg c8] at H
         exact absurd H (by simp)
       ·rw [if_neg c7] at H
        exact absurd H (by simp)
     ·rw [if_neg c4] at H
      exact absurd H (by simp)
    ·rw [if_neg c3] at H
     exact absurd H (by simp)
   ·rw [if_neg c2] at H
    have QA := decide_eq_false c2; clear c2; obtain rfl := Option.some.inj H
    go_wp2
    go_ret
    exact ⟨zE, zB HB.out⟩

end
end Go.Proofs.Ytchngbjpjbahiaa.PSailw

