import Derived.Test.YtchngbjpjbahiaaGreatDoorHSailz0
namespace Go.Proofs.YtchngbjpjbahiaaGreatDoor.PSailz
noncomputable section
open Go.RowKit Go.Proofs.YtchngbjpjbahiaaGreatDoorW.PrintWords Go.Proofs.YtchngbjpjbahiaaGreatDoorW.PrintLast Go.Proofs.YtchngbjpjbahiaaGreatDoorW.PrintMore
attribute [local go_sem] max2_int min2_int max_two min_two max_three min_three max_four min_four   -- for this text's walks alone
set_option linter.unusedVariables false
set_option linter.unusedSimpArgs false
set_option maxHeartbeats 8000000
set_option maxRecDepth 100000

def spec_l00In.f (a0 : Int) (a1 : Int) (a2 : Int) : Option (Bool) := if a0 ≥ a1 then (some (decide (a0 ≤ a2))) else (some false)
theorem spec_l00In.calls (a0 : Int) (a1 : Int) (a2 : Int) (r : Bool) (w : World) (h : spec_l00In.f a0 a1 a2 = some r) :
  Calls Tryz.prog 32 #[.int .i64 a0, .int .i64 a1, .int .i64 a2] w fun e w' => e = .returned (.bool r) ∧ Drawn0 w w' := by
 have H := h; unfold spec_l00In.f at H
 clear h
 by_cases c4 : a0 ≥ a1
 ·rw [if_pos c4] at H
  have c4b0 := decide_eq_true c4; clear c4; obtain rfl := Option.some.inj H
  go_enter Tryz.func32, Tryz.ntmps32
  go_wp2
  go_ret
  exact ⟨zF, by repeat (first | exact Drawn0.refl _ | apply Drawn0.step)⟩
 ·rw [if_neg c4] at H
  have c4b0 := decide_eq_false c4; clear c4; obtain rfl := Option.some.inj H
  go_enter Tryz.func32, Tryz.ntmps32
  go_wp2
  go_ret
  exact ⟨zF, by repeat (first | exact Drawn0.refl _ | apply Drawn0.step)⟩

def spec_l13Twice.l0 : Nat → List (S47) → Int → Int → Option (Int)
 | 0, _, _, _ => none
 | k + 1, x0, x3, x4 => if x4 < (x0.length : Int) then (if (x0.length : Int) = 0 then (none) else (if 0 ≤ (Int.tmod (wrap64 (x4 + 1)) (x0.length : Int)) then (if (Int.tmod (wrap64 (x4 + 1)) (x0.length : Int)) < (x0.length : Int) then (if 0 ≤ x4 then (spec_l13Twice.l0 k x0 (wrap64 (x3 + (wrap64 ((wrap64 (((rd_T47 x0 x4).f0) * ((rd_T47 x0 (Int.tmod (wrap64 (x4 + 1)) (x0.length : Int))).f1))) - (wrap64 (((rd_T47 x0 (Int.tmod (wrap64 (x4 + 1)) (x0.length : Int))).f0) * ((rd_T47 x0 x4).f1))))))) (wrap64 (x4 + 1))) else (none)) else (none)) else (none))) else (some x3)
def spec_l13Twice.f (k : Nat) (l0 : List (S47)) : Option (Int) := spec_l13Twice.l0 k l0 0 0
theorem spec_l13Twice.calls (k : Nat) (A0 : Option Addr) (c0 : Nat) (l0 : List (S47)) (r : Int) (w : World) (hr0 : Kd.C k47 w A0 l0.length l0) (hc0 : l0.length ≤ c0) (h : spec_l13Twice.f k l0 = some r) :
  Calls Tryz.prog 34 #[.slice A0 l0.length c0] w fun e w' => e = .returned (.int .i64 r) ∧ Below w.heap.size w w' := by
 have hu47 := Tryz.underlying47
 have HR0 := zQ hr0
 have HC0 := zQ hc0
 clear hr0 hc0
 have HB := zQ (Below.refl w.heap.size w)
 have H : (spec_l13Twice.l0 k l0 0 0) = some r := h
 clear h
 have H' := zQ H
 clear H
 go_enter Tryz.func34, Tryz.ntmps34
 go_wp2
 repeat (go_quiet (fail); try go_wp2)
 go_loopg [3, 4] k (fun kq v3 v4 w' => ∃ (x3_1 : Int) (x4_1 : Int), v3 = .int .i64 x3_1 ∧ v4 = .int .i64 x4_1 ∧ Aside0 (spec_l13Twice.l0 kq l0 x3_1 x4_1 = some r) ∧ Aside0 (kq ≤ k) ∧ Aside0 (Below w.heap.size w w'))
 case atStart => exact ⟨(0), (0), (zF), (zF), H', ⟨Nat.le_refl _⟩, ⟨zB HB.out⟩⟩
 case round =>
  clear H'; obtain ⟨x3_1, x4_1, rfl, rfl, HA, HK1, HB⟩ := hrel
  cases gk with
  | zero => exact absurd HA.out (by simp [spec_l13Twice.l0])
  | succ k1 =>
   have H := HA.out; clear HA
   simp only [spec_l13Twice.l0] at H
   by_cases c2 : x4_1 < (l0.length : Int)
   ·rw [if_pos c2] at H
    have c2b0 := decide_eq_true c2; clear c2
    by_cases c3 : (l0.length : Int) = 0
    ·rw [if_pos c3] at H
     exact absurd H (by simp)
    ·rw [if_neg c3] at H
     have c3b0 : ((l0.length : Int) == 0) = false := beq_eq_false_iff_ne.mpr c3; have c3b1 : ((l0.length : Int) != 0) = true := bne_iff_ne.mpr c3
     have c3b2 : ¬ (l0 = []) := fun h_ => c3 (by rw [h_]; rfl)
     obtain ⟨ji4, hji4⟩ : ∃ j_ : Int, (Int.tmod (wrap64 (x4_1 + 1)) (l0.length : Int)) = j_ := ⟨_, rfl⟩
     replace H : (if 0 ≤ (ji4) then (if (ji4) < (l0.length : Int) then (if 0 ≤ x4_1 then (spec_l13Twice.l0 k1 l0 (wrap64 (x3_1 + (wrap64 ((wrap64 (((rd_T47 l0 x4_1).f0) * ((rd_T47 l0 (ji4)).f1))) - (wrap64 (((rd_T47 l0 (ji4)).f0) * ((rd_T47 l0 x4_1).f1))))))) (wrap64 (x4_1 + 1))) else (none)) else (none)) else (none)) = some r := by first | (rw [hji4] at H; exact H) | (simp only [hji4] at H ⊢; exact H)
     by_cases c5 : 0 ≤ (ji4)
     ·rw [if_pos c5] at H
      have c5b0 := decide_eq_true c5; clear c5
      by_cases c6 : (ji4) < (l0.length : Int)
      ·rw [if_pos c6] at H
       have c6b0 := decide_eq_true c6; clear c6
       by_cases c7 : 0 ≤ x4_1
       ·rw [if_pos c7] at H
        have c7b0 := decide_eq_true c7; clear c7; have H' := zQ H; clear H; have p295 : 0 ≤ ((ji4) : Int) := zD; have q295 : (ji4) < (l0.length : Int) := zD; obtain ⟨ad295, e295, hx295_0, hx295_1⟩ := at_T47 HR0.out (ji4) p295 q295
        cases e295
        replace hx295_0 := zw HB.out hx295_0; replace hx295_1 := zw HB.out hx295_1; replace p295 := eq_true p295; replace q295 := eq_true q295
        go_wp2_with (first | ((with_reducible refine zd 5 ?_); refine zbx (N := 5) (cs := #[.int .i64 0, .int .i64 0]) (t := 47) ?_; intro gb296 hg w8 hbox hb; have BK296 := zQ (hbox); have GW296 := zgz hg HB.out; have GE296 := GW296; replace HB := zbs HB.out hb; clear hb hbox hg; obtain ⟨hcz9_0, hcz9_1, hfz9_0, hfz9_1⟩ := zy2 BK296.out; have p297 : 0 ≤ (x4_1 : Int) := zD; have q297 : x4_1 < (l0.length : Int) := zD; obtain ⟨ad297, e297, hx297_0, hx297_1⟩ := at_T47 HR0.out x4_1 p297 q297; obtain rfl : ad295 = ad297 := (by injection e297); have hn297_0 : ad295.block ≠ gb296 := Nat.ne_of_lt (Nat.lt_of_lt_of_le (by have := World.block_lt_of_cell? _ _ hx297_0; first | rwa [add_block] at this | exact this) GW296.out); have hn297_1 : ad295.block ≠ gb296 := Nat.ne_of_lt (Nat.lt_of_lt_of_le (by have := World.block_lt_of_cell? _ _ hx297_0; first | rwa [add_block] at this | exact this) GW296.out); replace hx297_0 := zw HB.out hx297_0; replace hx297_1 := zw HB.out hx297_1; replace hx297_0 := (cell_far (p := ⟨gb296, 0, none⟩) (by first | (rw [add_block]; exact hn297_0) | (show (Addr.add _ _).block ≠ _; rw [add_block]; exact hn297_0) | exact hn297_0) (.int .i64 ((rd_T47 l0 (ji4)).f0))).trans hx297_0; replace hx297_1 := (cell_far (p := ⟨gb296, 0, none⟩) (by first | (rw [add_block]; exact hn297_0) | (show (Addr.add _ _).block ≠ _; rw [add_block]; exact hn297_0) | exact hn297_0) (.int .i64 ((rd_T47 l0 (ji4)).f0))).trans hx297_1; replace hx297_0 := (cell_far (p := ⟨gb296, 1, none⟩) (by first | (rw [add_block]; exact hn297_1) | (show (Addr.add _ _).block ≠ _; rw [add_block]; exact hn297_1) | exact hn297_1) (.int .i64 ((rd_T47 l0 (ji4)).f1))).trans hx297_0; replace hx297_1 := (cell_far (p := ⟨gb296, 1, none⟩) (by first | (rw [add_block]; exact hn297_1) | (show (Addr.add _ _).block ≠ _; rw [add_block]; exact hn297_1) | exact hn297_1) (.int .i64 ((rd_T47 l0 (ji4)).f1))).trans hx297_1; (try have hy297_0 := fun (n_ : Nat) => (show ((((w8.drewN n_).setCell ⟨gb296, 0, none⟩ (.int .i64 ((rd_T47 l0 (ji4)).f0))).setCell ⟨gb296, 1, none⟩ (.int .i64 ((rd_T47 l0 (ji4)).f1)))).cell? _ = some _ from hx297_0)); (try have hy297_1 := fun (n_ : Nat) => (show ((((w8.drewN n_).setCell ⟨gb296, 0, none⟩ (.int .i64 ((rd_T47 l0 (ji4)).f0))).setCell ⟨gb296, 1, none⟩ (.int .i64 ((rd_T47 l0 (ji4)).f1)))).cell? _ = some _ from hx297_1)); clear hn297_0; clear hn297_1; replace p297 := eq_true p297; replace q297 := eq_true q297; have p298 : 0 ≤ (x4_1 : Int) := zD; have q298 : x4_1 < (l0.length : Int) := zD; obtain ⟨ad298, e298, hx298_0, hx298_1⟩ := at_T47 HR0.out x4_1 p298 q298; obtain rfl : ad295 = ad298 := (by injection e298); have hn298_0 : ad295.block ≠ gb296 := Nat.ne_of_lt (Nat.lt_of_lt_of_le (by have := World.block_lt_of_cell? _ _ hx298_0; first | rwa [add_block] at this | exact this) GW296.out); have hn298_1 : ad295.block ≠ gb296 := Nat.ne_of_lt (Nat.lt_of_lt_of_le (by have := World.block_lt_of_cell? _ _ hx298_0; first | rwa [add_block] at this | exact this) GW296.out); replace hx298_0 := zw HB.out hx298_0; replace hx298_1 := zw HB.out hx298_1; replace hx298_0 := (cell_far (p := ⟨gb296, 0, none⟩) (by first | (rw [add_block]; exact hn298_0) | (show (Addr.add _ _).block ≠ _; rw [add_block]; exact hn298_0) | exact hn298_0) (.int .i64 ((rd_T47 l0 (ji4)).f0))).trans hx298_0; replace hx298_1 := (cell_far (p := ⟨gb296, 0, none⟩) (by first | (rw [add_block]; exact hn298_0) | (show (Addr.add _ _).block ≠ _; rw [add_block]; exact hn298_0) | exact hn298_0) (.int .i64 ((rd_T47 l0 (ji4)).f0))).trans hx298_1; replace hx298_0 := (cell_far (p := ⟨gb296, 1, none⟩) (by first | (rw [add_block]; exact hn298_1) | (show (Addr.add _ _).block ≠ _; rw [add_block]; exact hn298_1) | exact hn298_1) (.int .i64 ((rd_T47 l0 (ji4)).f1))).trans hx298_0; replace hx298_1 := (cell_far (p := ⟨gb296, 1, none⟩) (by first | (rw [add_block]; exact hn298_1) | (show (Addr.add _ _).block ≠ _; rw [add_block]; exact hn298_1) | exact hn298_1) (.int .i64 ((rd_T47 l0 (ji4)).f1))).trans hx298_1; (try have hy298_0 := fun (n_ : Nat) => (show ((((w8.drewN n_).setCell ⟨gb296, 0, none⟩ (.int .i64 ((rd_T47 l0 (ji4)).f0))).setCell ⟨gb296, 1, none⟩ (.int .i64 ((rd_T47 l0 (ji4)).f1)))).cell? _ = some _ from hx298_0)); (try have hy298_1 := fun (n_ : Nat) => (show ((((w8.drewN n_).setCell ⟨gb296, 0, none⟩ (.int .i64 ((rd_T47 l0 (ji4)).f0))).setCell ⟨gb296, 1, none⟩ (.int .i64 ((rd_T47 l0 (ji4)).f1)))).cell? _ = some _ from hx298_1)); clear hn298_0; clear hn298_1; replace p298 := eq_true p298; replace q298 := eq_true q298))
        repeat (go_quiet (first | ((with_reducible refine zd 5 ?_); refine zbx (N := 5) (cs := #[.int .i64 0, .int .i64 0]) (t := 47) ?_; intro gb296 hg w8 hbox hb; have BK296 := zQ (hbox); have GW296 := zgz hg HB.out; have GE296 := GW296; replace HB := zbs HB.out hb; clear hb hbox hg; obtain ⟨hcz9_0, hcz9_1, hfz9_0, hfz9_1⟩ := zy2 BK296.out; have p297 : 0 ≤ (x4_1 : Int) := zD; have q297 : x4_1 < (l0.length : Int) := zD; obtain ⟨ad297, e297, hx297_0, hx297_1⟩ := at_T47 HR0.out x4_1 p297 q297; obtain rfl : ad295 = ad297 := (by injection e297); have hn297_0 : ad295.block ≠ gb296 := Nat.ne_of_lt (Nat.lt_of_lt_of_le (by have := World.block_lt_of_cell? _ _ hx297_0; first | rwa [add_block] at this | exact this) GW296.out); have hn297_1 : ad295.block ≠ gb296 := Nat.ne_of_lt (Nat.lt_of_lt_of_le (by have := World.block_lt_of_cell? _ _ hx297_0; first | rwa [add_block] at this | exact this) GW296.out); replace hx297_0 := zw HB.out hx297_0; replace hx297_1 := zw HB.out hx297_1; replace hx297_0 := (cell_far (p := ⟨gb296, 0, none⟩) (by first | (rw [add_block]; exact hn297_0) | (show (Addr.add _ _).block ≠ _; rw [add_block]; exact hn297_0) | exact hn297_0) (.int .i64 ((rd_T47 l0 (ji4)).f0))).trans hx297_0; replace hx297_1 := (cell_far (p := ⟨gb296, 0, none⟩) (by first | (rw [add_block]; exact hn297_0) | (show (Addr.add _ _).block ≠ _; rw [add_block]; exact hn297_0) | exact hn297_0) (.int .i64 ((rd_T47 l0 (ji4)).f0))).trans hx297_1; replace hx297_0 := (cell_far (p := ⟨gb296, 1, none⟩) (by first | (rw [add_block]; exact hn297_1) | (show (Addr.add _ _).block ≠ _; rw [add_block]; exact hn297_1) | exact hn297_1) (.int .i64 ((rd_T47 l0 (ji4)).f1))).trans hx297_0; replace hx297_1 := (cell_far (p := ⟨gb296, 1, none⟩) (by first | (rw [add_block]; exact hn297_1) | (show (Addr.add _ _).block ≠ _; rw [add_block]; exact hn297_1) | exact hn297_1) (.int .i64 ((rd_T47 l0 (ji4)).f1))).trans hx297_1; (try have hy297_0 := fun (n_ : Nat) => (show ((((w8.drewN n_).setCell ⟨gb296, 0, none⟩ (.int .i64 ((rd_T47 l0 (ji4)).f0))).setCell ⟨gb296, 1, none⟩ (.int .i64 ((rd_T47 l0 (ji4)).f1)))).cell? _ = some _ from hx297_0)); (try have hy297_1 := fun (n_ : Nat) => (show ((((w8.drewN n_).setCell ⟨gb296, 0, none⟩ (.int .i64 ((rd_T47 l0 (ji4)).f0))).setCell ⟨gb296, 1, none⟩ (.int .i64 ((rd_T47 l0 (ji4)).f1)))).cell? _ = some _ from hx297_1)); clear hn297_0; clear hn297_1; replace p297 := eq_true p297; replace q297 := eq_true q297; have p298 : 0 ≤ (x4_1 : Int) := zD; have q298 : x4_1 < (l0.length : Int) := zD; obtain ⟨ad298, e298, hx298_0, hx298_1⟩ := at_T47 HR0.out x4_1 p298 q298; obtain rfl : ad295 = ad298 := (by injection e298); have hn298_0 : ad295.block ≠ gb296 := Nat.ne_of_lt (Nat.lt_of_lt_of_le (by have := World.block_lt_of_cell? _ _ hx298_0; first | rwa [add_block] at this | exact this) GW296.out); have hn298_1 : ad295.block ≠ gb296 := Nat.ne_of_lt (Nat.lt_of_lt_of_le (by have := World.block_lt_of_cell? _ _ hx298_0; first | rwa [add_block] at this | exact this) GW296.out); replace hx298_0 := zw HB.out hx298_0; replace hx298_1 := zw HB.out hx298_1; replace hx298_0 := (cell_far (p := ⟨gb296, 0, none⟩) (by first | (rw [add_block]; exact hn298_0) | (show (Addr.add _ _).block ≠ _; rw [add_block]; exact hn298_0) | exact hn298_0) (.int .i64 ((rd_T47 l0 (ji4)).f0))).trans hx298_0; replace hx298_1 := (cell_far (p := ⟨gb296, 0, none⟩) (by first | (rw [add_block]; exact hn298_0) | (show (Addr.add _ _).block ≠ _; rw [add_block]; exact hn298_0) | exact hn298_0) (.int .i64 ((rd_T47 l0 (ji4)).f0))).trans hx298_1; replace hx298_0 := (cell_far (p := ⟨gb296, 1, none⟩) (by first | (rw [add_block]; exact hn298_1) | (show (Addr.add _ _).block ≠ _; rw [add_block]; exact hn298_1) | exact hn298_1) (.int .i64 ((rd_T47 l0 (ji4)).f1))).trans hx298_0; replace hx298_1 := (cell_far (p := ⟨gb296, 1, none⟩) (by first | (rw [add_block]; exact hn298_1) | (show (Addr.add _ _).block ≠ _; rw [add_block]; exact hn298_1) | exact hn298_1) (.int .i64 ((rd_T47 l0 (ji4)).f1))).trans hx298_1; (try have hy298_0 := fun (n_ : Nat) => (show ((((w8.drewN n_).setCell ⟨gb296, 0, none⟩ (.int .i64 ((rd_T47 l0 (ji4)).f0))).setCell ⟨gb296, 1, none⟩ (.int .i64 ((rd_T47 l0 (ji4)).f1)))).cell? _ = some _ from hx298_0)); (try have hy298_1 := fun (n_ : Nat) => (show ((((w8.drewN n_).setCell ⟨gb296, 0, none⟩ (.int .i64 ((rd_T47 l0 (ji4)).f0))).setCell ⟨gb296, 1, none⟩ (.int .i64 ((rd_T47 l0 (ji4)).f1)))).cell? _ = some _ from hx298_1)); clear hn298_0; clear hn298_1; replace p298 := eq_true p298; replace q298 := eq_true q298)); try go_wp2_with (first | ((with_reducible refine zd 5 ?_); refine zbx (N := 5) (cs := #[.int .i64 0, .int .i64 0]) (t := 47) ?_; intro gb296 hg w8 hbox hb; have BK296 := zQ (hbox); have GW296 := zgz hg HB.out; have GE296 := GW296; replace HB := zbs HB.out hb; clear hb hbox hg; obtain ⟨hcz9_0, hcz9_1, hfz9_0, hfz9_1⟩ := zy2 BK296.out; have p297 : 0 ≤ (x4_1 : Int) := zD; have q297 : x4_1 < (l0.length : Int) := zD; obtain ⟨ad297, e297, hx297_0, hx297_1⟩ := at_T47 HR0.out x4_1 p297 q297; obtain rfl : ad295 = ad297 := (by injection e297); have hn297_0 : ad295.block ≠ gb296 := Nat.ne_of_lt (Nat.lt_of_lt_of_le (by have := World.block_lt_of_cell? _ _ hx297_0; first | rwa [add_block] at this | exact this) GW296.out); have hn297_1 : ad295.block ≠ gb296 := Nat.ne_of_lt (Nat.lt_of_lt_of_le (by have := World.block_lt_of_cell? _ _ hx297_0; first | rwa [add_block] at this | exact this) GW296.out); replace hx297_0 := zw HB.out hx297_0; replace hx297_1 := zw HB.out hx297_1; replace hx297_0 := (cell_far (p := ⟨gb296, 0, none⟩) (by first | (rw [add_block]; exact hn297_0) | (show (Addr.add _ _).block ≠ _; rw [add_block]; exact hn297_0) | exact hn297_0) (.int .i64 ((rd_T47 l0 (ji4)).f0))).trans hx297_0; replace hx297_1 := (cell_far (p := ⟨gb296, 0, none⟩) (by first | (rw [add_block]; exact hn297_0) | (show (Addr.add _ _).block ≠ _; rw [add_block]; exact hn297_0) | exact hn297_0) (.int .i64 ((rd_T47 l0 (ji4)).f0))).trans hx297_1; replace hx297_0 := (cell_far (p := ⟨gb296, 1, none⟩) (by first | (rw [add_block]; exact hn297_1) | (show (Addr.add _ _).block ≠ _; rw [add_block]; exact hn297_1) | exact hn297_1) (.int .i64 ((rd_T47 l0 (ji4)).f1))).trans hx297_0; replace hx297_1 := (cell_far (p := ⟨gb296, 1, none⟩) (by first | (rw [add_block]; exact hn297_1) | (show (Addr.add _ _).block ≠ _; rw [add_block]; exact hn297_1) | exact hn297_1) (.int .i64 ((rd_T47 l0 (ji4)).f1))).trans hx297_1; (try have hy297_0 := fun (n_ : Nat) => (show ((((w8.drewN n_).setCell ⟨gb296, 0, none⟩ (.int .i64 ((rd_T47 l0 (ji4)).f0))).setCell ⟨gb296, 1, none⟩ (.int .i64 ((rd_T47 l0 (ji4)).f1)))).cell? _ = some _ from hx297_0)); (try have hy297_1 := fun (n_ : Nat) => (show ((((w8.drewN n_).setCell ⟨gb296, 0, none⟩ (.int .i64 ((rd_T47 l0 (ji4)).f0))).setCell ⟨gb296, 1, none⟩ (.int .i64 ((rd_T47 l0 (ji4)).f1)))).cell? _ = some _ from hx297_1)); clear hn297_0; clear hn297_1; replace p297 := eq_true p297; replace q297 := eq_true q297; have p298 : 0 ≤ (x4_1 : Int) := zD; have q298 : x4_1 < (l0.length : Int) := zD; obtain ⟨ad298, e298, hx298_0, hx298_1⟩ := at_T47 HR0.out x4_1 p298 q298; obtain rfl : ad295 = ad298 := (by injection e298); have hn298_0 : ad295.block ≠ gb296 := Nat.ne_of_lt (Nat.lt_of_lt_of_le (by have := World.block_lt_of_cell? _ _ hx298_0; first | rwa [add_block] at this | exact this) GW296.out); have hn298_1 : ad295.block ≠ gb296 := Nat.ne_of_lt (Nat.lt_of_lt_of_le (by have := World.block_lt_of_cell? _ _ hx298_0; first | rwa [add_block] at this | exact this) GW296.out); replace hx298_0 := zw HB.out hx298_0; replace hx298_1 := zw HB.out hx298_1; replace hx298_0 := (cell_far (p := ⟨gb296, 0, none⟩) (by first | (rw [add_block]; exact hn298_0) | (show (Addr.add _ _).block ≠ _; rw [add_block]; exact hn298_0) | exact hn298_0) (.int .i64 ((rd_T47 l0 (ji4)).f0))).trans hx298_0; replace hx298_1 := (cell_far (p := ⟨gb296, 0, none⟩) (by first | (rw [add_block]; exact hn298_0) | (show (Addr.add _ _).block ≠ _; rw [add_block]; exact hn298_0) | exact hn298_0) (.int .i64 ((rd_T47 l0 (ji4)).f0))).trans hx298_1; replace hx298_0 := (cell_far (p := ⟨gb296, 1, none⟩) (by first | (rw [add_block]; exact hn298_1) | (show (Addr.add _ _).block ≠ _; rw [add_block]; exact hn298_1) | exact hn298_1) (.int .i64 ((rd_T47 l0 (ji4)).f1))).trans hx298_0; replace hx298_1 := (cell_far (p := ⟨gb296, 1, none⟩) (by first | (rw [add_block]; exact hn298_1) | (show (Addr.add _ _).block ≠ _; rw [add_block]; exact hn298_1) | exact hn298_1) (.int .i64 ((rd_T47 l0 (ji4)).f1))).trans hx298_1; (try have hy298_0 := fun (n_ : Nat) => (show ((((w8.drewN n_).setCell ⟨gb296, 0, none⟩ (.int .i64 ((rd_T47 l0 (ji4)).f0))).setCell ⟨gb296, 1, none⟩ (.int .i64 ((rd_T47 l0 (ji4)).f1)))).cell? _ = some _ from hx298_0)); (try have hy298_1 := fun (n_ : Nat) => (show ((((w8.drewN n_).setCell ⟨gb296, 0, none⟩ (.int .i64 ((rd_T47 l0 (ji4)).f0))).setCell ⟨gb296, 1, none⟩ (.int .i64 ((rd_T47 l0 (ji4)).f1)))).cell? _ = some _ from hx298_1)); clear hn298_0; clear hn298_1; replace p298 := eq_true p298; replace q298 := eq_true q298)))
        go_roundg k1
        case measure => have := HK1.out; omega
        case rel => exact ⟨(wrap64 (x3_1 + (wrap64 ((wrap64 (((rd_T47 l0 x4_1).f0) * ((rd_T47 l0 (ji4)).f1))) - (wrap64 (((rd_T47 l0 (ji4)).f0) * ((rd_T47 l0 x4_1).f1))))))), (wrap64 (x4_1 + 1)), (by first | rfl | (simp; done) | (simp only [← hji4] <;> (first | rfl | simp)) | (simp [*]; done)), (zF), H', ⟨by have := HK1.out; omega⟩, ⟨zB2 HB.out GE296.out⟩⟩
       ·rw [if_neg c7] at H
        exact absurd H (by simp)
      ·rw [if_neg c6] at H
       exact absurd H (by simp)
     ·rw [if_neg c5] at H
      exact absurd H (by simp)
   ·rw [if_neg c2] at H
    have c2b0 := decide_eq_false c2; clear c2; obtain rfl := Option.some.inj H
    go_wp2
    repeat (go_quiet (fail); try go_wp2)
    go_ret
    exact ⟨zE, zB HB.out⟩

def spec_l13Cross.f (a0_0 : Int) (a0_1 : Int) (a1_0 : Int) (a1_1 : Int) (a2_0 : Int) (a2_1 : Int) : Option (Int) := some (wrap64 ((wrap64 ((wrap64 (a1_0 - a0_0)) * (wrap64 (a2_1 - a0_1)))) - (wrap64 ((wrap64 (a1_1 - a0_1)) * (wrap64 (a2_0 - a0_0))))))
theorem spec_l13Cross.calls (a0_0 : Int) (a0_1 : Int) (a1_0 : Int) (a1_1 : Int) (a2_0 : Int) (a2_1 : Int) (r : Int) (w : World) (h : spec_l13Cross.f a0_0 a0_1 a1_0 a1_1 a2_0 a2_1 = some r) :
  Calls Tryz.prog 52 #[.agg #[.int .i64 a0_0, .int .i64 a0_1], .agg #[.int .i64 a1_0, .int .i64 a1_1], .agg #[.int .i64 a2_0, .int .i64 a2_1]] w fun e w' => e = .returned (.int .i64 r) ∧ Below w.heap.size w w' := by
 have hu47 := Tryz.underlying47
 have HB := zQ (Below.refl w.heap.size w)
 have H := h; unfold spec_l13Cross.f at H
 clear h
 obtain rfl := Option.some.inj H
 go_enter Tryz.func52, Tryz.ntmps52
 go_wp2_with (first | ((with_reducible refine zd 3 ?_); refine zbx (N := 3) (cs := #[.int .i64 a0_0, .int .i64 a0_1]) (t := 47) ?_; intro gb299 hg w4 hbox hb; have BK299 := zQ (hbox); have GW299 := zgz hg HB.out; have GE299 := GW299; replace HB := zbs HB.out hb; clear hb hbox hg) | ((with_reducible refine zd 4 ?_); refine zbx (N := 4) (cs := #[.int .i64 a1_0, .int .i64 a1_1]) (t := 47) ?_; intro gb300 hg w5 hbox hb; have BK300 := zQ (hbox); have GW300 := zgz2 hg HB.out GE299.out; have GE300 := GW300; have NB299_300 := zn1 hg BK299.out; have NB300_299 := zn2 hg BK299.out; replace BK299 := zbl BK299.out hb; replace HB := zbs2 HB.out GE299.out hb; clear hb hbox hg) | ((with_reducible refine zd 5 ?_); refine zbx (N := 5) (cs := #[.int .i64 a2_0, .int .i64 a2_1]) (t := 47) ?_; intro gb301 hg w6 hbox hb; have BK301 := zQ (hbox); have GW301 := zQ ((by rw [hg]; exact (below_size (zB3 HB.out GE299.out GE300.out)) : w.heap.size ≤ gb301)); have GE301 := zQ ((by rw [hg]; exact (below_size (zB3 HB.out GE299.out GE300.out)) : w.heap.size ≤ gb301)); have NB299_301 := zn1 hg BK299.out; have NB301_299 := zn2 hg BK299.out; have NB300_301 := zn1 hg BK300.out; have NB301_300 := zn2 hg BK300.out; replace BK299 := zbl BK299.out hb; replace BK300 := zbl BK300.out hb; replace HB := zQ (below_step (zB3 HB.out GE299.out GE300.out) hb); clear hb hbox hg; have hnb7 := NB300_299.out; have hnc7 := NB299_300.out; have hnb8 := NB300_301.out; have hnc8 := NB301_300.out; obtain ⟨hcz9_0, hcz9_1, hfz9_0, hfz9_1⟩ := zy2 BK300.out; have hnb10 := NB299_301.out; have hnc10 := NB301_299.out; obtain ⟨hcz11_0, hcz11_1, hfz11_0, hfz11_1⟩ := zy2 BK299.out; obtain ⟨hcz12_0, hcz12_1, hfz12_0, hfz12_1⟩ := zy2 BK301.out))
 go_ret
 exact ⟨zE, by repeat (first | (with_reducible first | exact HB.out | apply below_alloc | apply pw_below_drewN | apply below_drew1 | refine below_set ?_ GE299.out | refine below_set ?_ GE300.out | refine below_set ?_ GE301.out) | exact HB.out)⟩

def spec_l00Min.f (a0 : Int) (a1 : Int) : Option (Int) := if a0 < a1 then (some a0) else (some a1)
theorem spec_l00Min.calls (a0 : Int) (a1 : Int) (r : Int) (w : World) (h : spec_l00Min.f a0 a1 = some r) :
  Calls Tryz.prog 79 #[.int .i64 a0, .int .i64 a1] w fun e w' => e = .returned (.int .i64 r) ∧ Drawn0 w w' := by
 have H : (if a0 < a1 then (some a0) else (some a1)) = some r := h
 clear h
 by_cases c3 : a0 < a1
 ·rw [if_pos c3] at H
  have c3b0 := decide_eq_true c3; clear c3; obtain rfl := Option.some.inj H
  go_enter Tryz.func79, Tryz.ntmps79
  go_wp2
  go_ret
  exact ⟨zF, by repeat (first | exact Drawn0.refl _ | apply Drawn0.step)⟩
 ·rw [if_neg c3] at H
  have c3b0 := decide_eq_false c3; clear c3; obtain rfl := Option.some.inj H
  go_enter Tryz.func79, Tryz.ntmps79
  go_wp2
  go_ret
  exact ⟨zF, by repeat (first | exact Drawn0.refl _ | apply Drawn0.step)⟩

def spec_l00Max.f (a0 : Int) (a1 : Int) : Option (Int) := if a0 > a1 then (some a0) else (some a1)
theorem spec_l00Max.calls (a0 : Int) (a1 : Int) (r : Int) (w : World) (h : spec_l00Max.f a0 a1 = some r) :
  Calls Tryz.prog 80 #[.int .i64 a0, .int .i64 a1] w fun e w' => e = .returned (.int .i64 r) ∧ Drawn0 w w' := by
 have H : (if a0 > a1 then (some a0) else (some a1)) = some r := h
 clear h
 by_cases c3 : a0 > a1
 ·rw [if_pos c3] at H
  have c3b0 := decide_eq_true c3; clear c3; obtain rfl := Option.some.inj H
  go_enter Tryz.func80, Tryz.ntmps80
  go_wp2
  go_ret
  exact ⟨zF, by repeat (first | exact Drawn0.refl _ | apply Drawn0.step)⟩
 ·rw [if_neg c3] at H
  have c3b0 := decide_eq_false c3; clear c3; obtain rfl := Option.some.inj H
  go_enter Tryz.func80, Tryz.ntmps80
  go_wp2
  go_ret
  exact ⟨zF, by repeat (first | exact Drawn0.refl _ | apply Drawn0.step)⟩

def spec_l13On.f (a0_0 : Int) (a0_1 : Int) (a1_0 : Int) (a1_1 : Int) (a2_0 : Int) (a2_1 : Int) : Option (Bool) := (spec_l13Cross.f a0_0 a0_1 a1_0 a1_1 a2_0 a2_1).bind fun t305 => (if t305 = 0 then ((spec_l00Min.f a0_0 a1_0).bind fun t306 => ((spec_l00Max.f a0_0 a1_0).bind fun t307 => ((spec_l00In.f a2_0 t306 t307).bind fun t308 => (if t308 = true then ((spec_l00Min.f a0_1 a1_1).bind fun t309 => ((spec_l00Max.f a0_1 a1_1).bind fun t310 => ((spec_l00In.f a2_1 t309 t310).bind fun t311 => (some t311)))) else (some false))))) else (some false))
def spec_l13On.T1 : Bool × List (List Nat × List Nat) := (true, [([], []), ([], []), ([], []), ([0, 1, 2], [0, 1, 2]), ([3], [3]), ([4, 3], [4]), ([5], [5]), ([6, 5], [5, 6]), ([5], [5]), ([8, 5], [5, 8]), ([5], [5]), ([10, 5], [5, 10]), ([9, 11, 5, 5], [5, 9, 11]), ([5], [5]), ([13, 5], [5, 13]), ([5], [5]), ([15, 5], [5, 15]), ([14, 16, 12, 5], [5, 14, 16]), ([7, 12, 17, 17, 5], [5, 7, 12, 17]), ([5, 18], [5, 18]), ([19, 18], [19]), ([20], [20]), ([21, 20], [20, 21]), ([20], [20]), ([23, 20], [20, 23]), ([20], [20]), ([25, 20], [20, 25]), ([24, 26, 20, 20], [20, 24, 26]), ([20], [20]), ([28, 20], [20, 28]), ([20], [20]), ([30, 20], [20, 30]), ([29, 31, 27, 20], [20, 29, 31]), ([22, 27, 32, 32, 20], [20, 22, 27, 32]), ([20, 33], [20, 33]), ([34, 33, 0, 1, 2, 3, 4, 5, 6, 7, 8, 9, 10, 11, 12, 13, 14, 15, 16, 17, 18, 19, 20, 21, 22, 23, 24, 25, 26, 27, 28, 29, 30, 31, 32, 33, 34], [34])])
def spec_l13On.B1 : List Nat := [0, 0, 0, 7, 15, 31, 63, 127, 63, 319, 63, 1087, 3903, 63, 8255, 63, 32831, 130879, 262143, 524287, 1048575, 2097151, 4194303, 2097151, 10485759, 2097151, 35651583, 127926271, 2097151, 270532607, 2097151, 1075838975, 4288675839, 8589934591, 17179869183, 34359738367]
theorem spec_l13On.tab1 : rtab .any (opsOf Tryz.f69 1) = spec_l13On.T1 := by kernel_rfl
theorem spec_l13On.bits1 : waitsOk spec_l13On.T1.2 spec_l13On.B1 = true := by kernel_rfl
theorem spec_l13On.calls (a0_0 : Int) (a0_1 : Int) (a1_0 : Int) (a1_1 : Int) (a2_0 : Int) (a2_1 : Int) (r : Bool) (w : World) (h : spec_l13On.f a0_0 a0_1 a1_0 a1_1 a2_0 a2_1 = some r) :
  Calls Tryz.prog 69 #[.agg #[.int .i64 a0_0, .int .i64 a0_1], .agg #[.int .i64 a1_0, .int .i64 a1_1], .agg #[.int .i64 a2_0, .int .i64 a2_1]] w fun e w' => e = .returned (.bool r) ∧ Below w.heap.size w w' := by
 have hu47 := Tryz.underlying47
 have HB := zQ (Below.refl w.heap.size w)
 have H := h; unfold spec_l13On.f at H
 clear h
 replace H := zob H; obtain ⟨t305, A4, H⟩ := H
 by_cases c5 : t305 = 0
 ·rw [if_pos c5] at H
  have c5b0 : (t305 == 0) = true := beq_iff_eq.mpr c5; have c5b1 : (t305 != 0) = false := bne_eq_false_iff_eq.mpr c5; clear c5; replace H := zob H; obtain ⟨t306, A6, H⟩ := H; replace H := zob H; obtain ⟨t307, A7, H⟩ := H; replace H := zob H; obtain ⟨t308, A8, H⟩ := H
  by_cases c9 : t308 = true
  ·subst c9
   rw [if_pos rfl] at H; replace H := zob H; obtain ⟨t309, A10, H⟩ := H; replace H := zob H; obtain ⟨t310, A11, H⟩ := H; replace H := zob H; obtain ⟨t311, A12, H⟩ := H; obtain rfl := Option.some.inj H
   go_enter Tryz.func69, Tryz.ntmps69
   try go_wp2_with (first | ((with_reducible refine zd 3 ?_); refine zbx (N := 3) (cs := #[.int .i64 a0_0, .int .i64 a0_1]) (t := 47) ?_; intro gb302 hg w13 hbox hb; have BK302 := zQ (hbox); have GW302 := zgz hg HB.out; have GE302 := GW302; replace HB := zbs HB.out hb; clear hb hbox hg) | ((with_reducible refine zd 4 ?_); refine zbx (N := 4) (cs := #[.int .i64 a1_0, .int .i64 a1_1]) (t := 47) ?_; intro gb303 hg w14 hbox hb; have BK303 := zQ (hbox); have GW303 := zgz2 hg HB.out GE302.out; have GE303 := GW303; have NB302_303 := zn1 hg BK302.out; have NB303_302 := zn2 hg BK302.out; replace BK302 := zbl BK302.out hb; replace HB := zbs2 HB.out GE302.out hb; clear hb hbox hg) | ((with_reducible refine zd 5 ?_); refine zbx (N := 5) (cs := #[.int .i64 a2_0, .int .i64 a2_1]) (t := 47) ?_; intro gb304 hg w15 hbox hb; have BK304 := zQ (hbox); have GW304 := zQ ((by rw [hg]; exact (below_size (zB3 HB.out GE302.out GE303.out)) : w.heap.size ≤ gb304)); have GE304 := zQ ((by rw [hg]; exact (below_size (zB3 HB.out GE302.out GE303.out)) : w.heap.size ≤ gb304)); have NB302_304 := zn1 hg BK302.out; have NB304_302 := zn2 hg BK302.out; have NB303_304 := zn1 hg BK303.out; have NB304_303 := zn2 hg BK303.out; replace BK302 := zbl BK302.out hb; replace BK303 := zbl BK303.out hb; replace HB := zQ (below_step (zB3 HB.out GE302.out GE303.out) hb); clear hb hbox hg))
   have n0_ := zQ (blk_drew BK302.out); have n1_ := zQ (blk_drew BK303.out); have n2_ := zQ (blk_drew BK304.out); have n3_ := zQ (below_drew1 HB.out); clear BK302; clear BK303; clear BK304; clear HB; have BK302 := n0_; have BK303 := n1_; have BK304 := n2_; have HB := n3_; clear n0_ n1_ n2_ n3_
   refine zs (fun w' => w'.cell? ⟨gb302, 0, none⟩ = some (.int .i64 a0_0) ∧ w'.cell? ⟨gb302, 1, none⟩ = some (.int .i64 a0_1) ∧ w'.cell? ⟨gb303, 0, none⟩ = some (.int .i64 a1_0) ∧ w'.cell? ⟨gb303, 1, none⟩ = some (.int .i64 a1_1) ∧ w'.cell? ⟨gb304, 0, none⟩ = some (.int .i64 a2_0) ∧ w'.cell? ⟨gb304, 1, none⟩ = some (.int .i64 a2_1)) [] 36 ⟨(blk_cell BK302.out 0).trans rfl, (blk_cell BK302.out 1).trans rfl, (blk_cell BK303.out 0).trans rfl, (blk_cell BK303.out 1).trans rfl, (blk_cell BK304.out 0).trans rfl, (blk_cell BK304.out 1).trans rfl⟩ (fun hHeld => ?_); refine with_tabW spec_l13On.tab1 spec_l13On.bits1 (fun HT_ HW_ => ?_)
   generalize w15.drew = w16 at BK302 BK303 BK304 HB hHeld ⊢
   refine zt 0 7 hHeld ?_
   refine zt 1 8 hHeld ?_
   refine zt 2 9 hHeld ?_
   refine zo 3 (some 10) (fun K hK => ?_)
   refine goes_ Tryz.func52 (by kernel_rfl) rfl #[.agg #[.int .i64 a0_0, .int .i64 a0_1], .agg #[.int .i64 a1_0, .int .i64 a1_1], .agg #[.int .i64 a2_0, .int .i64 a2_1]] (by rfl) rfl rfl zM ?_
   with_reducible refine (spec_l13Cross.calls a0_0 a0_1 a1_0 a1_1 a2_0 a2_1 t305 _ A4.out).mono ?_
   rintro e w17 ⟨rfl, hb⟩
   refine ⟨_, rfl, ?_⟩
   have n0_ := zbl BK302.out hb; have n1_ := zbl BK303.out hb; have n2_ := zbl BK304.out hb; have n3_ := zQ (below_step (by repeat (first | (with_reducible first | exact HB.out | apply below_alloc | apply pw_below_drewN | apply below_drew1 | refine below_set ?_ GE302.out | refine below_set ?_ GE303.out | refine below_set ?_ GE304.out) | exact HB.out)) hb); clear BK302; clear BK303; clear BK304; clear HB; have BK302 := n0_; have BK303 := n1_; have BK304 := n2_; have HB := n3_; clear n0_ n1_ n2_ n3_
   (try clear hb)
   (try clear hb2)
   (try clear hk)
   (try clear hi)
   refine hK.out _ _ ⟨(blk_cell BK302.out 0).trans rfl, (blk_cell BK302.out 1).trans rfl, (blk_cell BK303.out 0).trans rfl, (blk_cell BK303.out 1).trans rfl, (blk_cell BK304.out 0).trans rfl, (blk_cell BK304.out 1).trans rfl⟩ (fun hHeld => ?_)
   clear hK K
   refine zn 10 ?_
   refine zp 4 11 ?_
   refine zp 5 12 ?_
   refine zp 6 13 ?_
   refine zp 8 15 ?_
   refine zp 10 17 ?_
   refine zp 13 20 ?_
   refine zp 15 22 ?_
   refine zt 7 14 hHeld ?_
   refine zt 9 16 hHeld ?_
   refine zt 11 18 hHeld ?_
   refine zt 14 21 hHeld ?_
   refine zt 16 23 hHeld ?_
   refine zo 12 (some 19) (fun K hK => ?_)
   refine goes_ Tryz.func79 (by kernel_rfl) rfl #[.int .i64 a0_0, .int .i64 a1_0] (by rfl) rfl rfl zM ?_
   with_reducible refine (spec_l00Min.calls a0_0 a1_0 t306 _ A6.out).mono ?_
   rintro e w' ⟨rfl, ⟨nd, rfl⟩⟩
   refine ⟨_, rfl, ?_⟩
   refine hK.out _ _ ⟨(blk_cell BK302.out 0).trans rfl, (blk_cell BK302.out 1).trans rfl, (blk_cell BK303.out 0).trans rfl, (blk_cell BK303.out 1).trans rfl, (blk_cell BK304.out 0).trans rfl, (blk_cell BK304.out 1).trans rfl⟩ (fun hHeld => ?_)
   clear hK K
   refine zn 19 ?_
   refine zo 17 (some 24) (fun K hK => ?_)
   refine goes_ Tryz.func80 (by kernel_rfl) rfl #[.int .i64 a0_0, .int .i64 a1_0] (by rfl) rfl rfl zM ?_
   with_reducible refine (spec_l00Max.calls a0_0 a1_0 t307 _ A7.out).mono ?_
   rintro e w' ⟨rfl, ⟨nd, rfl⟩⟩
   refine ⟨_, rfl, ?_⟩
   refine hK.out _ _ ⟨(blk_cell BK302.out 0).trans rfl, (blk_cell BK302.out 1).trans rfl, (blk_cell BK303.out 0).trans rfl, (blk_cell BK303.out 1).trans rfl, (blk_cell BK304.out 0).trans rfl, (blk_cell BK304.out 1).trans rfl⟩ (fun hHeld => ?_)
   clear hK K
   refine zn 24 ?_
   refine zo 18 (some 25) (fun K hK => ?_)
   refine goes_ Tryz.func32 (by kernel_rfl) rfl #[.int .i64 a2_0, .int .i64 t306, .int .i64 t307] (by rfl) rfl rfl zM ?_
   with_reducible refine (spec_l00In.calls a2_0 t306 t307 true _ A8.out).mono ?_
   rintro e w' ⟨rfl, ⟨nd, rfl⟩⟩
   refine ⟨_, rfl, ?_⟩
   refine hK.out _ _ ⟨(blk_cell BK302.out 0).trans rfl, (blk_cell BK302.out 1).trans rfl, (blk_cell BK303.out 0).trans rfl, (blk_cell BK303.out 1).trans rfl, (blk_cell BK304.out 0).trans rfl, (blk_cell BK304.out 1).trans rfl⟩ (fun hHeld => ?_)
   clear hK K
   refine zn 25 ?_
   refine zp 19 26 ?_
   refine zp 20 27 ?_
   refine zp 21 28 ?_
   refine zp 23 30 ?_
   refine zp 25 32 ?_
   refine zp 28 35 ?_
   refine zp 30 37 ?_
   refine zt 22 29 hHeld ?_
   refine zt 24 31 hHeld ?_
   refine zt 26 33 hHeld ?_
   refine zt 29 36 hHeld ?_
   refine zt 31 38 hHeld ?_
   refine zo 27 (some 34) (fun K hK => ?_)
   refine goes_ Tryz.func79 (by kernel_rfl) rfl #[.int .i64 a0_1, .int .i64 a1_1] (by rfl) rfl rfl zM ?_
   with_reducible refine (spec_l00Min.calls a0_1 a1_1 t309 _ A10.out).mono ?_
   rintro e w' ⟨rfl, ⟨nd, rfl⟩⟩
   refine ⟨_, rfl, ?_⟩
   refine hK.out _ _ ⟨(blk_cell BK302.out 0).trans rfl, (blk_cell BK302.out 1).trans rfl, (blk_cell BK303.out 0).trans rfl, (blk_cell BK303.out 1).trans rfl, (blk_cell BK304.out 0).trans rfl, (blk_cell BK304.out 1).trans rfl⟩ (fun hHeld => ?_)
   clear hK K
   refine zn 34 ?_
   refine zo 32 (some 39) (fun K hK => ?_)
   refine goes_ Tryz.func80 (by kernel_rfl) rfl #[.int .i64 a0_1, .int .i64 a1_1] (by rfl) rfl rfl zM ?_
   with_reducible refine (spec_l00Max.calls a0_1 a1_1 t310 _ A11.out).mono ?_
   rintro e w' ⟨rfl, ⟨nd, rfl⟩⟩
   refine ⟨_, rfl, ?_⟩
   refine hK.out _ _ ⟨(blk_cell BK302.out 0).trans rfl, (blk_cell BK302.out 1).trans rfl, (blk_cell BK303.out 0).trans rfl, (blk_cell BK303.out 1).trans rfl, (blk_cell BK304.out 0).trans rfl, (blk_cell BK304.out 1).trans rfl⟩ (fun hHeld => ?_)
   clear hK K
   refine zn 39 ?_
   refine zo 33 (some 40) (fun K hK => ?_)
   refine goes_ Tryz.func32 (by kernel_rfl) rfl #[.int .i64 a2_1, .int .i64 t309, .int .i64 t310] (by rfl) rfl rfl zM ?_
   with_reducible refine (spec_l00In.calls a2_1 t309 t310 t311 _ A12.out).mono ?_
   rintro e w' ⟨rfl, ⟨nd, rfl⟩⟩
   refine ⟨_, rfl, ?_⟩
   refine hK.out _ _ ⟨(blk_cell BK302.out 0).trans rfl, (blk_cell BK302.out 1).trans rfl, (blk_cell BK303.out 0).trans rfl, (blk_cell BK303.out 1).trans rfl, (blk_cell BK304.out 0).trans rfl, (blk_cell BK304.out 1).trans rfl⟩ (fun hHeld => ?_)
   clear hK K
   refine zn 40 ?_
   refine zp 34 41 ?_
   refine zp 35 6 ?_
   refine done_ (done_of HT_.out (by kernel_rfl)) ?_
   try go_wp2
   go_ret
   exact ⟨zE, by repeat (first | (with_reducible first | exact HB.out | apply below_alloc | apply pw_below_drewN | apply below_drew1 | refine below_set ?_ GE302.out | refine below_set ?_ GE303.out | refine below_set ?_ GE304.out) | exact HB.out)⟩
  ·replace c9 := Bool.eq_false_iff.mpr c9
   subst c9
   rw [if_neg Bool.false_ne_true] at H; obtain rfl := Option.some.inj H
   go_enter Tryz.func69, Tryz.ntmps69
   try go_wp2_with (first | ((with_reducible refine zd 3 ?_); refine zbx (N := 3) (cs := #[.int .i64 a0_0, .int .i64 a0_1]) (t := 47) ?_; intro gb302 hg w18 hbox hb; have BK302 := zQ (hbox); have GW302 := zgz hg HB.out; have GE302 := GW302; replace HB := zbs HB.out hb; clear hb hbox hg) | ((with_reducible refine zd 4 ?_); refine zbx (N := 4) (cs := #[.int .i64 a1_0, .int .i64 a1_1]) (t := 47) ?_; intro gb303 hg w19 hbox hb; have BK303 := zQ (hbox); have GW303 := zgz2 hg HB.out GE302.out; have GE303 := GW303; have NB302_303 := zn1 hg BK302.out; have NB303_302 := zn2 hg BK302.out; replace BK302 := zbl BK302.out hb; replace HB := zbs2 HB.out GE302.out hb; clear hb hbox hg) | ((with_reducible refine zd 5 ?_); refine zbx (N := 5) (cs := #[.int .i64 a2_0, .int .i64 a2_1]) (t := 47) ?_; intro gb304 hg w20 hbox hb; have BK304 := zQ (hbox); have GW304 := zQ ((by rw [hg]; exact (below_size (zB3 HB.out GE302.out GE303.out)) : w.heap.size ≤ gb304)); have GE304 := zQ ((by rw [hg]; exact (below_size (zB3 HB.out GE302.out GE303.out)) : w.heap.size ≤ gb304)); have NB302_304 := zn1 hg BK302.out; have NB304_302 := zn2 hg BK302.out; have NB303_304 := zn1 hg BK303.out; have NB304_303 := zn2 hg BK303.out; replace BK302 := zbl BK302.out hb; replace BK303 := zbl BK303.out hb; replace HB := zQ (below_step (zB3 HB.out GE302.out GE303.out) hb); clear hb hbox hg))
   have n0_ := zQ (blk_drew BK302.out); have n1_ := zQ (blk_drew BK303.out); have n2_ := zQ (blk_drew BK304.out); have n3_ := zQ (below_drew1 HB.out); clear BK302; clear BK303; clear BK304; clear HB; have BK302 := n0_; have BK303 := n1_; have BK304 := n2_; have HB := n3_; clear n0_ n1_ n2_ n3_
   refine zs (fun w' => w'.cell? ⟨gb302, 0, none⟩ = some (.int .i64 a0_0) ∧ w'.cell? ⟨gb302, 1, none⟩ = some (.int .i64 a0_1) ∧ w'.cell? ⟨gb303, 0, none⟩ = some (.int .i64 a1_0) ∧ w'.cell? ⟨gb303, 1, none⟩ = some (.int .i64 a1_1) ∧ w'.cell? ⟨gb304, 0, none⟩ = some (.int .i64 a2_0) ∧ w'.cell? ⟨gb304, 1, none⟩ = some (.int .i64 a2_1)) [] 36 ⟨(blk_cell BK302.out 0).trans rfl, (blk_cell BK302.out 1).trans rfl, (blk_cell BK303.out 0).trans rfl, (blk_cell BK303.out 1).trans rfl, (blk_cell BK304.out 0).trans rfl, (blk_cell BK304.out 1).trans rfl⟩ (fun hHeld => ?_); refine with_tabW spec_l13On.tab1 spec_l13On.bits1 (fun HT_ HW_ => ?_)
   generalize w20.drew = w21 at BK302 BK303 BK304 HB hHeld ⊢
   refine zt 0 7 hHeld ?_
   refine zt 1 8 hHeld ?_
   refine zt 2 9 hHeld ?_
   refine zo 3 (some 10) (fun K hK => ?_)
   refine goes_ Tryz.func52 (by kernel_rfl) rfl #[.agg #[.int .i64 a0_0, .int .i64 a0_1], .agg #[.int .i64 a1_0, .int .i64 a1_1], .agg #[.int .i64 a2_0, .int .i64 a2_1]] (by rfl) rfl rfl zM ?_
   with_reducible refine (spec_l13Cross.calls a0_0 a0_1 a1_0 a1_1 a2_0 a2_1 t305 _ A4.out).mono ?_
   rintro e w22 ⟨rfl, hb⟩
   refine ⟨_, rfl, ?_⟩
   have n0_ := zbl BK302.out hb; have n1_ := zbl BK303.out hb; have n2_ := zbl BK304.out hb; have n3_ := zQ (below_step (by repeat (first | (with_reducible first | exact HB.out | apply below_alloc | apply pw_below_drewN | apply below_drew1 | refine below_set ?_ GE302.out | refine below_set ?_ GE303.out | refine below_set ?_ GE304.out) | exact HB.out)) hb); clear BK302; clear BK303; clear BK304; clear HB; have BK302 := n0_; have BK303 := n1_; have BK304 := n2_; have HB := n3_; clear n0_ n1_ n2_ n3_
   (try clear hb)
   (try clear hb2)
   (try clear hk)
   (try clear hi)
   refine hK.out _ _ ⟨(blk_cell BK302.out 0).trans rfl, (blk_cell BK302.out 1).trans rfl, (blk_cell BK303.out 0).trans rfl, (blk_cell BK303.out 1).trans rfl, (blk_cell BK304.out 0).trans rfl, (blk_cell BK304.out 1).trans rfl⟩ (fun hHeld => ?_)
   clear hK K
   refine zn 10 ?_
   refine zp 4 11 ?_
   refine zp 5 12 ?_
   refine zp 6 13 ?_
   refine zp 8 15 ?_
   refine zp 10 17 ?_
   refine zp 13 20 ?_
   refine zp 15 22 ?_
   refine zt 7 14 hHeld ?_
   refine zt 9 16 hHeld ?_
   refine zt 11 18 hHeld ?_
   refine zt 14 21 hHeld ?_
   refine zt 16 23 hHeld ?_
   refine zo 12 (some 19) (fun K hK => ?_)
   refine goes_ Tryz.func79 (by kernel_rfl) rfl #[.int .i64 a0_0, .int .i64 a1_0] (by rfl) rfl rfl zM ?_
   with_reducible refine (spec_l00Min.calls a0_0 a1_0 t306 _ A6.out).mono ?_
   rintro e w' ⟨rfl, ⟨nd, rfl⟩⟩
   refine ⟨_, rfl, ?_⟩
   refine hK.out _ _ ⟨(blk_cell BK302.out 0).trans rfl, (blk_cell BK302.out 1).trans rfl, (blk_cell BK303.out 0).trans rfl, (blk_cell BK303.out 1).trans rfl, (blk_cell BK304.out 0).trans rfl, (blk_cell BK304.out 1).trans rfl⟩ (fun hHeld => ?_)
   clear hK K
   refine zn 19 ?_
   refine zo 17 (some 24) (fun K hK => ?_)
   refine goes_ Tryz.func80 (by kernel_rfl) rfl #[.int .i64 a0_0, .int .i64 a1_0] (by rfl) rfl rfl zM ?_
   with_reducible refine (spec_l00Max.calls a0_0 a1_0 t307 _ A7.out).mono ?_
   rintro e w' ⟨rfl, ⟨nd, rfl⟩⟩
   refine ⟨_, rfl, ?_⟩
   refine hK.out _ _ ⟨(blk_cell BK302.out 0).trans rfl, (blk_cell BK302.out 1).trans rfl, (blk_cell BK303.out 0).trans rfl, (blk_cell BK303.out 1).trans rfl, (blk_cell BK304.out 0).trans rfl, (blk_cell BK304.out 1).trans rfl⟩ (fun hHeld => ?_)
   clear hK K
   refine zn 24 ?_
   refine zo 18 (some 25) (fun K hK => ?_)
   refine goes_ Tryz.func32 (by kernel_rfl) rfl #[.int .i64 a2_0, .int .i64 t306, .int .i64 t307] (by rfl) rfl rfl zM ?_
   with_reducible refine (spec_l00In.calls a2_0 t306 t307 false _ A8.out).mono ?_
   rintro e w' ⟨rfl, ⟨nd, rfl⟩⟩
   refine ⟨_, rfl, ?_⟩
   refine hK.out _ _ ⟨(blk_cell BK302.out 0).trans rfl, (blk_cell BK302.out 1).trans rfl, (blk_cell BK303.out 0).trans rfl, (blk_cell BK303.out 1).trans rfl, (blk_cell BK304.out 0).trans rfl, (blk_cell BK304.out 1).trans rfl⟩ (fun hHeld => ?_)
   clear hK K
   refine zn 25 ?_
   refine zp 19 26 ?_
   refine zp 20 27 ?_
   refine zg 21 28 ?_
   refine zg 22 29 ?_
   refine zg 23 30 ?_
   refine zg 24 31 ?_
   refine zg 25 32 ?_
   refine zg 26 33 ?_
   refine zg 27 34 ?_
   refine zg 28 35 ?_
   refine zg 29 36 ?_
   refine zg 30 37 ?_
   refine zg 31 38 ?_
   refine zg 32 39 ?_
   refine zg 33 40 ?_
   refine zp 34 41 ?_
   refine zp 35 6 ?_
   refine done_ (done_of HT_.out (by kernel_rfl)) ?_
   try go_wp2
   go_ret
   exact ⟨zE, by repeat (first | (with_reducible first | exact HB.out | apply below_alloc | apply pw_below_drewN | apply below_drew1 | refine below_set ?_ GE302.out | refine below_set ?_ GE303.out | refine below_set ?_ GE304.out) | exact HB.out)⟩
 ·rw [if_neg c5] at H
  have c5b0 : (t305 == 0) = false := beq_eq_false_iff_ne.mpr c5; have c5b1 : (t305 != 0) = true := bne_iff_ne.mpr c5; obtain rfl := Option.some.inj H
  go_enter Tryz.func69, Tryz.ntmps69
  try go_wp2_with (first | ((with_reducible refine zd 3 ?_); refine zbx (N := 3) (cs := #[.int .i64 a0_0, .int .i64 a0_1]) (t := 47) ?_; intro gb302 hg w23 hbox hb; have BK302 := zQ (hbox); have GW302 := zgz hg HB.out; have GE302 := GW302; replace HB := zbs HB.out hb; clear hb hbox hg) | ((with_reducible refine zd 4 ?_); refine zbx (N := 4) (cs := #[.int .i64 a1_0, .int .i64 a1_1]) (t := 47) ?_; intro gb303 hg w24 hbox hb; have BK303 := zQ (hbox); have GW303 := zgz2 hg HB.out GE302.out; have GE303 := GW303; have NB302_303 := zn1 hg BK302.out; have NB303_302 := zn2 hg BK302.out; replace BK302 := zbl BK302.out hb; replace HB := zbs2 HB.out GE302.out hb; clear hb hbox hg) | ((with_reducible refine zd 5 ?_); refine zbx (N := 5) (cs := #[.int .i64 a2_0, .int .i64 a2_1]) (t := 47) ?_; intro gb304 hg w25 hbox hb; have BK304 := zQ (hbox); have GW304 := zQ ((by rw [hg]; exact (below_size (zB3 HB.out GE302.out GE303.out)) : w.heap.size ≤ gb304)); have GE304 := zQ ((by rw [hg]; exact (below_size (zB3 HB.out GE302.out GE303.out)) : w.heap.size ≤ gb304)); have NB302_304 := zn1 hg BK302.out; have NB304_302 := zn2 hg BK302.out; have NB303_304 := zn1 hg BK303.out; have NB304_303 := zn2 hg BK303.out; replace BK302 := zbl BK302.out hb; replace BK303 := zbl BK303.out hb; replace HB := zQ (below_step (zB3 HB.out GE302.out GE303.out) hb); clear hb hbox hg))
  have n0_ := zQ (blk_drew BK302.out); have n1_ := zQ (blk_drew BK303.out); have n2_ := zQ (blk_drew BK304.out); have n3_ := zQ (below_drew1 HB.out); clear BK302; clear BK303; clear BK304; clear HB; have BK302 := n0_; have BK303 := n1_; have BK304 := n2_; have HB := n3_; clear n0_ n1_ n2_ n3_
  refine zs (fun w' => w'.cell? ⟨gb302, 0, none⟩ = some (.int .i64 a0_0) ∧ w'.cell? ⟨gb302, 1, none⟩ = some (.int .i64 a0_1) ∧ w'.cell? ⟨gb303, 0, none⟩ = some (.int .i64 a1_0) ∧ w'.cell? ⟨gb303, 1, none⟩ = some (.int .i64 a1_1) ∧ w'.cell? ⟨gb304, 0, none⟩ = some (.int .i64 a2_0) ∧ w'.cell? ⟨gb304, 1, none⟩ = some (.int .i64 a2_1)) [] 36 ⟨(blk_cell BK302.out 0).trans rfl, (blk_cell BK302.out 1).trans rfl, (blk_cell BK303.out 0).trans rfl, (blk_cell BK303.out 1).trans rfl, (blk_cell BK304.out 0).trans rfl, (blk_cell BK304.out 1).trans rfl⟩ (fun hHeld => ?_); refine with_tabW spec_l13On.tab1 spec_l13On.bits1 (fun HT_ HW_ => ?_)
  generalize w25.drew = w26 at BK302 BK303 BK304 HB hHeld ⊢
  refine zt 0 7 hHeld ?_
  refine zt 1 8 hHeld ?_
  refine zt 2 9 hHeld ?_
  refine zo 3 (some 10) (fun K hK => ?_)
  refine goes_ Tryz.func52 (by kernel_rfl) rfl #[.agg #[.int .i64 a0_0, .int .i64 a0_1], .agg #[.int .i64 a1_0, .int .i64 a1_1], .agg #[.int .i64 a2_0, .int .i64 a2_1]] (by rfl) rfl rfl zM ?_
  with_reducible refine (spec_l13Cross.calls a0_0 a0_1 a1_0 a1_1 a2_0 a2_1 t305 _ A4.out).mono ?_
  rintro e w27 ⟨rfl, hb⟩
  refine ⟨_, rfl, ?_⟩
  have n0_ := zbl BK302.out hb; have n1_ := zbl BK303.out hb; have n2_ := zbl BK304.out hb; have n3_ := zQ (below_step (by repeat (first | (with_reducible first | exact HB.out | apply below_alloc | apply pw_below_drewN | apply below_drew1 | refine below_set ?_ GE302.out | refine below_set ?_ GE303.out | refine below_set ?_ GE304.out) | exact HB.out)) hb); clear BK302; clear BK303; clear BK304; clear HB; have BK302 := n0_; have BK303 := n1_; have BK304 := n2_; have HB := n3_; clear n0_ n1_ n2_ n3_
  (try clear hb)
  (try clear hb2)
  (try clear hk)
  (try clear hi)
  refine hK.out _ _ ⟨(blk_cell BK302.out 0).trans rfl, (blk_cell BK302.out 1).trans rfl, (blk_cell BK303.out 0).trans rfl, (blk_cell BK303.out 1).trans rfl, (blk_cell BK304.out 0).trans rfl, (blk_cell BK304.out 1).trans rfl⟩ (fun hHeld => ?_)
  clear hK K
  refine zn 10 ?_
  refine zp 4 11 ?_
  refine zp 5 12 ?_
  refine zg 6 13 ?_
  refine zg 7 14 ?_
  refine zg 8 15 ?_
  refine zg 9 16 ?_
  refine zg 10 17 ?_
  refine zg 11 18 ?_
  refine zg 12 19 ?_
  refine zg 13 20 ?_
  refine zg 14 21 ?_
  refine zg 15 22 ?_
  refine zg 16 23 ?_
  refine zg 17 24 ?_
  refine zg 18 25 ?_
  refine zp 19 26 ?_
  refine zp 20 27 ?_
  refine zg 21 28 ?_
  refine zg 22 29 ?_
  refine zg 23 30 ?_
  refine zg 24 31 ?_
  refine zg 25 32 ?_
  refine zg 26 33 ?_
  refine zg 27 34 ?_
  refine zg 28 35 ?_
  refine zg 29 36 ?_
  refine zg 30 37 ?_
  refine zg 31 38 ?_
  refine zg 32 39 ?_
  refine zg 33 40 ?_
  refine zp 34 41 ?_
  refine zp 35 6 ?_
  refine done_ (done_of HT_.out (by kernel_rfl)) ?_
  try go_wp2
  go_ret
  exact ⟨zE, by repeat (first | (with_reducible first | exact HB.out | apply below_alloc | apply pw_below_drewN | apply below_drew1 | refine below_set ?_ GE302.out | refine below_set ?_ GE303.out | refine below_set ?_ GE304.out) | exact HB.out)⟩

end
end Go.Proofs.YtchngbjpjbahiaaGreatDoor.PSailz

