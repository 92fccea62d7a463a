import Derived.Test.YtcomncokgkeniaaHSailw0
import Derived.Test.YtcomncokgkeniaaHSailwh
namespace Go.Proofs.Ytcomncokgkeniaa.PSailw
noncomputable section
open Go.RowKit Go.Proofs.YtcomncokgkeniaaW.PrintWords Go.Proofs.YtcomncokgkeniaaW.PrintLast Go.Proofs.YtcomncokgkeniaaW.PrintMore
attribute [local go_sem] max2_int min2_int max_two min_two max_three min_three max_four min_four   -- for this text's walks alone
set_option linter.unusedVariables false
set_option linter.unusedSimpArgs false
set_option maxHeartbeats 8000000
set_option maxRecDepth 100000

def impl_heightsOf.l0 : Nat → Int → Int → List (S49) → Int → Int → Option (Int × Int)
 | 0, _, _, _, _, _ => none
 | k + 1, x4, x5, x16, x17, x18 => if x18 < x17 then (if 0 ≤ x18 then (if x18 < (x16.length : Int) then (impl_heightsOf.l0 k (mn x4 ((rd_T49 x16 x18).f1)) (mx x5 ((rd_T49 x16 x18).f1)) x16 x17 (wrap64 (x18 + 1))) else (none)) else (none)) else (some (x4, x5))
def impl_heightsOf.f (k : Nat) (l0 : List (S49)) : Option (Int × Int) := if 0 < (l0.length : Int) then (impl_heightsOf.l0 k ((rd_T49 l0 0).f1) ((rd_T49 l0 0).f1) l0 (l0.length : Int) 0) else (none)
theorem impl_heightsOf.calls (k : Nat) (A0 : Option Addr) (c0 : Nat) (l0 : List (S49)) (r1 : Int) (r2 : Int) (w : World) (hr0 : Kd.C k49 w A0 l0.length l0) (hc0 : l0.length ≤ c0) (h : impl_heightsOf.f k l0 = some (r1, r2)) :
  Calls Try.prog 32 #[.slice A0 l0.length c0] w fun e w' => e = .returned (.tuple #[.int .i64 r1, .int .i64 r2]) ∧ Below w.heap.size w w' := by
 have hu49 := Try.underlying49
 have HR0 := zQ hr0
 have HC0 := zQ hc0
 clear hr0 hc0
 have HB := zQ (Below.refl w.heap.size w)
 have H := h; unfold impl_heightsOf.f at H
 clear h
 by_cases c2 : 0 < (l0.length : Int)
 ·rw [if_pos c2] at H
  have c2b0 := decide_eq_true c2; have c2b1 : decide (0 < l0.length) = true := decide_eq_true (by omega); clear c2; have H' := zQ H; clear H; have p270 : 0 ≤ (0 : Int) := (by omega); have q270 : 0 < (l0.length : Int) := zD; obtain ⟨ad270, e270, hx270_0, hx270_1⟩ := at_T49 HR0.out 0 p270 q270
  cases e270
  have qi270 : (0 < l0.length) = True := eq_true (by omega)
  (try rw [show ((0 : Int)).toNat = 0 from rfl] at hx270_0)
  (try rw [show 0 * 2 = 0 from rfl] at hx270_0)
  (try rw [Addr.add_zero'] at hx270_0)
  (try rw [show ((0 : Int)).toNat = 0 from rfl] at hx270_1)
  (try rw [show 0 * 2 = 0 from rfl] at hx270_1)
  (try rw [Addr.add_zero'] at hx270_1)
  replace p270 := eq_true p270; replace q270 := eq_true q270; have p271 : 0 ≤ (0 : Int) := (by omega); have q271 : 0 < (l0.length : Int) := zD; obtain ⟨ad271, e271, hx271_0, hx271_1⟩ := at_T49 HR0.out 0 p271 q271; obtain rfl : ad270 = ad271 := (by injection e271); have qi271 : (0 < l0.length) = True := eq_true (by omega)
  (try rw [show ((0 : Int)).toNat = 0 from rfl] at hx271_0)
  (try rw [show 0 * 2 = 0 from rfl] at hx271_0)
  (try rw [Addr.add_zero'] at hx271_0)
  (try rw [show ((0 : Int)).toNat = 0 from rfl] at hx271_1)
  (try rw [show 0 * 2 = 0 from rfl] at hx271_1)
  (try rw [Addr.add_zero'] at hx271_1)
  replace p271 := eq_true p271; replace q271 := eq_true q271
  go_enter Try.func32, Try.ntmps32
  go_wp2
  repeat (go_quiet (fail); try go_wp2)
  go_loopg [4, 5, 18] k (fun kq v4 v5 v18 w' => ∃ (x4_1 : Int) (x5_1 : Int) (x18_1 : Int), v4 = .int .i64 x4_1 ∧ v5 = .int .i64 x5_1 ∧ v18 = .int .i64 x18_1 ∧ Aside0 (impl_heightsOf.l0 kq x4_1 x5_1 l0 (l0.length : Int) x18_1 = some (r1, r2)) ∧ Aside0 (kq ≤ k) ∧ Aside0 (Below w.heap.size w w'))
  case atStart => exact ⟨((rd_T49 l0 0).f1), ((rd_T49 l0 0).f1), (0), (zF), (zF), (zF), H', ⟨Nat.le_refl _⟩, ⟨zB HB.out⟩⟩
  case round =>
   clear H'; (try clear c2); (try clear c2b0); (try clear c2b1); (try clear p2); (try clear q2); (try clear hx2); (try clear qi2); (try clear hx270_0); (try clear hx270_1); (try clear hx271_0); (try clear hx271_1); (try clear p270); (try clear p271); (try clear q270); (try clear q271); obtain ⟨x4_1, x5_1, x18_1, rfl, rfl, rfl, HA, HK1, HB⟩ := hrel
   cases gk with
   | zero => exact absurd HA.out (by simp [impl_heightsOf.l0])
   | succ k1 =>
    have H := HA.out; clear HA
    simp only [impl_heightsOf.l0] at H
    by_cases c3 : x18_1 < (l0.length : Int)
    ·rw [if_pos c3] at H
     have c3b0 := decide_eq_true c3; clear c3
     by_cases c4 : 0 ≤ x18_1
     ·rw [if_pos c4] at H
      have c4b0 := decide_eq_true c4; clear c4
      by_cases c5 : x18_1 < (l0.length : Int)
      ·rw [if_pos c5] at H
       have c5b0 := decide_eq_true c5; clear c5; obtain ⟨ji6, hji6⟩ : ∃ j_ : Int, (mn x4_1 ((rd_T49 l0 x18_1).f1)) = j_ := ⟨_, rfl⟩
       replace H : (impl_heightsOf.l0 k1 ji6 (mx x5_1 ((rd_T49 l0 x18_1).f1)) l0 (l0.length : Int) (wrap64 (x18_1 + 1))) = some (r1, r2) := by first | (rw [hji6] at H; exact H) | (simp only [hji6] at H ⊢; exact H)
       have hji6_ : (if ((rd_T49 l0 x18_1).f1) < x4_1 then ((rd_T49 l0 x18_1).f1) else x4_1) = ji6 := hji6; obtain ⟨ji7, hji7⟩ : ∃ j_ : Int, (mx x5_1 ((rd_T49 l0 x18_1).f1)) = j_ := ⟨_, rfl⟩
       replace H : (impl_heightsOf.l0 k1 ji6 ji7 l0 (l0.length : Int) (wrap64 (x18_1 + 1))) = some (r1, r2) := by first | (rw [hji7] at H; exact H) | (simp only [hji7] at H ⊢; exact H)
       have hji7_ : (if x5_1 < ((rd_T49 l0 x18_1).f1) then ((rd_T49 l0 x18_1).f1) else x5_1) = ji7 := hji7; have H' := zQ H; clear H; have p272 : 0 ≤ (x18_1 : Int) := zD; have q272 : x18_1 < (l0.length : Int) := zD; obtain ⟨ad272, e272, hx272_0, hx272_1⟩ := at_T49 HR0.out x18_1 p272 q272; obtain rfl : ad270 = ad272 := (by injection e272); replace hx272_0 := zw HB.out hx272_0; replace hx272_1 := zw HB.out hx272_1; replace p272 := eq_true p272; replace q272 := eq_true q272
       go_wp2_with (first | ((with_reducible refine zd 7 ?_); refine zbx (N := 7) (cs := #[.int .i64 0, .int .i64 0]) (t := 49) ?_; intro gb273 hg w8 hbox hb; have BK273 := zQ (hbox); have GW273 := zgz hg HB.out; have GE273 := GW273; replace HB := zbs HB.out hb; clear hb hbox hg; obtain ⟨hcz9_0, hcz9_1, hfz9_0, hfz9_1⟩ := zy2 BK273.out))
       repeat (go_quiet (first | ((with_reducible refine zd 7 ?_); refine zbx (N := 7) (cs := #[.int .i64 0, .int .i64 0]) (t := 49) ?_; intro gb273 hg w8 hbox hb; have BK273 := zQ (hbox); have GW273 := zgz hg HB.out; have GE273 := GW273; replace HB := zbs HB.out hb; clear hb hbox hg; obtain ⟨hcz9_0, hcz9_1, hfz9_0, hfz9_1⟩ := zy2 BK273.out)); try go_wp2_with (first | ((with_reducible refine zd 7 ?_); refine zbx (N := 7) (cs := #[.int .i64 0, .int .i64 0]) (t := 49) ?_; intro gb273 hg w8 hbox hb; have BK273 := zQ (hbox); have GW273 := zgz hg HB.out; have GE273 := GW273; replace HB := zbs HB.out hb; clear hb hbox hg; obtain ⟨hcz9_0, hcz9_1, hfz9_0, hfz9_1⟩ := zy2 BK273.out)))
       go_roundg k1
       case measure => have := HK1.out; omega
       case rel => exact ⟨(ji6), (ji7), (wrap64 (x18_1 + 1)), (by first | rfl | (simp; done) | (simp only [← hji6] <;> (first | rfl | simp)) | (simp [*]; done)), (by first | rfl | (simp; done) | (simp only [← hji7] <;> (first | rfl | simp)) | (simp [*]; done)), (zF), H', ⟨by have := HK1.out; omega⟩, ⟨zB2 HB.out GE273.out⟩⟩
      ·rw [if_neg c5] at H
       exact absurd H (by simp)
     ·rw [if_neg c4] at H
      exact absurd H (by simp)
    ·rw [if_neg c3] at H
     have c3b0 := decide_eq_false c3; clear c3
     simp only [Option.some.injEq, Prod.mk.injEq] at H
     obtain ⟨rfl, rfl⟩ := H
     go_wp2
     repeat (go_quiet (fail); try go_wp2)
     go_ret2
     exact ⟨zE, zB HB.out⟩
 ·rw [if_neg c2] at H
  exact absurd H (by simp)

def impl_isBulged.l0 : Nat → List (S49) → Int → Int → Int → Option (Bool)
 | 0, _, _, _, _ => none
 | k + 1, x0, x3, x8, x9 => if x9 < x8 then (if 0 ≤ x9 then (if x9 < (x0.length : Int) then (if x3 = 0 then (none) else (if 0 ≤ (Int.tmod (wrap64 (x9 + 1)) x3) then (if (Int.tmod (wrap64 (x9 + 1)) x3) < (x0.length : Int) then (if 0 ≤ (Int.tmod (wrap64 (x9 + 2)) x3) then (if (Int.tmod (wrap64 (x9 + 2)) x3) < (x0.length : Int) then ((impl_turnAt.f ((rd_T49 x0 x9).f0) ((rd_T49 x0 x9).f1) ((rd_T49 x0 (Int.tmod (wrap64 (x9 + 1)) x3)).f0) ((rd_T49 x0 (Int.tmod (wrap64 (x9 + 1)) x3)).f1) ((rd_T49 x0 (Int.tmod (wrap64 (x9 + 2)) x3)).f0) ((rd_T49 x0 (Int.tmod (wrap64 (x9 + 2)) x3)).f1)).bind fun t277 => (if t277 < 0 then (some false) else (impl_isBulged.l0 k x0 x3 x8 (wrap64 (x9 + 1))))) else (none)) else (none)) else (none)) else (none))) else (none)) else (none)) else (some true)
def impl_isBulged.f (k : Nat) (l0 : List (S49)) : Option (Bool) := impl_isBulged.l0 k l0 (l0.length : Int) (l0.length : Int) 0
def impl_isBulged.T5 : Bool × List (List Nat × List Nat) := (true, [([], []), ([], []), ([0, 1], [0, 1]), ([2], [2]), ([], []), ([], []), ([5], [5]), ([], []), ([6, 7], [6, 7]), ([4, 8], [4, 8]), ([9], [9]), ([], []), ([], []), ([12], [12]), ([], []), ([13, 14], [13, 14]), ([11, 15], [11, 15]), ([16], [16]), ([3, 10, 17], [3, 10, 17]), ([18], [18])])
def impl_isBulged.B5 : List Nat := [0, 0, 3, 7, 0, 0, 32, 0, 224, 496, 1008, 0, 0, 4096, 0, 28672, 63488, 129024, 262143, 524287]
theorem impl_isBulged.tab5 : rtab .any (opsOf Try.f34 5) = impl_isBulged.T5 := by kernel_rfl
theorem impl_isBulged.bits5 : waitsOk impl_isBulged.T5.2 impl_isBulged.B5 = true := by kernel_rfl
theorem impl_isBulged.calls (k : Nat) (A0 : Option Addr) (c0 : Nat) (l0 : List (S49)) (r : Bool) (w : World) (hr0 : Kd.C k49 w A0 l0.length l0) (hc0 : l0.length ≤ c0) (h : impl_isBulged.f k l0 = some r) :
  Calls Try.prog 34 #[.slice A0 l0.length c0] w fun e w' => e = .returned (.bool r) ∧ Below w.heap.size w w' := by
 have hu49 := Try.underlying49
 have HR0 := zQ hr0
 have HC0 := zQ hc0
 clear hr0 hc0
 have HB := zQ (Below.refl w.heap.size w)
 have H := h; unfold impl_isBulged.f at H
 clear h
 have H' := zQ H
 clear H
 go_enter Try.func34, Try.ntmps34
 go_wp2
 go_loopg [9] k (fun kq v9 w' => ∃ (x9_1 : Int), v9 = .int .i64 x9_1 ∧ Aside0 (impl_isBulged.l0 kq l0 (l0.length : Int) (l0.length : Int) x9_1 = some r) ∧ Aside0 (kq ≤ k) ∧ Aside0 (Below w.heap.size w w'))
 case atStart => exact ⟨(0), (zF), H', ⟨Nat.le_refl _⟩, ⟨zB HB.out⟩⟩
 case round =>
  clear H'; obtain ⟨x9_1, rfl, HA, HK1, HB⟩ := hrel
  cases gk with
  | zero => exact absurd HA.out (by simp [impl_isBulged.l0])
  | succ k1 =>
   have H := HA.out; clear HA
   simp only [impl_isBulged.l0] at H
   by_cases c2 : x9_1 < (l0.length : Int)
   ·rw [if_pos c2] at H
    have c2b0 := decide_eq_true c2; clear c2
    by_cases c3 : 0 ≤ x9_1
    ·rw [if_pos c3] at H
     have c3b0 := decide_eq_true c3; clear c3
     by_cases c4 : x9_1 < (l0.length : Int)
     ·rw [if_pos c4] at H
      have c4b0 := decide_eq_true c4; clear c4
      by_cases c5 : (l0.length : Int) = 0
      ·rw [if_pos c5] at H
       exact absurd H (by simp)
      ·rw [if_neg c5] at H
       have c5b0 : ((l0.length : Int) == 0) = false := beq_eq_false_iff_ne.mpr c5; have c5b1 : ((l0.length : Int) != 0) = true := bne_iff_ne.mpr c5
       have c5b2 : ¬ (l0 = []) := fun h_ => c5 (by rw [h_]; rfl)
       obtain ⟨ji6, hji6⟩ : ∃ j_ : Int, (Int.tmod (wrap64 (x9_1 + 1)) (l0.length : Int)) = j_ := ⟨_, rfl⟩
       replace H : (if 0 ≤ (ji6) then (if (ji6) < (l0.length : Int) then (if 0 ≤ (Int.tmod (wrap64 (x9_1 + 2)) (l0.length : Int)) then (if (Int.tmod (wrap64 (x9_1 + 2)) (l0.length : Int)) < (l0.length : Int) then ((impl_turnAt.f ((rd_T49 l0 x9_1).f0) ((rd_T49 l0 x9_1).f1) ((rd_T49 l0 (ji6)).f0) ((rd_T49 l0 (ji6)).f1) ((rd_T49 l0 (Int.tmod (wrap64 (x9_1 + 2)) (l0.length : Int))).f0) ((rd_T49 l0 (Int.tmod (wrap64 (x9_1 + 2)) (l0.length : Int))).f1)).bind fun t277 => (if t277 < 0 then (some false) else (impl_isBulged.l0 k1 l0 (l0.length : Int) (l0.length : Int) (wrap64 (x9_1 + 1))))) else (none)) else (none)) else (none)) else (none)) = some r := by first | (rw [hji6] at H; exact H) | (simp only [hji6] at H ⊢; exact H)
       by_cases c7 : 0 ≤ (ji6)
       ·rw [if_pos c7] at H
        have c7b0 := decide_eq_true c7; clear c7
        by_cases c8 : (ji6) < (l0.length : Int)
        ·rw [if_pos c8] at H
         have c8b0 := decide_eq_true c8; clear c8; obtain ⟨ji9, hji9⟩ : ∃ j_ : Int, (Int.tmod (wrap64 (x9_1 + 2)) (l0.length : Int)) = j_ := ⟨_, rfl⟩
         replace H : (if 0 ≤ (ji9) then (if (ji9) < (l0.length : Int) then ((impl_turnAt.f ((rd_T49 l0 x9_1).f0) ((rd_T49 l0 x9_1).f1) ((rd_T49 l0 (ji6)).f0) ((rd_T49 l0 (ji6)).f1) ((rd_T49 l0 (ji9)).f0) ((rd_T49 l0 (ji9)).f1)).bind fun t277 => (if t277 < 0 then (some false) else (impl_isBulged.l0 k1 l0 (l0.length : Int) (l0.length : Int) (wrap64 (x9_1 + 1))))) else (none)) else (none)) = some r := by first | (rw [hji9] at H; exact H) | (simp only [hji9] at H ⊢; exact H)
         by_cases c10 : 0 ≤ (ji9)
         ·rw [if_pos c10] at H
          have c10b0 := decide_eq_true c10; clear c10
          by_cases c11 : (ji9) < (l0.length : Int)
          ·rw [if_pos c11] at H
           have c11b0 := decide_eq_true c11; clear c11; replace H := zob H; obtain ⟨t277, A12, H⟩ := H
           by_cases c13 : t277 < 0
           ·rw [if_pos c13] at H
            have c13b0 := decide_eq_true c13; clear c13; obtain rfl := Option.some.inj H
            try go_wp2
            have n0_ := zQ (below_drew1 HB.out); clear HB; have HB := n0_; clear n0_; have p274 : 0 ≤ (x9_1 : Int) := zD; have q274 : x9_1 < (l0.length : Int) := zD; obtain ⟨ad274, e274, hx274_0, hx274_1⟩ := at_T49 HR0.out x9_1 p274 q274; have hw274_1 := hx274_1; have hw274_0 := hx274_0
            cases e274
            replace hx274_0 := zw HB.out hx274_0; replace hx274_1 := zw HB.out hx274_1; replace p274 := eq_true p274; replace q274 := eq_true q274; have p275 : 0 ≤ ((ji6) : Int) := zD; have q275 : (ji6) < (l0.length : Int) := zD; obtain ⟨ad275, e275, hx275_0, hx275_1⟩ := at_T49 HR0.out (ji6) p275 q275; have hw275_1 := hx275_1; have hw275_0 := hx275_0; obtain rfl : ad274 = ad275 := (by injection e275); replace hx275_0 := zw HB.out hx275_0; replace hx275_1 := zw HB.out hx275_1; replace p275 := eq_true p275; replace q275 := eq_true q275; have p276 : 0 ≤ ((ji9) : Int) := zD; have q276 : (ji9) < (l0.length : Int) := zD; obtain ⟨ad276, e276, hx276_0, hx276_1⟩ := at_T49 HR0.out (ji9) p276 q276; have hw276_1 := hx276_1; have hw276_0 := hx276_0; obtain rfl : ad274 = ad276 := (by injection e276); replace hx276_0 := zw HB.out hx276_0; replace hx276_1 := zw HB.out hx276_1; replace p276 := eq_true p276; replace q276 := eq_true q276
            refine zs (fun w' => w'.cell? (ad274.add ((x9_1).toNat * 2)) = some (.int .i64 ((rd_T49 l0 x9_1).f0)) ∧ w'.cell? ⟨(ad274.add ((x9_1).toNat * 2)).block, (ad274.add ((x9_1).toNat * 2)).off + 1, none⟩ = some (.int .i64 ((rd_T49 l0 x9_1).f1)) ∧ w'.cell? (ad274.add (((ji6)).toNat * 2)) = some (.int .i64 ((rd_T49 l0 (ji6)).f0)) ∧ w'.cell? ⟨(ad274.add (((ji6)).toNat * 2)).block, (ad274.add (((ji6)).toNat * 2)).off + 1, none⟩ = some (.int .i64 ((rd_T49 l0 (ji6)).f1)) ∧ w'.cell? (ad274.add (((ji9)).toNat * 2)) = some (.int .i64 ((rd_T49 l0 (ji9)).f0)) ∧ w'.cell? ⟨(ad274.add (((ji9)).toNat * 2)).block, (ad274.add (((ji9)).toNat * 2)).off + 1, none⟩ = some (.int .i64 ((rd_T49 l0 (ji9)).f1))) [] 20 ⟨((HB.out.cell (World.block_lt_of_cell? w _ hw274_0)).trans hw274_0), ((HB.out.cell (World.block_lt_of_cell? w _ hw274_1)).trans hw274_1), ((HB.out.cell (World.block_lt_of_cell? w _ hw275_0)).trans hw275_0), ((HB.out.cell (World.block_lt_of_cell? w _ hw275_1)).trans hw275_1), ((HB.out.cell (World.block_lt_of_cell? w _ hw276_0)).trans hw276_0), ((HB.out.cell (World.block_lt_of_cell? w _ hw276_1)).trans hw276_1)⟩ (fun hHeld => ?_); refine with_tabW impl_isBulged.tab5 impl_isBulged.bits5 (fun HT_ HW_ => ?_)
            generalize wr.drew = w14 at HB hx274_0 hx274_1 hx275_0 hx275_1 hx276_0 hx276_1 hHeld ⊢
            refine zp 0 12 ?_
            refine zp 1 13 ?_
            refine zp 2 14 ?_
            refine zp 4 16 ?_
            refine zp 5 17 ?_
            refine zp 6 18 ?_
            refine zp 7 19 ?_
            refine zp 8 20 ?_
            refine zp 9 21 ?_
            refine zp 11 23 ?_
            refine zp 12 24 ?_
            refine zp 13 25 ?_
            refine zp 14 26 ?_
            refine zp 15 27 ?_
            refine zp 16 28 ?_
            refine zt 3 15 hHeld ?_
            refine zt 10 22 hHeld ?_
            refine zt 17 29 hHeld ?_
            refine zo 18 (some 30) (fun K hK => ?_)
            refine goes_ Try.func56 (by kernel_rfl) rfl #[.agg #[.int .i64 ((rd_T49 l0 x9_1).f0), .int .i64 ((rd_T49 l0 x9_1).f1)], .agg #[.int .i64 ((rd_T49 l0 (ji6)).f0), .int .i64 ((rd_T49 l0 (ji6)).f1)], .agg #[.int .i64 ((rd_T49 l0 (ji9)).f0), .int .i64 ((rd_T49 l0 (ji9)).f1)]] (by rfl) rfl rfl (by (try simp only [List.map_toArray, List.map_cons, List.map_nil]); first | done | (simp only [hji6, hji9]; rfl) | rfl | (simp only [List.length_drop, List.length_take]; rfl)) ?_
            with_reducible refine (impl_turnAt.calls ((rd_T49 l0 x9_1).f0) ((rd_T49 l0 x9_1).f1) ((rd_T49 l0 (ji6)).f0) ((rd_T49 l0 (ji6)).f1) ((rd_T49 l0 (ji9)).f0) ((rd_T49 l0 (ji9)).f1) t277 _ A12.out).mono ?_
            rintro e w15 ⟨rfl, hb⟩
            refine ⟨_, rfl, ?_⟩
            have n0_ := zbs HB.out hb; clear HB; have HB := n0_; clear n0_
            (try clear hb)
            (try clear hb2)
            (try clear hk)
            (try clear hi)
            refine hK.out _ _ ⟨((HB.out.cell (World.block_lt_of_cell? w _ hw274_0)).trans hw274_0), ((HB.out.cell (World.block_lt_of_cell? w _ hw274_1)).trans hw274_1), ((HB.out.cell (World.block_lt_of_cell? w _ hw275_0)).trans hw275_0), ((HB.out.cell (World.block_lt_of_cell? w _ hw275_1)).trans hw275_1), ((HB.out.cell (World.block_lt_of_cell? w _ hw276_0)).trans hw276_0), ((HB.out.cell (World.block_lt_of_cell? w _ hw276_1)).trans hw276_1)⟩ (fun hHeld => ?_)
            clear hK K
            refine zn 30 ?_
            refine zp 19 31 ?_
            refine done_ (done_of HT_.out (by kernel_rfl)) ?_
            try go_wp2
            go_ret
            exact ⟨by first | rfl | (simp [errW_none, errW_some] <;> rfl) | (simp only [← hji6, ← hji9]; first | rfl | (simp [errW_none, errW_some] <;> rfl)) | (simp [*, errW_none, errW_some] <;> rfl), zB HB.out⟩
           ·rw [if_neg c13] at H
            have c13b0 := decide_eq_false c13; clear c13; have H' := zQ H; clear H
            try go_wp2
            have n0_ := zQ (below_drew1 HB.out); clear HB; have HB := n0_; clear n0_; have p274 : 0 ≤ (x9_1 : Int) := zD; have q274 : x9_1 < (l0.length : Int) := zD; obtain ⟨ad274, e274, hx274_0, hx274_1⟩ := at_T49 HR0.out x9_1 p274 q274; have hw274_1 := hx274_1; have hw274_0 := hx274_0
            cases e274
            replace hx274_0 := zw HB.out hx274_0; replace hx274_1 := zw HB.out hx274_1; replace p274 := eq_true p274; replace q274 := eq_true q274; have p275 : 0 ≤ ((ji6) : Int) := zD; have q275 : (ji6) < (l0.length : Int) := zD; obtain ⟨ad275, e275, hx275_0, hx275_1⟩ := at_T49 HR0.out (ji6) p275 q275; have hw275_1 := hx275_1; have hw275_0 := hx275_0; obtain rfl : ad274 = ad275 := (by injection e275); replace hx275_0 := zw HB.out hx275_0; replace hx275_1 := zw HB.out hx275_1; replace p275 := eq_true p275; replace q275 := eq_true q275; have p276 : 0 ≤ ((ji9) : Int) := zD; have q276 : (ji9) < (l0.length : Int) := zD; obtain ⟨ad276, e276, hx276_0, hx276_1⟩ := at_T49 HR0.out (ji9) p276 q276; have hw276_1 := hx276_1; have hw276_0 := hx276_0; obtain rfl : ad274 = ad276 := (by injection e276); replace hx276_0 := zw HB.out hx276_0; replace hx276_1 := zw HB.out hx276_1; replace p276 := eq_true p276; replace q276 := eq_true q276
            refine zs (fun w' => w'.cell? (ad274.add ((x9_1).toNat * 2)) = some (.int .i64 ((rd_T49 l0 x9_1).f0)) ∧ w'.cell? ⟨(ad274.add ((x9_1).toNat * 2)).block, (ad274.add ((x9_1).toNat * 2)).off + 1, none⟩ = some (.int .i64 ((rd_T49 l0 x9_1).f1)) ∧ w'.cell? (ad274.add (((ji6)).toNat * 2)) = some (.int .i64 ((rd_T49 l0 (ji6)).f0)) ∧ w'.cell? ⟨(ad274.add (((ji6)).toNat * 2)).block, (ad274.add (((ji6)).toNat * 2)).off + 1, none⟩ = some (.int .i64 ((rd_T49 l0 (ji6)).f1)) ∧ w'.cell? (ad274.add (((ji9)).toNat * 2)) = some (.int .i64 ((rd_T49 l0 (ji9)).f0)) ∧ w'.cell? ⟨(ad274.add (((ji9)).toNat * 2)).block, (ad274.add (((ji9)).toNat * 2)).off + 1, none⟩ = some (.int .i64 ((rd_T49 l0 (ji9)).f1))) [] 20 ⟨((HB.out.cell (World.block_lt_of_cell? w _ hw274_0)).trans hw274_0), ((HB.out.cell (World.block_lt_of_cell? w _ hw274_1)).trans hw274_1), ((HB.out.cell (World.block_lt_of_cell? w _ hw275_0)).trans hw275_0), ((HB.out.cell (World.block_lt_of_cell? w _ hw275_1)).trans hw275_1), ((HB.out.cell (World.block_lt_of_cell? w _ hw276_0)).trans hw276_0), ((HB.out.cell (World.block_lt_of_cell? w _ hw276_1)).trans hw276_1)⟩ (fun hHeld => ?_); refine with_tabW impl_isBulged.tab5 impl_isBulged.bits5 (fun HT_ HW_ => ?_)
            generalize wr.drew = w16 at HB hx274_0 hx274_1 hx275_0 hx275_1 hx276_0 hx276_1 hHeld ⊢
            refine zp 0 12 ?_
            refine zp 1 13 ?_
            refine zp 2 14 ?_
            refine zp 4 16 ?_
            refine zp 5 17 ?_
            refine zp 6 18 ?_
            refine zp 7 19 ?_
            refine zp 8 20 ?_
            refine zp 9 21 ?_
            refine zp 11 23 ?_
            refine zp 12 24 ?_
            refine zp 13 25 ?_
            refine zp 14 26 ?_
            refine zp 15 27 ?_
            refine zp 16 28 ?_
            refine zt 3 15 hHeld ?_
            refine zt 10 22 hHeld ?_
            refine zt 17 29 hHeld ?_
            refine zo 18 (some 30) (fun K hK => ?_)
            refine goes_ Try.func56 (by kernel_rfl) rfl #[.agg #[.int .i64 ((rd_T49 l0 x9_1).f0), .int .i64 ((rd_T49 l0 x9_1).f1)], .agg #[.int .i64 ((rd_T49 l0 (ji6)).f0), .int .i64 ((rd_T49 l0 (ji6)).f1)], .agg #[.int .i64 ((rd_T49 l0 (ji9)).f0), .int .i64 ((rd_T49 l0 (ji9)).f1)]] (by rfl) rfl rfl (by (try simp only [List.map_toArray, List.map_cons, List.map_nil]); first | done | (simp only [hji6, hji9]; rfl) | rfl | (simp only [List.length_drop, List.length_take]; rfl)) ?_
            with_reducible refine (impl_turnAt.calls ((rd_T49 l0 x9_1).f0) ((rd_T49 l0 x9_1).f1) ((rd_T49 l0 (ji6)).f0) ((rd_T49 l0 (ji6)).f1) ((rd_T49 l0 (ji9)).f0) ((rd_T49 l0 (ji9)).f1) t277 _ A12.out).mono ?_
            rintro e w17 ⟨rfl, hb⟩
            refine ⟨_, rfl, ?_⟩
            have n0_ := zbs HB.out hb; clear HB; have HB := n0_; clear n0_
            (try clear hb)
            (try clear hb2)
            (try clear hk)
            (try clear hi)
            refine hK.out _ _ ⟨((HB.out.cell (World.block_lt_of_cell? w _ hw274_0)).trans hw274_0), ((HB.out.cell (World.block_lt_of_cell? w _ hw274_1)).trans hw274_1), ((HB.out.cell (World.block_lt_of_cell? w _ hw275_0)).trans hw275_0), ((HB.out.cell (World.block_lt_of_cell? w _ hw275_1)).trans hw275_1), ((HB.out.cell (World.block_lt_of_cell? w _ hw276_0)).trans hw276_0), ((HB.out.cell (World.block_lt_of_cell? w _ hw276_1)).trans hw276_1)⟩ (fun hHeld => ?_)
            clear hK K
            refine zn 30 ?_
            refine zp 19 31 ?_
            refine done_ (done_of HT_.out (by kernel_rfl)) ?_
            try go_wp2
            go_roundg k1
            case measure => have := HK1.out; omega
            case rel => exact ⟨(wrap64 (x9_1 + 1)), (zF), H', ⟨by have := HK1.out; omega⟩, ⟨zB HB.out⟩⟩
          ·rw [if_neg c11] at H
           exact absurd H (by simp)
         ·rw [if_neg c10] at H
          exact absurd H (by simp)
        ·rw [if_neg c8] at H
         exact absurd H (by simp)
       ·rw [if_neg c7] at H
        exact absurd H (by simp)
     ·rw [if_neg c4] at H
      exact absurd H (by simp)
    ·rw [if_neg c3] at H
     exact absurd H (by simp)
   ·rw [if_neg c2] at H
    have c2b0 := decide_eq_false c2; clear c2; obtain rfl := Option.some.inj H
    go_wp2
    go_ret
    exact ⟨zE, zB HB.out⟩

mutual
def impl_gcd.j0 : Nat → Int → Int → Option (Int)
 | 0, _, _ => none
 | k + 1, x0, x1 => impl_gcd.l0 k x0 x1
def impl_gcd.l0 : Nat → Int → Int → Option (Int)
 | 0, _, _ => none
 | k + 1, x0, x1 => if x1 = 0 then (some x0) else (impl_gcd.l0 k x1 (Int.tmod x0 x1))
end
def impl_gcd.f (k : Nat) (a0 : Int) (a1 : Int) : Option (Int) := if a0 < 0 then (impl_gcd.j0 k (wrap64 (-a0)) a1) else (impl_gcd.j0 k a0 a1)
theorem impl_gcd.calls (k : Nat) (a0 : Int) (a1 : Int) (r : Int) (w : World) (h : impl_gcd.f k a0 a1 = some r) :
  Calls Try.prog 72 #[.int .i64 a0, .int .i64 a1] w fun e w' => e = .returned (.int .i64 r) ∧ Drawn0 w w' := by
 have H := h; unfold impl_gcd.f at H
 clear h
 have HC3 := zQ H
 clear H
 go_enter Try.func72, Try.ntmps72
 go_upto_if 6 with (fail)
 repeat (go_quiet (fail); go_upto_if 6 with (fail); try go_upto_if 6 with (fail))
 go_cut [0] (fun v0 wc => ∃ (kq : Nat) (x0_2 : Int), v0 = .int .i64 x0_2 ∧ Aside0 (impl_gcd.j0 kq x0_2 a1 = some r) ∧ Aside0 (kq ≤ k) ∧ Drawn0 w wc)
 case first =>
  have H := HC3.out; clear HC3
  by_cases c4 : a0 < 0
  ·rw [if_pos c4] at H
   have c4b0 := decide_eq_true c4; clear c4
   (first | rw [c4b0] | (simp only [i64_w, i32_w]; rw [c4b0]) | skip)
   have H' := zQ H; clear H
   go_wp2
   repeat (go_quiet (fail); try go_wp2)
   go_meet
   case rel => exact ⟨_, (wrap64 (-a0)), (zF), H', ⟨by first | omega | exact Nat.le_refl _⟩, by repeat (first | exact Drawn0.refl _ | apply Drawn0.step)⟩
  ·rw [if_neg c4] at H
   have c4b0 := decide_eq_false c4; clear c4
   (first | rw [c4b0] | (simp only [i64_w, i32_w]; rw [c4b0]) | skip)
   have H' := zQ H; clear H
   go_wp2
   repeat (go_quiet (fail); try go_wp2)
   go_meet
   case rel => exact ⟨_, (a0), (zF), H', ⟨by first | omega | exact Nat.le_refl _⟩, by repeat (first | exact Drawn0.refl _ | apply Drawn0.step)⟩
 case rest =>
  clear HC3; (try clear p2); (try clear c4); (try clear c4b0); obtain ⟨kq, x0_2, rfl, HA, HJ2, ⟨mc2, rfl⟩⟩ := hcut
  cases kq with
  | zero => exact absurd HA.out (by simp [impl_gcd.j0])
  | succ kj2 =>
   have H := HA.out; clear HA
   simp only [impl_gcd.j0] at H
   have H' := zQ H; clear H
   go_wp2
   repeat (go_quiet (fail); try go_wp2)
   go_loopg [0, 1] kj2 (fun kq v0 v1 w' => ∃ (x0_2 : Int) (x1_2 : Int), v0 = .int .i64 x0_2 ∧ v1 = .int .i64 x1_2 ∧ Aside0 (impl_gcd.l0 kq x0_2 x1_2 = some r) ∧ Aside0 (kq ≤ kj2) ∧ Drawn0 w w')
   case atStart => exact ⟨(x0_2), (a1), (zF), (zF), H', ⟨Nat.le_refl _⟩, by repeat (first | exact Drawn0.refl _ | apply Drawn0.step)⟩
   case round =>
    clear H'; (try clear c2); (try clear p2); (try clear c4); (try clear c4b0); (try clear p2); obtain ⟨x0_2, x1_2, rfl, rfl, HA, HK2, ⟨m2, rfl⟩⟩ := hrel
    cases gk with
    | zero => exact absurd HA.out (by simp [impl_gcd.l0])
    | succ k2 =>
     have H := HA.out; clear HA
     simp only [impl_gcd.l0] at H
     by_cases c5 : x1_2 = 0
     ·rw [if_pos c5] at H
      have c5b0 : (x1_2 == 0) = true := beq_iff_eq.mpr c5; have c5b1 : (x1_2 != 0) = false := bne_eq_false_iff_eq.mpr c5; clear c5; obtain rfl := Option.some.inj H
      go_wp2
      repeat (go_quiet (fail); try go_wp2)
      go_ret
      exact ⟨zF, by repeat (first | exact Drawn0.refl _ | apply Drawn0.step)⟩
     ·rw [if_neg c5] at H
      have c5b0 : (x1_2 == 0) = false := beq_eq_false_iff_ne.mpr c5; have c5b1 : (x1_2 != 0) = true := bne_iff_ne.mpr c5; have H' := zQ H; clear H
      go_wp2
      repeat (go_quiet (fail); try go_wp2)
      go_roundg k2
      case measure => have := HJ2.out; have := HK2.out; omega
      case rel => exact ⟨(x1_2), (Int.tmod x0_2 x1_2), (zF), (zF), H', ⟨by have := HJ2.out; have := HK2.out; omega⟩, by repeat (first | exact Drawn0.refl _ | apply Drawn0.step)⟩

end
end Go.Proofs.Ytcomncokgkeniaa.PSailw

