import Derived.Test.YtchngbjpjbahiaaGreatDoorHSailz0
import Derived.Test.YtchngbjpjbahiaaGreatDoorHSailzg
import Derived.Test.YtchngbjpjbahiaaGreatDoorHSailzi
namespace Go.Proofs.YtchngbjpjbahiaaGreatDoor.PSailz
noncomputable section
open Go.RowKit Go.Proofs.YtchngbjpjbahiaaGreatDoorW.PrintWords Go.Proofs.YtchngbjpjbahiaaGreatDoorW.PrintLast Go.Proofs.YtchngbjpjbahiaaGreatDoorW.PrintMore
attribute [local go_sem] max2_int min2_int max_two min_two max_three min_three max_four min_four   -- for this text's walks alone
set_option linter.unusedVariables false
set_option linter.unusedSimpArgs false
set_option maxHeartbeats 8000000
set_option maxRecDepth 100000

def spec_l13Moments.l0 : Nat → List (S47) → Int → Int → Int → Option (Int × Int)
 | 0, _, _, _, _ => none
 | k + 1, x0, x4, x5, x6 => if x6 < (x0.length : Int) then (if 0 ≤ x6 then (if (x0.length : Int) = 0 then (none) else (if 0 ≤ (Int.tmod (wrap64 (x6 + 1)) (x0.length : Int)) then (if (Int.tmod (wrap64 (x6 + 1)) (x0.length : Int)) < (x0.length : Int) then (spec_l13Moments.l0 k x0 (wrap64 (x4 + (wrap64 ((wrap64 (((rd_T47 x0 x6).f0) + ((rd_T47 x0 (Int.tmod (wrap64 (x6 + 1)) (x0.length : Int))).f0))) * (wrap64 ((wrap64 (((rd_T47 x0 x6).f0) * ((rd_T47 x0 (Int.tmod (wrap64 (x6 + 1)) (x0.length : Int))).f1))) - (wrap64 (((rd_T47 x0 (Int.tmod (wrap64 (x6 + 1)) (x0.length : Int))).f0) * ((rd_T47 x0 x6).f1))))))))) (wrap64 (x5 + (wrap64 ((wrap64 (((rd_T47 x0 x6).f1) + ((rd_T47 x0 (Int.tmod (wrap64 (x6 + 1)) (x0.length : Int))).f1))) * (wrap64 ((wrap64 (((rd_T47 x0 x6).f0) * ((rd_T47 x0 (Int.tmod (wrap64 (x6 + 1)) (x0.length : Int))).f1))) - (wrap64 (((rd_T47 x0 (Int.tmod (wrap64 (x6 + 1)) (x0.length : Int))).f0) * ((rd_T47 x0 x6).f1))))))))) (wrap64 (x6 + 1))) else (none)) else (none))) else (none)) else (some (x4, x5))
def spec_l13Moments.f (k : Nat) (l0 : List (S47)) : Option (Int × Int) := spec_l13Moments.l0 k l0 0 0 0
theorem spec_l13Moments.calls (k : Nat) (A0 : Option Addr) (c0 : Nat) (l0 : List (S47)) (r1 : Int) (r2 : Int) (w : World) (hr0 : Kd.C k47 w A0 l0.length l0) (hc0 : l0.length ≤ c0) (h : spec_l13Moments.f k l0 = some (r1, r2)) :
  Calls Tryz.prog 36 #[.slice A0 l0.length c0] w fun e w' => e = .returned (.tuple #[.int .i64 r1, .int .i64 r2]) ∧ Below w.heap.size w w' := by
 have hu47 := Tryz.underlying47
 have HR0 := zQ hr0
 have HC0 := zQ hc0
 clear hr0 hc0
 have HB := zQ (Below.refl w.heap.size w)
 have H : (spec_l13Moments.l0 k l0 0 0 0) = some (r1, r2) := h
 clear h
 have H' := zQ H
 clear H
 go_enter Tryz.func36, Tryz.ntmps36
 go_wp2
 go_loopg [4, 5, 6] k (fun kq v4 v5 v6 w' => ∃ (x4_1 : Int) (x5_1 : Int) (x6_1 : Int), v4 = .int .i64 x4_1 ∧ v5 = .int .i64 x5_1 ∧ v6 = .int .i64 x6_1 ∧ Aside0 (spec_l13Moments.l0 kq l0 x4_1 x5_1 x6_1 = some (r1, r2)) ∧ Aside0 (kq ≤ k) ∧ Aside0 (Below w.heap.size w w'))
 case atStart => exact ⟨(0), (0), (0), (zF), (zF), (zF), H', ⟨Nat.le_refl _⟩, ⟨zB HB.out⟩⟩
 case round =>
  clear H'; obtain ⟨x4_1, x5_1, x6_1, rfl, rfl, rfl, HA, HK1, HB⟩ := hrel
  cases gk with
  | zero => exact absurd HA.out (by simp [spec_l13Moments.l0])
  | succ k1 =>
   have H := HA.out; clear HA
   simp only [spec_l13Moments.l0] at H
   by_cases c2 : x6_1 < (l0.length : Int)
   ·rw [if_pos c2] at H
    have c2b0 := decide_eq_true c2; clear c2
    by_cases c3 : 0 ≤ x6_1
    ·rw [if_pos c3] at H
     have c3b0 := decide_eq_true c3; clear c3
     by_cases c4 : (l0.length : Int) = 0
     ·rw [if_pos c4] at H
      exact absurd H (by simp)
     ·rw [if_neg c4] at H
      have c4b0 : ((l0.length : Int) == 0) = false := beq_eq_false_iff_ne.mpr c4; have c4b1 : ((l0.length : Int) != 0) = true := bne_iff_ne.mpr c4
      have c4b2 : ¬ (l0 = []) := fun h_ => c4 (by rw [h_]; rfl)
      obtain ⟨ji5, hji5⟩ : ∃ j_ : Int, (Int.tmod (wrap64 (x6_1 + 1)) (l0.length : Int)) = j_ := ⟨_, rfl⟩
      replace H : (if 0 ≤ (ji5) then (if (ji5) < (l0.length : Int) then (spec_l13Moments.l0 k1 l0 (wrap64 (x4_1 + (wrap64 ((wrap64 (((rd_T47 l0 x6_1).f0) + ((rd_T47 l0 (ji5)).f0))) * (wrap64 ((wrap64 (((rd_T47 l0 x6_1).f0) * ((rd_T47 l0 (ji5)).f1))) - (wrap64 (((rd_T47 l0 (ji5)).f0) * ((rd_T47 l0 x6_1).f1))))))))) (wrap64 (x5_1 + (wrap64 ((wrap64 (((rd_T47 l0 x6_1).f1) + ((rd_T47 l0 (ji5)).f1))) * (wrap64 ((wrap64 (((rd_T47 l0 x6_1).f0) * ((rd_T47 l0 (ji5)).f1))) - (wrap64 (((rd_T47 l0 (ji5)).f0) * ((rd_T47 l0 x6_1).f1))))))))) (wrap64 (x6_1 + 1))) else (none)) else (none)) = some (r1, r2) := by first | (rw [hji5] at H; exact H) | (simp only [hji5] at H ⊢; exact H)
      by_cases c6 : 0 ≤ (ji5)
      ·rw [if_pos c6] at H
       have c6b0 := decide_eq_true c6; clear c6
       by_cases c7 : (ji5) < (l0.length : Int)
       ·rw [if_pos c7] at H
        have c7b0 := decide_eq_true c7; clear c7; have H' := zQ H; clear H; have p377 : 0 ≤ (x6_1 : Int) := zD; have q377 : x6_1 < (l0.length : Int) := zD; obtain ⟨ad377, e377, hx377_0, hx377_1⟩ := at_T47 HR0.out x6_1 p377 q377
        cases e377
        replace hx377_0 := zw HB.out hx377_0; replace hx377_1 := zw HB.out hx377_1; replace p377 := eq_true p377; replace q377 := eq_true q377
        go_wp2_with (first | ((with_reducible refine zd 7 ?_); refine zbx (N := 7) (cs := #[.int .i64 0, .int .i64 0]) (t := 47) ?_; intro gb378 hg w8 hbox hb; have BK378 := zQ (hbox); have GW378 := zgz hg HB.out; have GE378 := GW378; replace HB := zbs HB.out hb; clear hb hbox hg; obtain ⟨hcz9_0, hcz9_1, hfz9_0, hfz9_1⟩ := zy2 BK378.out; have p379 : 0 ≤ ((ji5) : Int) := zD; have q379 : (ji5) < (l0.length : Int) := zD; obtain ⟨ad379, e379, hx379_0, hx379_1⟩ := at_T47 HR0.out (ji5) p379 q379; obtain rfl : ad377 = ad379 := (by injection e379); have hn379_0 : ad377.block ≠ gb378 := Nat.ne_of_lt (Nat.lt_of_lt_of_le (by have := World.block_lt_of_cell? _ _ hx379_0; first | rwa [add_block] at this | exact this) GW378.out); have hn379_1 : ad377.block ≠ gb378 := Nat.ne_of_lt (Nat.lt_of_lt_of_le (by have := World.block_lt_of_cell? _ _ hx379_0; first | rwa [add_block] at this | exact this) GW378.out); replace hx379_0 := zw HB.out hx379_0; replace hx379_1 := zw HB.out hx379_1; replace hx379_0 := (cell_far (p := ⟨gb378, 0, none⟩) (by first | (rw [add_block]; exact hn379_0) | (show (Addr.add _ _).block ≠ _; rw [add_block]; exact hn379_0) | exact hn379_0) (.int .i64 ((rd_T47 l0 x6_1).f0))).trans hx379_0; replace hx379_1 := (cell_far (p := ⟨gb378, 0, none⟩) (by first | (rw [add_block]; exact hn379_0) | (show (Addr.add _ _).block ≠ _; rw [add_block]; exact hn379_0) | exact hn379_0) (.int .i64 ((rd_T47 l0 x6_1).f0))).trans hx379_1; replace hx379_0 := (cell_far (p := ⟨gb378, 1, none⟩) (by first | (rw [add_block]; exact hn379_1) | (show (Addr.add _ _).block ≠ _; rw [add_block]; exact hn379_1) | exact hn379_1) (.int .i64 ((rd_T47 l0 x6_1).f1))).trans hx379_0; replace hx379_1 := (cell_far (p := ⟨gb378, 1, none⟩) (by first | (rw [add_block]; exact hn379_1) | (show (Addr.add _ _).block ≠ _; rw [add_block]; exact hn379_1) | exact hn379_1) (.int .i64 ((rd_T47 l0 x6_1).f1))).trans hx379_1; clear hn379_0; clear hn379_1; replace p379 := eq_true p379; replace q379 := eq_true q379) | ((with_reducible refine zd 8 ?_); refine zbx (N := 8) (cs := #[.int .i64 0, .int .i64 0]) (t := 47) ?_; intro gb380 hg w10 hbox hb; have BK380 := zQ (hbox); have GW380 := zgz2 hg HB.out GE378.out; have GE380 := GW380; have NB378_380 := zQ ((by rw [hg]; exact Nat.ne_of_lt (blk_lt (g := gb378) (o := .cells #[.int .i64 ((rd_T47 l0 x6_1).f0), .int .i64 ((rd_T47 l0 x6_1).f1)] 47 (0, 0)) (by refine zb ?_; refine blk_put (cs := #[.int .i64 ((rd_T47 l0 x6_1).f0), .int .i64 0]) ?_ 1 _ rfl; refine zb ?_; refine blk_put (cs := #[.int .i64 0, .int .i64 0]) ?_ 0 _ rfl; refine zb ?_; exact BK378.out)) : gb378 ≠ gb380)); have NB380_378 := zQ ((by rw [hg]; exact Nat.ne_of_gt (blk_lt (g := gb378) (o := .cells #[.int .i64 ((rd_T47 l0 x6_1).f0), .int .i64 ((rd_T47 l0 x6_1).f1)] 47 (0, 0)) (by refine zb ?_; refine blk_put (cs := #[.int .i64 ((rd_T47 l0 x6_1).f0), .int .i64 0]) ?_ 1 _ rfl; refine zb ?_; refine blk_put (cs := #[.int .i64 0, .int .i64 0]) ?_ 0 _ rfl; refine zb ?_; exact BK378.out)) : gb380 ≠ gb378)); replace BK378 := zQ (blk_below (g := gb378) (o := .cells #[.int .i64 ((rd_T47 l0 x6_1).f0), .int .i64 ((rd_T47 l0 x6_1).f1)] 47 (0, 0)) (by refine zb ?_; refine blk_put (cs := #[.int .i64 ((rd_T47 l0 x6_1).f0), .int .i64 0]) ?_ 1 _ rfl; refine zb ?_; refine blk_put (cs := #[.int .i64 0, .int .i64 0]) ?_ 0 _ rfl; refine zb ?_; exact BK378.out) hb); replace HB := zbs2 HB.out GE378.out hb; clear hb hbox hg; have hnb11 := NB380_378.out; have hnc11 := NB378_380.out; obtain ⟨hcz12_0, hcz12_1, hfz12_0, hfz12_1⟩ := zy2 BK380.out; obtain ⟨hcz13_0, hcz13_1, hfz13_0, hfz13_1⟩ := zy2 BK378.out))
        go_roundg k1
        case measure => have := HK1.out; omega
        case rel => exact ⟨(wrap64 (x4_1 + (wrap64 ((wrap64 (((rd_T47 l0 x6_1).f0) + ((rd_T47 l0 (ji5)).f0))) * (wrap64 ((wrap64 (((rd_T47 l0 x6_1).f0) * ((rd_T47 l0 (ji5)).f1))) - (wrap64 (((rd_T47 l0 (ji5)).f0) * ((rd_T47 l0 x6_1).f1))))))))), (wrap64 (x5_1 + (wrap64 ((wrap64 (((rd_T47 l0 x6_1).f1) + ((rd_T47 l0 (ji5)).f1))) * (wrap64 ((wrap64 (((rd_T47 l0 x6_1).f0) * ((rd_T47 l0 (ji5)).f1))) - (wrap64 (((rd_T47 l0 (ji5)).f0) * ((rd_T47 l0 x6_1).f1))))))))), (wrap64 (x6_1 + 1)), (by first | rfl | (simp; done) | (simp only [← hji5] <;> (first | rfl | simp)) | (simp [*]; done)), (by first | rfl | (simp; done) | (simp only [← hji5] <;> (first | rfl | simp)) | (simp [*]; done)), (zF), H', ⟨by have := HK1.out; omega⟩, ⟨zB3 HB.out GE378.out GE380.out⟩⟩
       ·rw [if_neg c7] at H
        exact absurd H (by simp)
      ·rw [if_neg c6] at H
       exact absurd H (by simp)
    ·rw [if_neg c3] at H
     exact absurd H (by simp)
   ·rw [if_neg c2] at H
    have c2b0 := decide_eq_false c2; clear c2
    simp only [Option.some.injEq, Prod.mk.injEq] at H
    obtain ⟨rfl, rfl⟩ := H
    go_wp2
    go_ret2
    exact ⟨zE, zB HB.out⟩

def spec_l00Gcd.l0 : Nat → Int → Int → Option (Int)
 | 0, _, _ => none
 | k + 1, x0, x1 => if x1 = 0 then (some x0) else (spec_l00Gcd.l0 k x1 (Int.tmod x0 x1))
def spec_l00Gcd.f (k : Nat) (a0 : Int) (a1 : Int) : Option (Int) := spec_l00Gcd.l0 k a0 a1
theorem spec_l00Gcd.calls (k : Nat) (a0 : Int) (a1 : Int) (r : Int) (w : World) (h : spec_l00Gcd.f k a0 a1 = some r) :
  Calls Tryz.prog 55 #[.int .i64 a0, .int .i64 a1] w fun e w' => e = .returned (.int .i64 r) ∧ Drawn0 w w' := by
 have H : (spec_l00Gcd.l0 k a0 a1) = some r := h
 clear h
 have H' := zQ H
 clear H
 go_enter Tryz.func55, Tryz.ntmps55
 go_wp2
 go_loopg [0, 1] k (fun kq v0 v1 w' => ∃ (x0_1 : Int) (x1_1 : Int), v0 = .int .i64 x0_1 ∧ v1 = .int .i64 x1_1 ∧ Aside0 (spec_l00Gcd.l0 kq x0_1 x1_1 = some r) ∧ Aside0 (kq ≤ k) ∧ Drawn0 w w')
 case atStart => exact ⟨(a0), (a1), (zF), (zF), H', ⟨Nat.le_refl _⟩, by repeat (first | exact Drawn0.refl _ | apply Drawn0.step)⟩
 case round =>
  clear H'; (try clear p2); obtain ⟨x0_1, x1_1, rfl, rfl, HA, HK1, ⟨m1, rfl⟩⟩ := hrel
  cases gk with
  | zero => exact absurd HA.out (by simp [spec_l00Gcd.l0])
  | succ k1 =>
   have H := HA.out; clear HA
   simp only [spec_l00Gcd.l0] at H
   by_cases c3 : x1_1 = 0
   ·rw [if_pos c3] at H
    have c3b0 : (x1_1 == 0) = true := beq_iff_eq.mpr c3; have c3b1 : (x1_1 != 0) = false := bne_eq_false_iff_eq.mpr c3; clear c3; obtain rfl := Option.some.inj H
    go_wp2
    go_ret
    exact ⟨zF, by repeat (first | exact Drawn0.refl _ | apply Drawn0.step)⟩
   ·rw [if_neg c3] at H
    have c3b0 : (x1_1 == 0) = false := beq_eq_false_iff_ne.mpr c3; have c3b1 : (x1_1 != 0) = true := bne_iff_ne.mpr c3; have H' := zQ H; clear H
    go_wp2
    go_roundg k1
    case measure => have := HK1.out; omega
    case rel => exact ⟨(x1_1), (Int.tmod x0_1 x1_1), (zF), (zF), H', ⟨by have := HK1.out; omega⟩, by repeat (first | exact Drawn0.refl _ | apply Drawn0.step)⟩

def spec_l00Size.f (a0 : Int) : Option (Int) := if a0 < 0 then (some (wrap64 (-a0))) else (some a0)
theorem spec_l00Size.calls (a0 : Int) (r : Int) (w : World) (h : spec_l00Size.f a0 = some r) :
  Calls Tryz.prog 56 #[.int .i64 a0] w fun e w' => e = .returned (.int .i64 r) ∧ Drawn0 w w' := by
 have H := h; unfold spec_l00Size.f at H
 clear h
 by_cases c2 : a0 < 0
 ·rw [if_pos c2] at H
  have c2b0 := decide_eq_true c2; clear c2; obtain rfl := Option.some.inj H
  go_enter Tryz.func56, Tryz.ntmps56
  go_wp2
  go_ret
  exact ⟨zF, by repeat (first | exact Drawn0.refl _ | apply Drawn0.step)⟩
 ·rw [if_neg c2] at H
  have c2b0 := decide_eq_false c2; clear c2; obtain rfl := Option.some.inj H
  go_enter Tryz.func56, Tryz.ntmps56
  go_wp2
  go_ret
  exact ⟨zF, by repeat (first | exact Drawn0.refl _ | apply Drawn0.step)⟩

def spec_l01Make.f (k : Nat) (a0 : Int) (a1 : Int) : Option (Int × Int) := (spec_l00Size.f a0).bind fun t382 => ((spec_l00Gcd.f k t382 a1).bind fun t383 => (if t383 = 0 then (none) else (some (wrap64 (Int.tdiv a0 t383), wrap64 (Int.tdiv a1 t383)))))
def spec_l01Make.T2 : Bool × List (List Nat × List Nat) := (true, [([], []), ([], []), ([0, 1], [0, 1]), ([], []), ([], []), ([3, 4], [3, 4]), ([2, 5], [2, 5]), ([6, 0, 1, 2, 3, 4, 5, 6], [6])])
def spec_l01Make.B2 : List Nat := [0, 0, 3, 0, 0, 24, 63, 127]
theorem spec_l01Make.tab2 : rtab .any (opsOf Tryz.f37 2) = spec_l01Make.T2 := by kernel_rfl
theorem spec_l01Make.bits2 : waitsOk spec_l01Make.T2.2 spec_l01Make.B2 = true := by kernel_rfl
theorem spec_l01Make.calls (k : Nat) (a0 : Int) (a1 : Int) (r1 : Int) (r2 : Int) (w : World) (h : spec_l01Make.f k a0 a1 = some (r1, r2)) :
  Calls Tryz.prog 37 #[.int .i64 a0, .int .i64 a1] w fun e w' => e = .returned (.agg #[.int .i64 r1, .int .i64 r2]) ∧ Below w.heap.size w w' := by
 have hu32 := Tryz.underlying32
 have HB := zQ (Below.refl w.heap.size w)
 have H := h; unfold spec_l01Make.f at H
 clear h
 replace H := zob H; obtain ⟨t382, A3, H⟩ := H
 replace H := zob H; obtain ⟨t383, A4, H⟩ := H
 by_cases c5 : t383 = 0
 ·rw [if_pos c5] at H
  exact absurd H (by simp)
 ·rw [if_neg c5] at H
  have c5b0 : (t383 == 0) = false := beq_eq_false_iff_ne.mpr c5; have c5b1 : (t383 != 0) = true := bne_iff_ne.mpr c5
  simp only [Option.some.injEq, Prod.mk.injEq] at H
  obtain ⟨rfl, rfl⟩ := H
  go_enter Tryz.func37, Tryz.ntmps37
  try go_wp2_with (first | ((with_reducible refine zd 4 ?_); refine zbx (N := 4) (cs := #[.int .i64 0, .int .i64 0]) (t := 32) ?_; intro gb381 hg w6 hbox hb; have BK381 := zQ (hbox); have GW381 := zgz hg HB.out; have GE381 := GW381; replace HB := zbs HB.out hb; clear hb hbox hg) | ((with_reducible refine zgc 56 ?_); refine goesL_ (some 7) rfl rfl Tryz.func56 (by kernel_rfl) rfl #[.int .i64 a0] rfl zM ?_; (with_reducible refine (spec_l00Size.calls a0 t382 _ A3.out).mono ?_); rintro e w' ⟨rfl, ⟨nd, rfl⟩⟩; refine ⟨_, rfl, ?_⟩; (try (rw [drewN_self w6]; generalize hq_ : World.drewN w6 _ = w6; have n0_ : Aside0 (w6.heap[gb381]? = some (.cells #[.int .i64 0, .int .i64 0] 32 (0, 0))) := ⟨by rw [← hq_]; exact (zb BK381.out)⟩; have n1_ : Aside0 (Below w.heap.size w w6) := ⟨by rw [← hq_]; exact (zB2 HB.out GE381.out)⟩; clear BK381 HB hq_; have BK381 := n0_; have HB := n1_; clear n0_ n1_)); (try (have hczrw6_gb381_0 := zc0 BK381.out)); (try (have hfzrw6_gb381_0 := zfz BK381.out 0)); (try (have hczrw6_gb381_1 := zc1 BK381.out)); (try (have hfzrw6_gb381_1 := zfz BK381.out 1))) | ((with_reducible refine zgc 55 ?_); refine goesL_ (some 9) rfl rfl Tryz.func55 (by kernel_rfl) rfl #[.int .i64 t382, .int .i64 a1] rfl zM ?_; (with_reducible refine (spec_l00Gcd.calls k t382 a1 t383 _ A4.out).mono ?_); rintro e w' ⟨rfl, ⟨nd, rfl⟩⟩; refine ⟨_, rfl, ?_⟩; (try (rw [drewN_self w6]; generalize hq_ : World.drewN w6 _ = w6; have n0_ : Aside0 (w6.heap[gb381]? = some (.cells #[.int .i64 0, .int .i64 0] 32 (0, 0))) := ⟨by rw [← hq_]; exact (zb BK381.out)⟩; have n1_ : Aside0 (Below w.heap.size w w6) := ⟨by rw [← hq_]; exact (zB2 HB.out GE381.out)⟩; clear BK381 HB hq_; have BK381 := n0_; have HB := n1_; clear n0_ n1_)); (try (have hczrw6_gb381_0 := zc0 BK381.out)); (try (have hfzrw6_gb381_0 := zfz BK381.out 0)); (try (have hczrw6_gb381_1 := zc1 BK381.out)); (try (have hfzrw6_gb381_1 := zfz BK381.out 1))))
  have n0_ := zQ (blk_drew BK381.out); have n1_ := zQ (below_drew1 HB.out); clear BK381; clear HB; have BK381 := n0_; have HB := n1_; clear n0_ n1_
  refine zs (fun w' => True) [] 8 trivial (fun hHeld => ?_); refine with_tabW spec_l01Make.tab2 spec_l01Make.bits2 (fun HT_ HW_ => ?_)
  generalize w6.drew = w7 at BK381 HB hHeld ⊢
  refine zp 0 10 ?_
  refine zp 1 11 ?_
  refine zp 2 12 ?_
  refine zp 3 13 ?_
  refine zp 4 14 ?_
  refine zp 5 15 ?_
  refine zp 6 16 ?_
  refine zo 7 none (fun K hK => ?_)
  have hs8 : w7.cell? ⟨gb381, 0, none⟩ = some (.int .i64 0) := (blk_cell BK381.out 0).trans rfl; have hfs8 := zfz BK381.out 0; have hs9 : w7.cell? ⟨gb381, 1, none⟩ = some (.int .i64 0) := (blk_cell BK381.out 1).trans rfl; have hfs9 := zfz BK381.out 1
  refine skip_ (w1 := ?_) (by rfl) rfl ?_ ?_
  rotate_left
  ·go_simp
   rfl
  refine hK.out _ _ trivial (fun hHeld => ?_)
  clear hK K
  refine done_ (done_of HT_.out (by kernel_rfl)) ?_
  try go_wp2
  refine bodyPost_ret (results_cell_row rfl _ _ gb381 32 #[.int .i64 (wrap64 (Int.tdiv a0 t383)), .int .i64 (wrap64 (Int.tdiv a1 t383))] (0, 0) _ rfl (by refine zb ?_; refine blk_put (cs := #[.int .i64 (wrap64 (Int.tdiv a0 t383)), .int .i64 0]) ?_ 1 _ rfl; refine zb ?_; refine blk_put (cs := #[.int .i64 0, .int .i64 0]) ?_ 0 _ rfl; refine zb ?_; exact BK381.out) Tryz.underlying32 rfl (by kernel_rfl)) rfl ?_
  exact ⟨zE, zB2 HB.out GE381.out⟩

def spec_CentreOf.f (k : Nat) (l0 : List (S47)) : Option (Int × Int × Int × Int × Int) := (spec_l13Ok.f k l0).bind fun t386 => (if t386 = true then ((spec_l13Moments.f k l0).bind fun bt387 => ((spec_l13Twice.f k l0).bind fun t389 => ((spec_l01Make.f k bt387.1 (wrap64 (3 * t389))).bind fun bt390 => ((spec_l01Make.f k bt387.2 (wrap64 (3 * t389))).bind fun bt392 => (some (bt390.1, bt390.2, bt392.1, bt392.2, 0)))))) else (some (0, 0, 0, 0, 1)))
theorem spec_CentreOf.calls (k : Nat) (A0 : Option Addr) (c0 : Nat) (l0 : List (S47)) (r1 : Int) (r2 : Int) (r3 : Int) (r4 : Int) (r5 : Int) (w : World) (hr0 : Kd.C k47 w A0 l0.length l0) (hc0 : l0.length ≤ c0) (h : spec_CentreOf.f k l0 = some (r1, r2, r3, r4, r5)) :
  Calls Tryz.prog 11 #[.slice A0 l0.length c0] w fun e w' => e = .returned (.tuple #[.agg #[.int .i64 r1, .int .i64 r2], .agg #[.int .i64 r3, .int .i64 r4], .int .i64 r5]) ∧ Below w.heap.size w w' := by
 have hu32 := Tryz.underlying32
 have HR0 := zQ hr0
 have HC0 := zQ hc0
 clear hr0 hc0
 have HB := zQ (Below.refl w.heap.size w)
 have H := h; unfold spec_CentreOf.f at H
 clear h
 replace H := zob H; obtain ⟨t386, A2, H⟩ := H
 by_cases c3 : t386 = true
 ·subst c3
  rw [if_pos rfl] at H; replace H := zob H; obtain ⟨⟨t387, t388⟩, A4, H⟩ := H; replace H := zob H; obtain ⟨t389, A5, H⟩ := H; replace H := zob H; obtain ⟨⟨t390, t391⟩, A6, H⟩ := H; replace H := zob H; obtain ⟨⟨t392, t393⟩, A7, H⟩ := H
  simp only [Option.some.injEq, Prod.mk.injEq] at H
  obtain ⟨rfl, rfl, rfl, rfl, rfl⟩ := H
  go_enter Tryz.func11, Tryz.ntmps11
  go_wp2_with (first | ((with_reducible refine zd 2 ?_); refine zbx (N := 2) (cs := #[.int .i64 0, .int .i64 0]) (t := 32) ?_; intro gb384 hg w8 hbox hb; have BK384 := zQ (hbox); have GW384 := zgz hg HB.out; have GE384 := GW384; replace HB := zbs HB.out hb; clear hb hbox hg) | ((with_reducible refine zd 3 ?_); refine zbx (N := 3) (cs := #[.int .i64 0, .int .i64 0]) (t := 32) ?_; intro gb385 hg w9 hbox hb; have BK385 := zQ (hbox); have GW385 := zgz2 hg HB.out GE384.out; have GE385 := GW385; have NB384_385 := zn1 hg BK384.out; have NB385_384 := zn2 hg BK384.out; replace BK384 := zbl BK384.out hb; replace HB := zbs2 HB.out GE384.out hb; clear hb hbox hg) | ((with_reducible refine zgc 31 ?_); refine goesL_ (some 9) rfl rfl Tryz.func31 (by kernel_rfl) rfl #[.slice A0 l0.length c0] rfl zM ?_; (with_reducible refine (spec_l13Ok.calls k _ _ l0 true _ (zC HR0.out HB.out) HC0.out A2.out).mono ?_); rintro e w10 ⟨rfl, hb⟩; refine ⟨_, rfl, ?_⟩; replace BK384 := zbl BK384.out hb; replace BK385 := zbl BK385.out hb; replace HB := zQ (below_step (zB3 HB.out GE384.out GE385.out) hb); (try clear hb)) | ((with_reducible refine zgc 36 ?_); refine goesL_ (some 15) rfl rfl Tryz.func36 (by kernel_rfl) rfl #[.slice A0 l0.length c0] rfl zM ?_; (with_reducible refine (spec_l13Moments.calls k _ _ l0 t387 t388 _ (zC HR0.out HB.out) HC0.out A4.out).mono ?_); rintro e w11 ⟨rfl, hb⟩; refine ⟨_, rfl, ?_⟩; replace BK384 := zbl BK384.out hb; replace BK385 := zbl BK385.out hb; replace HB := zQ (below_step (zB3 HB.out GE384.out GE385.out) hb); (try clear hb)) | ((with_reducible refine zgc 34 ?_); refine goesL_ (some 19) rfl rfl Tryz.func34 (by kernel_rfl) rfl #[.slice A0 l0.length c0] rfl zM ?_; (with_reducible refine (spec_l13Twice.calls k _ _ l0 t389 _ (zC HR0.out HB.out) HC0.out A5.out).mono ?_); rintro e w12 ⟨rfl, hb⟩; refine ⟨_, rfl, ?_⟩; replace BK384 := zbl BK384.out hb; replace BK385 := zbl BK385.out hb; replace HB := zQ (below_step (zB3 HB.out GE384.out GE385.out) hb); (try clear hb)) | ((with_reducible refine zgc 37 ?_); refine goesL_ (some 23) rfl rfl Tryz.func37 (by kernel_rfl) rfl #[.int .i64 t387, .int .i64 (wrap64 (3 * t389))] rfl zM ?_; (with_reducible refine (spec_l01Make.calls k t387 (wrap64 (3 * t389)) t390 t391 _ A6.out).mono ?_); rintro e w13 ⟨rfl, hb⟩; refine ⟨_, rfl, ?_⟩; replace BK384 := zbl BK384.out hb; replace BK385 := zbl BK385.out hb; replace HB := zQ (below_step (zB3 HB.out GE384.out GE385.out) hb); (try clear hb)) | ((with_reducible refine zgc 37 ?_); refine goesL_ (some 26) rfl rfl Tryz.func37 (by kernel_rfl) rfl #[.int .i64 t388, .int .i64 (wrap64 (3 * t389))] rfl zM ?_; (with_reducible refine (spec_l01Make.calls k t388 (wrap64 (3 * t389)) t392 t393 _ A7.out).mono ?_); rintro e w14 ⟨rfl, hb⟩; refine ⟨_, rfl, ?_⟩; replace BK384 := zbl BK384.out hb; replace BK385 := zbl BK385.out hb; replace HB := zQ (below_step (zB3 HB.out GE384.out GE385.out) hb); (try clear hb); have hnb15 := NB384_385.out; have hnc15 := NB385_384.out; obtain ⟨hcz16_0, hcz16_1, hfz16_0, hfz16_1⟩ := zy2 BK384.out; obtain ⟨hcz17_0, hcz17_1, hfz17_0, hfz17_1⟩ := zy2 BK385.out))
  refine bodyPost_ret (results_list (rs := [.cell 2 32, .cell 3 32, .tmp 4]) rfl (by simp) (.cell gb384 32 #[.int .i64 t390, .int .i64 t391] (0, 0) _ rfl (by refine zb ?_; refine blk_far ?_ NB384_385.out _; refine zb ?_; refine blk_far ?_ NB384_385.out _; refine zb ?_; refine blk_put (cs := #[.int .i64 t390, .int .i64 0]) ?_ 1 _ rfl; refine zb ?_; refine blk_put (cs := #[.int .i64 0, .int .i64 0]) ?_ 0 _ rfl; refine zb ?_; exact BK384.out) Tryz.underlying32 rfl (by kernel_rfl) (.cell gb385 32 #[.int .i64 t392, .int .i64 t393] (0, 0) _ rfl (by refine zb ?_; refine blk_put (cs := #[.int .i64 t392, .int .i64 0]) ?_ 1 _ rfl; refine zb ?_; refine blk_put (cs := #[.int .i64 0, .int .i64 0]) ?_ 0 _ rfl; refine zb ?_; refine blk_far ?_ NB385_384.out _; refine zb ?_; refine blk_far ?_ NB385_384.out _; refine zb ?_; exact BK385.out) Tryz.underlying32 rfl (by kernel_rfl) (.tmp .nil)))) rfl ?_
  exact ⟨zE, zB3 HB.out GE384.out GE385.out⟩
 ·replace c3 := Bool.eq_false_iff.mpr c3
  subst c3
  rw [if_neg Bool.false_ne_true] at H
  simp only [Option.some.injEq, Prod.mk.injEq] at H
  obtain ⟨rfl, rfl, rfl, rfl, rfl⟩ := H
  go_enter Tryz.func11, Tryz.ntmps11
  go_wp2_with (first | ((with_reducible refine zd 2 ?_); refine zbx (N := 2) (cs := #[.int .i64 0, .int .i64 0]) (t := 32) ?_; intro gb384 hg w18 hbox hb; have BK384 := zQ (hbox); have GW384 := zgz hg HB.out; have GE384 := GW384; replace HB := zbs HB.out hb; clear hb hbox hg) | ((with_reducible refine zd 3 ?_); refine zbx (N := 3) (cs := #[.int .i64 0, .int .i64 0]) (t := 32) ?_; intro gb385 hg w19 hbox hb; have BK385 := zQ (hbox); have GW385 := zgz2 hg HB.out GE384.out; have GE385 := GW385; have NB384_385 := zn1 hg BK384.out; have NB385_384 := zn2 hg BK384.out; replace BK384 := zbl BK384.out hb; replace HB := zbs2 HB.out GE384.out hb; clear hb hbox hg) | ((with_reducible refine zgc 31 ?_); refine goesL_ (some 9) rfl rfl Tryz.func31 (by kernel_rfl) rfl #[.slice A0 l0.length c0] rfl zM ?_; (with_reducible refine (spec_l13Ok.calls k _ _ l0 false _ (zC HR0.out HB.out) HC0.out A2.out).mono ?_); rintro e w20 ⟨rfl, hb⟩; refine ⟨_, rfl, ?_⟩; replace BK384 := zbl BK384.out hb; replace BK385 := zbl BK385.out hb; replace HB := zQ (below_step (zB3 HB.out GE384.out GE385.out) hb); (try clear hb); have hnb21 := NB384_385.out; have hnc21 := NB385_384.out; obtain ⟨hcz22_0, hcz22_1, hfz22_0, hfz22_1⟩ := zy2 BK384.out; obtain ⟨hcz23_0, hcz23_1, hfz23_0, hfz23_1⟩ := zy2 BK385.out))
  refine bodyPost_ret (results_list (rs := [.cell 2 32, .cell 3 32, .tmp 4]) rfl (by simp) (.cell gb384 32 #[.int .i64 0, .int .i64 0] (0, 0) _ rfl (by refine zb ?_; refine blk_far ?_ NB384_385.out _; refine zb ?_; refine blk_far ?_ NB384_385.out _; refine zb ?_; refine blk_put (cs := #[.int .i64 0, .int .i64 0]) ?_ 1 _ rfl; refine zb ?_; refine blk_put (cs := #[.int .i64 0, .int .i64 0]) ?_ 0 _ rfl; refine zb ?_; exact BK384.out) Tryz.underlying32 rfl (by kernel_rfl) (.cell gb385 32 #[.int .i64 0, .int .i64 0] (0, 0) _ rfl (by refine zb ?_; refine blk_put (cs := #[.int .i64 0, .int .i64 0]) ?_ 1 _ rfl; refine zb ?_; refine blk_put (cs := #[.int .i64 0, .int .i64 0]) ?_ 0 _ rfl; refine zb ?_; refine blk_far ?_ NB385_384.out _; refine zb ?_; refine blk_far ?_ NB385_384.out _; refine zb ?_; exact BK385.out) Tryz.underlying32 rfl (by kernel_rfl) (.tmp .nil)))) rfl ?_
  exact ⟨zE, zB3 HB.out GE384.out GE385.out⟩

end
end Go.Proofs.YtchngbjpjbahiaaGreatDoor.PSailz

