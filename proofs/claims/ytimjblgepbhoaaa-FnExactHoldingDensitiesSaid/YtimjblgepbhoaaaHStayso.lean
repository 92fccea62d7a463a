import Derived.Test.YtimjblgepbhoaaaHStays0
namespace Go.Proofs.Ytimjblgepbhoaaa.PStays
noncomputable section
open Go.RowKit Go.Proofs.YtimjblgepbhoaaaW.PrintWords Go.Proofs.YtimjblgepbhoaaaW.PrintLast Go.Proofs.YtimjblgepbhoaaaW.PrintMore
attribute [local go_sem] max2_int min2_int max_two min_two max_three min_three max_four min_four   -- for this text's walks alone
set_option linter.unusedVariables false
set_option linter.unusedSimpArgs false
set_option maxHeartbeats 8000000
set_option maxRecDepth 100000

def impl_pullOf.f (l0_0 : List (S164)) (l0_1 : List (S115)) (a1_0 : Int) (a1_1 : Int) (a1_2 : Bool) (a2 : Int) : Option (Int × Int) := if 0 ≤ a1_1 then (if a1_1 < (l0_0.length : Int) then (if 0 ≤ a1_0 then (if a1_0 < (l0_0.length : Int) then (if a2 = a1_0 then (some (wrap64 (((rd_T164 l0_0 a1_1).f0) - ((rd_T164 l0_0 a1_0).f0)), wrap64 (((rd_T164 l0_0 a1_1).f1) - ((rd_T164 l0_0 a1_0).f1)))) else (if a2 = a1_1 then (some (wrap64 (-(wrap64 (((rd_T164 l0_0 a1_1).f0) - ((rd_T164 l0_0 a1_0).f0)))), wrap64 (-(wrap64 (((rd_T164 l0_0 a1_1).f1) - ((rd_T164 l0_0 a1_0).f1)))))) else (some (0, 0)))) else (none)) else (none)) else (none)) else (none)
theorem impl_pullOf.calls (A0_0 : Option Addr) (c0_0 : Nat) (l0_0 : List (S164)) (A0_1 : Option Addr) (c0_1 : Nat) (l0_1 : List (S115)) (a1_0 : Int) (a1_1 : Int) (a1_2 : Bool) (a2 : Int) (r1 : Int) (r2 : Int) (w : World) (hr0_0 : Kd.C k164 w A0_0 l0_0.length l0_0) (hc0_0 : l0_0.length ≤ c0_0) (hr0_1 : Kd.C k115 w A0_1 l0_1.length l0_1) (hc0_1 : l0_1.length ≤ c0_1) (h : impl_pullOf.f l0_0 l0_1 a1_0 a1_1 a1_2 a2 = some (r1, r2)) :
  Calls Try.prog 94 #[.agg #[.slice A0_0 l0_0.length c0_0, .slice A0_1 l0_1.length c0_1], .agg #[.int .i64 a1_0, .int .i64 a1_1, .bool a1_2], .int .i64 a2] w fun e w' => e = .returned (.tuple #[.int .i64 r1, .int .i64 r2]) ∧ Below w.heap.size w w' := by
 have hu27 := Try.underlying27
 have hu115 := Try.underlying115
 unfold impl_pullOf.f at h
 by_cases c1 : 0 ≤ a1_1 ∧ a1_1 < (l0_0.length : Int)
 ·rw [if_pos c1.1, if_pos c1.2] at h
  by_cases c2 : 0 ≤ a1_0 ∧ a1_0 < (l0_0.length : Int)
  ·rw [if_pos c2.1, if_pos c2.2] at h
   obtain ⟨ad, ea, hx0, hy0, _⟩ := at_T164 hr0_0 a1_0 c2.1 c2.2; subst ea; obtain ⟨ad', ea, hx1, hy1, _⟩ := at_T164 hr0_0 a1_1 c1.1 c1.2; obtain rfl := Option.some.inj ea
   generalize (rd_T164 l0_0 a1_0).f0 = x0 at h hx0
   generalize (rd_T164 l0_0 a1_0).f1 = y0 at h hy0
   generalize (rd_T164 l0_0 a1_1).f0 = x1 at h hx1
   generalize (rd_T164 l0_0 a1_1).f1 = y1 at h hy1
   have p1 : (0 ≤ a1_1) = True := eq_true c1.1; have q1 : (a1_1 < (l0_0.length : Int)) = True := eq_true c1.2; have p2 : (0 ≤ a1_0) = True := eq_true c2.1; have q2 : (a1_0 < (l0_0.length : Int)) = True := eq_true c2.2; have H := zQ h; clear c1 c2 h hr0_0 hc0_0 hr0_1 hc0_1
   go_enter Try.func94, Try.ntmps94
   go_wp2_with (first
    | ((with_reducible refine zd 3 ?_); refine zbx (N := 3) (cs := #[.slice (some ad) l0_0.length c0_0, .slice A0_1 l0_1.length c0_1]) (t := 27) ?_; intro g3 hg w3 hbox hb; have HB3 := zQ hb; have B3 := zQ hbox; clear hb hbox hg)
    | ((with_reducible refine zd 4 ?_); refine zbx (N := 4) (cs := #[.int .i64 a1_0, .int .i64 a1_1, .bool a1_2]) (t := 115) ?_; intro g4 hg w4 hbox hb; have HB4 := zQ (below_step HB3.out hb); have b3 : w4.cell? ⟨g3, 0, none⟩ = some (.slice (some ad) l0_0.length c0_0) := (blk_cell (blk_below B3.out hb) 0).trans rfl; have b40 : w4.cell? ⟨g4, 0, none⟩ = some (.int .i64 a1_0) := (blk_cell hbox 0).trans rfl; have b41 : w4.cell? ⟨g4, 1, none⟩ = some (.int .i64 a1_1) := (blk_cell hbox 1).trans rfl; clear hb hbox hg))
   replace hx0 := (HB4.out.cell (World.block_lt_of_cell? w _ hx0)).trans hx0; replace hx1 := (HB4.out.cell (World.block_lt_of_cell? w _ hx1)).trans hx1; replace hy0 := (HB4.out.cell (World.block_lt_of_cell? w _ hy0)).trans hy0; replace hy1 := (HB4.out.cell (World.block_lt_of_cell? w _ hy1)).trans hy1
   refine zs (fun w' => w'.cell? ⟨g3, 0, none⟩ = some (.slice (some ad) l0_0.length c0_0) ∧ w'.cell? ⟨g4, 0, none⟩ = some (.int .i64 a1_0) ∧ w'.cell? ⟨g4, 1, none⟩ = some (.int .i64 a1_1) ∧ w'.cell? (ad.add (a1_1.toNat * 3)) = some (.int .i64 x1) ∧ w'.cell? (ad.add (a1_0.toNat * 3)) = some (.int .i64 x0)) [] 16 ⟨b3, b40, b41, hx1, hx0⟩ (fun hHeld => ?_)
   refine zp 0 10 ?_
   refine zp 2 12 ?_
   refine zp 7 17 ?_
   refine zp 9 19 ?_
   refine zt 1 11 hHeld ?_
   refine zt 3 13 hHeld ?_
   refine zp 4 14 ?_
   refine zp 5 15 ?_
   refine zt 6 16 hHeld ?_
   refine zt 8 18 hHeld ?_
   refine zt 10 20 hHeld ?_
   refine zp 11 21 ?_
   refine zp 12 22 ?_
   refine zt 13 23 hHeld ?_
   refine zp 14 24 ?_
   refine zp 15 8 ?_
   refine done_ (by kernel_rfl) ?_
   try go_wp2
   refine zs (fun w' => w'.cell? ⟨g3, 0, none⟩ = some (.slice (some ad) l0_0.length c0_0) ∧ w'.cell? ⟨g4, 0, none⟩ = some (.int .i64 a1_0) ∧ w'.cell? ⟨g4, 1, none⟩ = some (.int .i64 a1_1) ∧ w'.cell? ⟨(ad.add (a1_1.toNat * 3)).block, (ad.add (a1_1.toNat * 3)).off + 1, none⟩ = some (.int .i64 y1) ∧ w'.cell? ⟨(ad.add (a1_0.toNat * 3)).block, (ad.add (a1_0.toNat * 3)).off + 1, none⟩ = some (.int .i64 y0)) [] 16 ⟨b3, b40, b41, hy1, hy0⟩ (fun hHeld => ?_)
   refine zp 0 25 ?_
   refine zp 2 27 ?_
   refine zp 7 32 ?_
   refine zp 9 34 ?_
   refine zt 1 26 hHeld ?_
   refine zt 3 28 hHeld ?_
   refine zp 4 29 ?_
   refine zp 5 30 ?_
   refine zt 6 31 hHeld ?_
   refine zt 8 33 hHeld ?_
   refine zt 10 35 hHeld ?_
   refine zp 11 36 ?_
   refine zp 12 37 ?_
   refine zt 13 38 hHeld ?_
   refine zp 14 39 ?_
   refine zp 15 9 ?_
   refine done_ (by kernel_rfl) ?_
   have h := H.out; clear H hx0 hx1 hy0 hy1 b3 p1 q1 p2 q2
   by_cases c3 : a2 = a1_0
   ·rw [if_pos c3] at h
    simp only [Option.some.injEq, Prod.mk.injEq] at h
    obtain ⟨rfl, rfl⟩ := h; have t1 : (a2 == a1_0) = true := beq_iff_eq.mpr c3; clear c3
    go_wp2
    go_ret2
    exact ⟨by first | rfl | (simp; done), by repeat (first | exact HB4.out | apply below_drew1 | apply pw_below_drewN)⟩
   ·rw [if_neg c3] at h
    have t1 : (a2 == a1_0) = false := beq_eq_false_iff_ne.mpr c3
    by_cases c4 : a2 = a1_1
    ·rw [if_pos c4] at h
     simp only [Option.some.injEq, Prod.mk.injEq] at h
     obtain ⟨rfl, rfl⟩ := h; have t2 : (a2 == a1_1) = true := beq_iff_eq.mpr c4; clear c3 c4
     go_wp2
     go_ret2
     exact ⟨by first | rfl | (simp; done), by repeat (first | exact HB4.out | apply below_drew1 | apply pw_below_drewN)⟩
    ·rw [if_neg c4] at h
     simp only [Option.some.injEq, Prod.mk.injEq] at h
     obtain ⟨rfl, rfl⟩ := h; have t2 : (a2 == a1_1) = false := beq_eq_false_iff_ne.mpr c4; clear c3 c4
     go_wp2
     go_ret2
     exact ⟨by first | rfl | (simp; done), by repeat (first | exact HB4.out | apply below_drew1 | apply pw_below_drewN)⟩
  ·by_cases c3 : 0 ≤ a1_0
   ·rw [if_pos c3, if_neg (fun h_ => c2 ⟨c3, h_⟩)] at h
    cases h
   ·rw [if_neg c3] at h
    cases h
 ·by_cases c3 : 0 ≤ a1_1
  ·rw [if_pos c3, if_neg (fun h_ => c1 ⟨c3, h_⟩)] at h
   cases h
  ·rw [if_neg c3] at h
   cases h

mutual
def impl_gcd.j0 : Nat → Int → Int → Option (Int)
 | 0, _, _ => none
 | k + 1, x0, x1 => impl_gcd.l0 k x0 x1
def impl_gcd.l0 : Nat → Int → Int → Option (Int)
 | 0, _, _ => none
 | k + 1, x0, x1 => if x1 = 0 then (some x0) else (impl_gcd.l0 k x1 (Int.tmod x0 x1))
end
def impl_gcd.f (k : Nat) (a0 : Int) (a1 : Int) : Option (Int) := if a0 < 0 then (impl_gcd.j0 k (wrap64 (-a0)) a1) else (impl_gcd.j0 k a0 a1)
theorem impl_gcd.mono_l : ∀ k, (∀ y0 y1, LeO (impl_gcd.j0 k y0 y1) (impl_gcd.j0 (k + 1) y0 y1)) ∧ (∀ y0 y1, LeO (impl_gcd.l0 k y0 y1) (impl_gcd.l0 (k + 1) y0 y1))
 | 0 => ⟨fun _ _ r h => by simp [impl_gcd.j0] at h, fun _ _ r h => by simp [impl_gcd.l0] at h⟩
 | k + 1 => by
  obtain ⟨ih0, ih1⟩ := impl_gcd.mono_l k
  refine ⟨?_, ?_⟩
  ·intro y0 y1
   unfold impl_gcd.j0
   exact zM0
  ·intro y0 y1
   unfold impl_gcd.l0
   exact zM0
theorem impl_gcd.mono : ∀ a0 a1 k, LeO (impl_gcd.f k a0 a1) (impl_gcd.f (k + 1) a0 a1) := by
 intro a0 a1 k
 obtain ⟨ih0, ih1⟩ := impl_gcd.mono_l k
 unfold impl_gcd.f
 exact zM0
theorem impl_gcd.calls (k : Nat) (a0 : Int) (a1 : Int) (r : Int) (w : World) (h : impl_gcd.f k a0 a1 = some r) :
  Calls Try.prog 123 #[.int .i64 a0, .int .i64 a1] w fun e w' => e = .returned (.int .i64 r) ∧ Drawn0 w w' := by
 have H : (if a0 < 0 then (impl_gcd.j0 k (wrap64 (-a0)) a1) else (impl_gcd.j0 k a0 a1)) = some r := h
 clear h
 have HC3 := zQ H
 clear H
 go_enter Try.func123, Try.ntmps123
 go_upto_if 6 with (fail)
 repeat (go_quiet (fail); go_upto_if 6 with (fail))
 go_cut [0] (fun v0 wc => ∃ (kq : Nat) (x0_2 : Int), v0 = .int .i64 x0_2 ∧ Aside0 (impl_gcd.j0 kq x0_2 a1 = some r) ∧ Aside0 (kq ≤ k) ∧ Drawn0 w wc)
 case first =>
  have H := HC3.out; clear HC3
  by_cases c4 : a0 < 0
  ·rw [if_pos c4] at H
   have c4b0 := decide_eq_true c4; clear c4
   (first | rw [c4b0] | (simp only [i64_w, i32_w]; rw [c4b0]) | skip)
   have H' := zQ H; clear H
   go_wp2
   repeat (go_quiet (fail); try go_wp2)
   go_meet
   case rel => exact ⟨_, (wrap64 (-a0)), (zF), H', ⟨by first | omega | exact Nat.le_refl _⟩, by repeat (first | exact Drawn0.refl _ | apply Drawn0.step)⟩
  ·rw [if_neg c4] at H
   have c4b0 := decide_eq_false c4; clear c4
   (first | rw [c4b0] | (simp only [i64_w, i32_w]; rw [c4b0]) | skip)
   have H' := zQ H; clear H
   go_wp2
   repeat (go_quiet (fail); try go_wp2)
   go_meet
   case rel => exact ⟨_, (a0), (zF), H', ⟨by first | omega | exact Nat.le_refl _⟩, by repeat (first | exact Drawn0.refl _ | apply Drawn0.step)⟩
 case rest =>
  clear HC3; (try clear c1); (try clear p2); (try clear c4); (try clear c4b0); obtain ⟨kq, x0_2, rfl, HA, HJ2, ⟨mc2, rfl⟩⟩ := hcut
  cases kq with
  | zero => exact absurd HA.out (by simp [impl_gcd.j0])
  | succ kj2 =>
   have H := HA.out; clear HA
   simp only [impl_gcd.j0] at H
   have H' := zQ H; clear H
   go_wp2
   repeat (go_quiet (fail); try go_wp2)
   go_loopg [0, 1] kj2 (fun kq v0 v1 w' => ∃ (x0_2 : Int) (x1_2 : Int), v0 = .int .i64 x0_2 ∧ v1 = .int .i64 x1_2 ∧ Aside0 (impl_gcd.l0 kq x0_2 x1_2 = some r) ∧ Aside0 (kq ≤ kj2) ∧ Drawn0 w w')
   case atStart => exact ⟨(x0_2), (a1), (zF), (zF), H', ⟨Nat.le_refl _⟩, by repeat (first | exact Drawn0.refl _ | apply Drawn0.step)⟩
   case round =>
    clear H'; (try clear c1); (try clear c2); (try clear p2); (try clear c4); (try clear c4b0); (try clear p2); obtain ⟨x0_2, x1_2, rfl, rfl, HA, HK2, ⟨m2, rfl⟩⟩ := hrel
    cases gk with
    | zero => exact absurd HA.out (by simp [impl_gcd.l0])
    | succ k2 =>
     have H := HA.out; clear HA
     simp only [impl_gcd.l0] at H
     by_cases c5 : x1_2 = 0
     ·rw [if_pos c5] at H
      have c5b0 : (x1_2 == 0) = true := beq_iff_eq.mpr c5; have c5b1 : (x1_2 != 0) = false := bne_eq_false_iff_eq.mpr c5; clear c5; obtain rfl := Option.some.inj H
      go_wp2
      repeat (go_quiet (fail); try go_wp2)
      go_ret
      exact ⟨zF, by repeat (first | exact Drawn0.refl _ | apply Drawn0.step)⟩
     ·rw [if_neg c5] at H
      have c5b0 : (x1_2 == 0) = false := beq_eq_false_iff_ne.mpr c5; have c5b1 : (x1_2 != 0) = true := bne_iff_ne.mpr c5; have H' := zQ H; clear H
      go_wp2
      repeat (go_quiet (fail); try go_wp2)
      go_roundg k2
      case measure => have := HJ2.out; have := HK2.out; omega
      case rel => exact ⟨(x1_2), (Int.tmod x0_2 x1_2), (zF), (zF), H', ⟨by have := HJ2.out; have := HK2.out; omega⟩, by repeat (first | exact Drawn0.refl _ | apply Drawn0.step)⟩

def impl_fraction.f (k : Nat) (a0 : Int) (a1 : Int) : Option (Int × Int) := if a1 < 0 then ((impl_gcd.f k (wrap64 (-a0)) (wrap64 (-a1))).bind fun t256 => (if t256 = 0 then (none) else (some (wrap64 (Int.tdiv (wrap64 (-a0)) t256), wrap64 (Int.tdiv (wrap64 (-a1)) t256))))) else ((impl_gcd.f k a0 a1).bind fun t257 => (if t257 = 0 then (none) else (some (wrap64 (Int.tdiv a0 t257), wrap64 (Int.tdiv a1 t257)))))
theorem impl_fraction.mono : ∀ a0 a1 k, LeO (impl_fraction.f k a0 a1) (impl_fraction.f (k + 1) a0 a1) := by
 intro a0 a1 k
 unfold impl_fraction.f
 have m0 := @impl_gcd.mono; exact zM0
def impl_fraction.T4 : Bool × List (List Nat × List Nat) := (true, [([], []), ([], []), ([0, 1], [0, 1]), ([], []), ([], []), ([3, 4], [3, 4]), ([2, 5], [2, 5]), ([6, 0, 1, 2, 3, 4, 5, 6], [6])])
def impl_fraction.B4 : List Nat := [0, 0, 3, 0, 0, 24, 63, 127]
theorem impl_fraction.tab4 : rtab .any (opsOf Try.f136 4) = impl_fraction.T4 := by kernel_rfl
theorem impl_fraction.bits4 : waitsOk impl_fraction.T4.2 impl_fraction.B4 = true := by kernel_rfl
theorem impl_fraction.calls (k : Nat) (a0 : Int) (a1 : Int) (r1 : Int) (r2 : Int) (w : World) (h : impl_fraction.f k a0 a1 = some (r1, r2)) :
  Calls Try.prog 136 #[.int .i64 a0, .int .i64 a1] w fun e w' => e = .returned (.agg #[.int .i64 r1, .int .i64 r2]) ∧ Below w.heap.size w w' := by
 have hu147 := Try.underlying147
 have HB := zQ (Below.refl w.heap.size w)
 have H : (if a1 < 0 then ((impl_gcd.f k (wrap64 (-a0)) (wrap64 (-a1))).bind fun t256 => (if t256 = 0 then (none) else (some (wrap64 (Int.tdiv (wrap64 (-a0)) t256), wrap64 (Int.tdiv (wrap64 (-a1)) t256))))) else ((impl_gcd.f k a0 a1).bind fun t257 => (if t257 = 0 then (none) else (some (wrap64 (Int.tdiv a0 t257), wrap64 (Int.tdiv a1 t257)))))) = some (r1, r2) := h
 clear h
 by_cases c3 : a1 < 0
 ·rw [if_pos c3] at H
  have c3b0 := decide_eq_true c3; clear c3; replace H := zob H; obtain ⟨t256, A4, H⟩ := H
  by_cases c5 : t256 = 0
  ·rw [if_pos c5] at H
   exact absurd H (by simp)
  ·rw [if_neg c5] at H
   have c5b0 : (t256 == 0) = false := beq_eq_false_iff_ne.mpr c5; have c5b1 : (t256 != 0) = true := bne_iff_ne.mpr c5
   simp only [Option.some.injEq, Prod.mk.injEq] at H
   obtain ⟨rfl, rfl⟩ := H
   go_enter Try.func136, Try.ntmps136
   try go_wp2_with (first | ((with_reducible refine zd 4 ?_); refine zbx (N := 4) (cs := #[.int .i64 0, .int .i64 0]) (t := 147) ?_; intro gb255 hg w6 hbox hb; have BK255 := zQ (hbox); have GW255 := zgz hg HB.out; have GE255 := GW255; replace HB := zbs HB.out hb; clear hb hbox hg) | ((with_reducible refine zgc 123 ?_); refine zgo (some 14) Try.func123 #[.int .i64 (wrap64 (-a0)), .int .i64 (wrap64 (-a1))] ?_; (with_reducible refine (impl_gcd.calls k (wrap64 (-a0)) (wrap64 (-a1)) t256 _ A4.out).mono ?_); rintro e w' ⟨rfl, ⟨nd, rfl⟩⟩; refine ⟨_, rfl, ?_⟩; (try (rw [drewN_self w6]; generalize hq_ : World.drewN w6 _ = w6; have n0_ : Aside0 (w6.heap[gb255]? = some (.cells #[.int .i64 0, .int .i64 0] 147 (0, 0))) := ⟨by rw [← hq_]; exact (zb BK255.out)⟩; have n1_ : Aside0 (Below w.heap.size w w6) := ⟨by rw [← hq_]; exact (zB2 HB.out GE255.out)⟩; clear BK255 HB hq_; have BK255 := n0_; have HB := n1_; clear n0_ n1_)); (try (have hczrw6_gb255_0 := zc0 BK255.out)); (try (have hfzrw6_gb255_0 := zfz BK255.out 0)); (try (have hczrw6_gb255_1 := zc1 BK255.out)); (try (have hfzrw6_gb255_1 := zfz BK255.out 1))))
   have n0_ := zQ (blk_drew BK255.out); have n1_ := zQ (below_drew1 HB.out); clear BK255; clear HB; have BK255 := n0_; have HB := n1_; clear n0_ n1_
   refine zs (fun w' => True) [] 8 trivial (fun hHeld => ?_); refine with_tabW impl_fraction.tab4 impl_fraction.bits4 (fun HT_ HW_ => ?_)
   generalize w6.drew = w7 at BK255 HB hHeld ⊢
   refine zp 0 15 ?_
   refine zp 1 16 ?_
   refine zp 2 17 ?_
   refine zp 3 18 ?_
   refine zp 4 19 ?_
   refine zp 5 20 ?_
   refine zp 6 21 ?_
   refine zo 7 none (fun K hK => ?_)
   have hs8 : w7.cell? ⟨gb255, 0, none⟩ = some (.int .i64 0) := (blk_cell BK255.out 0).trans rfl; have hfs8 := zfz BK255.out 0; have hs9 : w7.cell? ⟨gb255, 1, none⟩ = some (.int .i64 0) := (blk_cell BK255.out 1).trans rfl; have hfs9 := zfz BK255.out 1
   refine skip_ (w1 := ?_) (by rfl) rfl ?_ ?_
   rotate_left
   ·go_simp
    rfl
   refine hK.out _ _ trivial (fun hHeld => ?_)
   clear hK K
   refine done_ (done_of HT_.out (by kernel_rfl)) ?_
   try go_wp2
   refine bodyPost_ret (results_cell_row rfl _ _ gb255 147 #[.int .i64 (wrap64 (Int.tdiv (wrap64 (-a0)) t256)), .int .i64 (wrap64 (Int.tdiv (wrap64 (-a1)) t256))] (0, 0) _ rfl (by refine zb ?_; refine blk_put (cs := #[.int .i64 (wrap64 (Int.tdiv (wrap64 (-a0)) t256)), .int .i64 0]) ?_ 1 _ rfl; refine zb ?_; refine blk_put (cs := #[.int .i64 0, .int .i64 0]) ?_ 0 _ rfl; refine zb ?_; exact BK255.out) Try.underlying147 rfl (by kernel_rfl)) rfl ?_
   exact ⟨zE, zB2 HB.out GE255.out⟩
 ·rw [if_neg c3] at H
  have c3b0 := decide_eq_false c3; clear c3; replace H := zob H; obtain ⟨t257, A10, H⟩ := H
  by_cases c11 : t257 = 0
  ·rw [if_pos c11] at H
   exact absurd H (by simp)
  ·rw [if_neg c11] at H
   have c11b0 : (t257 == 0) = false := beq_eq_false_iff_ne.mpr c11; have c11b1 : (t257 != 0) = true := bne_iff_ne.mpr c11
   simp only [Option.some.injEq, Prod.mk.injEq] at H
   obtain ⟨rfl, rfl⟩ := H
   go_enter Try.func136, Try.ntmps136
   try go_wp2_with (first | ((with_reducible refine zd 4 ?_); refine zbx (N := 4) (cs := #[.int .i64 0, .int .i64 0]) (t := 147) ?_; intro gb255 hg w12 hbox hb; have BK255 := zQ (hbox); have GW255 := zgz hg HB.out; have GE255 := GW255; replace HB := zbs HB.out hb; clear hb hbox hg) | ((with_reducible refine zgc 123 ?_); refine zgo (some 14) Try.func123 #[.int .i64 a0, .int .i64 a1] ?_; (with_reducible refine (impl_gcd.calls k a0 a1 t257 _ A10.out).mono ?_); rintro e w' ⟨rfl, ⟨nd, rfl⟩⟩; refine ⟨_, rfl, ?_⟩; (try (rw [drewN_self w12]; generalize hq_ : World.drewN w12 _ = w12; have n0_ : Aside0 (w12.heap[gb255]? = some (.cells #[.int .i64 0, .int .i64 0] 147 (0, 0))) := ⟨by rw [← hq_]; exact (zb BK255.out)⟩; have n1_ : Aside0 (Below w.heap.size w w12) := ⟨by rw [← hq_]; exact (zB2 HB.out GE255.out)⟩; clear BK255 HB hq_; have BK255 := n0_; have HB := n1_; clear n0_ n1_)); (try (have hczrw12_gb255_0 := zc0 BK255.out)); (try (have hfzrw12_gb255_0 := zfz BK255.out 0)); (try (have hczrw12_gb255_1 := zc1 BK255.out)); (try (have hfzrw12_gb255_1 := zfz BK255.out 1))))
   have n0_ := zQ (blk_drew BK255.out); have n1_ := zQ (below_drew1 HB.out); clear BK255; clear HB; have BK255 := n0_; have HB := n1_; clear n0_ n1_
   refine zs (fun w' => True) [] 8 trivial (fun hHeld => ?_); refine with_tabW impl_fraction.tab4 impl_fraction.bits4 (fun HT_ HW_ => ?_)
   generalize w12.drew = w13 at BK255 HB hHeld ⊢
   refine zp 0 15 ?_
   refine zp 1 16 ?_
   refine zp 2 17 ?_
   refine zp 3 18 ?_
   refine zp 4 19 ?_
   refine zp 5 20 ?_
   refine zp 6 21 ?_
   refine zo 7 none (fun K hK => ?_)
   have hs14 : w13.cell? ⟨gb255, 0, none⟩ = some (.int .i64 0) := (blk_cell BK255.out 0).trans rfl; have hfs14 := zfz BK255.out 0; have hs15 : w13.cell? ⟨gb255, 1, none⟩ = some (.int .i64 0) := (blk_cell BK255.out 1).trans rfl; have hfs15 := zfz BK255.out 1
   refine skip_ (w1 := ?_) (by rfl) rfl ?_ ?_
   rotate_left
   ·go_simp
    rfl
   refine hK.out _ _ trivial (fun hHeld => ?_)
   clear hK K
   refine done_ (done_of HT_.out (by kernel_rfl)) ?_
   try go_wp2
   refine bodyPost_ret (results_cell_row rfl _ _ gb255 147 #[.int .i64 (wrap64 (Int.tdiv a0 t257)), .int .i64 (wrap64 (Int.tdiv a1 t257))] (0, 0) _ rfl (by refine zb ?_; refine blk_put (cs := #[.int .i64 (wrap64 (Int.tdiv a0 t257)), .int .i64 0]) ?_ 1 _ rfl; refine zb ?_; refine blk_put (cs := #[.int .i64 0, .int .i64 0]) ?_ 0 _ rfl; refine zb ?_; exact BK255.out) Try.underlying147 rfl (by kernel_rfl)) rfl ?_
   exact ⟨zE, zB2 HB.out GE255.out⟩

def slices_Index_int_int.l0 : Nat → List Int → Int → Int → Int → Option (Int)
 | 0, _, _, _, _ => none
 | k + 1, x0, x1, x7, x8 => if x8 < x7 then (if 0 ≤ x8 then (if x8 < (x0.length : Int) then (if x1 = (rd x0 x8) then (some x8) else (slices_Index_int_int.l0 k x0 x1 x7 (wrap64 (x8 + 1)))) else (none)) else (none)) else (some (-1))
def slices_Index_int_int.f (k : Nat) (l0 : List Int) (a1 : Int) : Option (Int) := slices_Index_int_int.l0 k l0 a1 (l0.length : Int) 0
theorem slices_Index_int_int.mono_l : ∀ k, (∀ y0 y1 y2 y3, LeO (slices_Index_int_int.l0 k y0 y1 y2 y3) (slices_Index_int_int.l0 (k + 1) y0 y1 y2 y3))
 | 0 => fun _ _ _ _ r h => by simp [slices_Index_int_int.l0] at h
 | k + 1 => by
  have ih0 := slices_Index_int_int.mono_l k
  ·intro y0 y1 y2 y3
   unfold slices_Index_int_int.l0
   exact zM0
theorem slices_Index_int_int.mono : ∀ a0 a1 k, LeO (slices_Index_int_int.f k a0 a1) (slices_Index_int_int.f (k + 1) a0 a1) := by
 intro a0 a1 k
 have ih0 := slices_Index_int_int.mono_l k
 unfold slices_Index_int_int.f
 exact zM0
theorem slices_Index_int_int.calls (k : Nat) (A0 : Option Addr) (c0 : Nat) (l0 : List Int) (a1 : Int) (r : Int) (w : World) (hr0 : Kd.C (Kd.int .i64) w A0 l0.length l0) (hc0 : l0.length ≤ c0) (h : slices_Index_int_int.f k l0 a1 = some r) :
  Calls Try.prog 139 #[.slice A0 l0.length c0, .int .i64 a1] w fun e w' => e = .returned (.int .i64 r) ∧ Drawn0 w w' := by
 have HR0 := zQ hr0
 have HC0 := zQ hc0
 clear hr0 hc0
 have H : (slices_Index_int_int.l0 k l0 a1 (l0.length : Int) 0) = some r := h
 clear h
 have H' := zQ H
 clear H
 go_enter Try.func139, Try.ntmps139
 go_wp2
 go_loopg [8] k (fun kq v8 w' => ∃ (x8_1 : Int), v8 = .int .i64 x8_1 ∧ Aside0 (slices_Index_int_int.l0 kq l0 a1 (l0.length : Int) x8_1 = some r) ∧ Aside0 (kq ≤ k) ∧ Drawn0 w w')
 case atStart => exact ⟨(0), (zF), H', ⟨Nat.le_refl _⟩, by repeat (first | exact Drawn0.refl _ | apply Drawn0.step)⟩
 case round =>
  clear H'; (try clear c1); (try clear p2); obtain ⟨x8_1, rfl, HA, HK1, ⟨m1, rfl⟩⟩ := hrel
  cases gk with
  | zero => exact absurd HA.out (by simp [slices_Index_int_int.l0])
  | succ k1 =>
   have H := HA.out; clear HA
   simp only [slices_Index_int_int.l0] at H
   by_cases c3 : x8_1 < (l0.length : Int)
   ·rw [if_pos c3] at H
    have c3b0 := decide_eq_true c3; clear c3
    by_cases c4 : 0 ≤ x8_1
    ·rw [if_pos c4] at H
     have c4b0 := decide_eq_true c4; clear c4
     by_cases c5 : x8_1 < (l0.length : Int)
     ·rw [if_pos c5] at H
      have c5b0 := decide_eq_true c5; clear c5
      by_cases c6 : a1 = (rd l0 x8_1)
      ·rw [if_pos c6] at H
       have c6b0 : (a1 == (rd l0 x8_1)) = true := beq_iff_eq.mpr c6; have c6b1 : (a1 != (rd l0 x8_1)) = false := bne_eq_false_iff_eq.mpr c6; clear c6; obtain rfl := Option.some.inj H; have p258 : 0 ≤ (x8_1 : Int) := zD; have q258 : x8_1 < (l0.length : Int) := zD; obtain ⟨ad258, e258, hx258_0⟩ := Kd.at_int HR0.out x8_1 p258 q258
       cases e258
       replace p258 := eq_true p258; replace q258 := eq_true q258
       go_wp2
       go_ret
       exact ⟨zF, by repeat (first | exact Drawn0.refl _ | apply Drawn0.step)⟩
      ·rw [if_neg c6] at H
       have c6b0 : (a1 == (rd l0 x8_1)) = false := beq_eq_false_iff_ne.mpr c6; have c6b1 : (a1 != (rd l0 x8_1)) = true := bne_iff_ne.mpr c6; have H' := zQ H; clear H; have p258 : 0 ≤ (x8_1 : Int) := zD; have q258 : x8_1 < (l0.length : Int) := zD; obtain ⟨ad258, e258, hx258_0⟩ := Kd.at_int HR0.out x8_1 p258 q258
       cases e258
       replace p258 := eq_true p258; replace q258 := eq_true q258
       go_wp2
       go_roundg k1
       case measure => have := HK1.out; omega
       case rel => exact ⟨(wrap64 (x8_1 + 1)), (zF), H', ⟨by have := HK1.out; omega⟩, by repeat (first | exact Drawn0.refl _ | apply Drawn0.step)⟩
     ·rw [if_neg c5] at H
      exact absurd H (by simp)
    ·rw [if_neg c4] at H
     exact absurd H (by simp)
   ·rw [if_neg c3] at H
    have c3b0 := decide_eq_false c3; clear c3; obtain rfl := Option.some.inj H
    go_wp2
    go_ret
    exact ⟨zF, by repeat (first | exact Drawn0.refl _ | apply Drawn0.step)⟩

def slices_Contains_int_int.f (k : Nat) (l0 : List Int) (a1 : Int) : Option (Bool) := (slices_Index_int_int.f k l0 a1).bind fun t259 => (some (decide (t259 ≥ 0)))
theorem slices_Contains_int_int.mono : ∀ a0 a1 k, LeO (slices_Contains_int_int.f k a0 a1) (slices_Contains_int_int.f (k + 1) a0 a1) := by
 intro a0 a1 k
 unfold slices_Contains_int_int.f
 have m0 := @slices_Index_int_int.mono; exact zM0
theorem slices_Contains_int_int.calls (k : Nat) (A0 : Option Addr) (c0 : Nat) (l0 : List Int) (a1 : Int) (r : Bool) (w : World) (hr0 : Kd.C (Kd.int .i64) w A0 l0.length l0) (hc0 : l0.length ≤ c0) (h : slices_Contains_int_int.f k l0 a1 = some r) :
  Calls Try.prog 122 #[.slice A0 l0.length c0, .int .i64 a1] w fun e w' => e = .returned (.bool r) ∧ Drawn0 w w' := by
 have HR0 := zQ hr0
 have HC0 := zQ hc0
 clear hr0 hc0
 have H : ((slices_Index_int_int.f k l0 a1).bind fun t259 => (some (decide (t259 ≥ 0)))) = some r := h
 clear h
 replace H := zob H; obtain ⟨t259, A3, H⟩ := H
 obtain rfl := Option.some.inj H
 go_enter Try.func122, Try.ntmps122
 go_wp2_with (first | ((with_reducible refine zgc 139 ?_); refine zgo (some 7) Try.func139 #[.slice A0 l0.length c0, .int .i64 a1] ?_; (with_reducible refine (slices_Index_int_int.calls k _ _ l0 a1 t259 _ ?side1 HC0.out A3.out).mono ?_); (case side1 => repeat (first | exact HR0.out | (with_reducible refine Kd.C_alloc ?_ _) | (with_reducible refine Kd.C_drewN ?_ _) | (with_reducible refine Kd.C_drew ?_))); rintro e w' ⟨rfl, ⟨nd, rfl⟩⟩; refine ⟨_, rfl, ?_⟩))
 go_ret
 exact ⟨zF, by repeat (first | exact Drawn0.refl _ | apply Drawn0.step)⟩

def impl_mulFractions.f (k : Nat) (a0_0 : Int) (a0_1 : Int) (a1_0 : Int) (a1_1 : Int) : Option (Int × Int) := (impl_fraction.f k a0_0 a1_1).bind fun bt263 => ((impl_fraction.f k a1_0 a0_1).bind fun bt266 => (some (wrap64 (bt263.1 * bt266.1), wrap64 (bt263.2 * bt266.2))))
theorem impl_mulFractions.mono : ∀ a0 a1 a2 a3 k, LeO (impl_mulFractions.f k a0 a1 a2 a3) (impl_mulFractions.f (k + 1) a0 a1 a2 a3) := by
 intro a0 a1 a2 a3 k
 unfold impl_mulFractions.f
 have m0 := @impl_fraction.mono; exact zM0
theorem impl_mulFractions.calls (k : Nat) (a0_0 : Int) (a0_1 : Int) (a1_0 : Int) (a1_1 : Int) (r1 : Int) (r2 : Int) (w : World) (h : impl_mulFractions.f k a0_0 a0_1 a1_0 a1_1 = some (r1, r2)) :
  Calls Try.prog 137 #[.agg #[.int .i64 a0_0, .int .i64 a0_1], .agg #[.int .i64 a1_0, .int .i64 a1_1]] w fun e w' => e = .returned (.agg #[.int .i64 r1, .int .i64 r2]) ∧ Below w.heap.size w w' := by
 have hu147 := Try.underlying147
 have HB := zQ (Below.refl w.heap.size w)
 have H : ((impl_fraction.f k a0_0 a1_1).bind fun bt263 => ((impl_fraction.f k a1_0 a0_1).bind fun bt266 => (some (wrap64 (bt263.1 * bt266.1), wrap64 (bt263.2 * bt266.2))))) = some (r1, r2) := h
 clear h
 replace H := zob H; obtain ⟨⟨t263, t264⟩, A3, H⟩ := H
 replace H := zob H; obtain ⟨⟨t266, t267⟩, A4, H⟩ := H
 simp only [Option.some.injEq, Prod.mk.injEq] at H
 obtain ⟨rfl, rfl⟩ := H
 go_enter Try.func137, Try.ntmps137
 go_wp2_with (first | ((with_reducible refine zd 2 ?_); refine zbx (N := 2) (cs := #[.int .i64 a0_0, .int .i64 a0_1]) (t := 147) ?_; intro gb260 hg w5 hbox hb; have BK260 := zQ (hbox); have GW260 := zgz hg HB.out; have GE260 := GW260; replace HB := zbs HB.out hb; clear hb hbox hg) | ((with_reducible refine zd 3 ?_); refine zbx (N := 3) (cs := #[.int .i64 a1_0, .int .i64 a1_1]) (t := 147) ?_; intro gb261 hg w6 hbox hb; have BK261 := zQ (hbox); have GW261 := zgz2 hg HB.out GE260.out; have GE261 := GW261; have NB260_261 := zn1 hg BK260.out; have NB261_260 := zn2 hg BK260.out; replace BK260 := zbl BK260.out hb; replace HB := zbs2 HB.out GE260.out hb; clear hb hbox hg) | ((with_reducible refine zd 4 ?_); refine zbx (N := 4) (cs := #[.int .i64 0, .int .i64 0]) (t := 147) ?_; intro gb262 hg w7 hbox hb; have BK262 := zQ (hbox); have GW262 := zQ ((by rw [hg]; exact (below_size (zB3 HB.out GE260.out GE261.out)) : w.heap.size ≤ gb262)); have GE262 := zQ ((by rw [hg]; exact (below_size (zB3 HB.out GE260.out GE261.out)) : w.heap.size ≤ gb262)); have NB260_262 := zn1 hg BK260.out; have NB262_260 := zn2 hg BK260.out; have NB261_262 := zn1 hg BK261.out; have NB262_261 := zn2 hg BK261.out; replace BK260 := zbl BK260.out hb; replace BK261 := zbl BK261.out hb; replace HB := zQ (below_step (zB3 HB.out GE260.out GE261.out) hb); clear hb hbox hg; have hnb8 := NB260_261.out; have hnc8 := NB261_260.out; have hnb9 := NB260_262.out; have hnc9 := NB262_260.out; obtain ⟨hcz10_0, hcz10_1, hfz10_0, hfz10_1⟩ := zy2 BK260.out; have hnb11 := NB261_262.out; have hnc11 := NB262_261.out; obtain ⟨hcz12_0, hcz12_1, hfz12_0, hfz12_1⟩ := zy2 BK261.out) | ((with_reducible refine zgc 136 ?_); refine zgo (some 11) Try.func136 #[.int .i64 a0_0, .int .i64 a1_1] ?_; (with_reducible refine (impl_fraction.calls k a0_0 a1_1 t263 t264 _ A3.out).mono ?_); rintro e w13 ⟨rfl, hb⟩; refine ⟨_, rfl, ?_⟩; replace BK260 := zbl BK260.out hb; replace BK261 := zbl BK261.out hb; replace BK262 := zbl BK262.out hb; replace HB := zQ (below_step (by repeat (first | (with_reducible first | exact HB.out | apply below_alloc | apply pw_below_drewN | apply below_drew1 | refine below_set ?_ GE260.out | refine below_set ?_ GE261.out | refine below_set ?_ GE262.out) | exact HB.out)) hb); (try clear hb)) | ((with_reducible refine zd 5 ?_); refine zbx (N := 5) (cs := #[.int .i64 0, .int .i64 0]) (t := 147) ?_; intro gb265 hg w14 hbox hb; have BK265 := zQ (hbox); have GW265 := zQ ((by rw [hg]; exact (below_size (by repeat (first | (with_reducible first | exact HB.out | apply below_alloc | apply pw_below_drewN | apply below_drew1 | refine below_set ?_ GE260.out | refine below_set ?_ GE261.out | refine below_set ?_ GE262.out) | exact HB.out))) : w.heap.size ≤ gb265)); have GE265 := zQ ((by rw [hg]; exact (below_size (by repeat (first | (with_reducible first | exact HB.out | apply below_alloc | apply pw_below_drewN | apply below_drew1 | refine below_set ?_ GE260.out | refine below_set ?_ GE261.out | refine below_set ?_ GE262.out) | exact HB.out))) : w.heap.size ≤ gb265)); have NB260_265 := zn1 hg BK260.out; have NB265_260 := zn2 hg BK260.out; have NB261_265 := zn1 hg BK261.out; have NB265_261 := zn2 hg BK261.out; have NB262_265 := zn1 hg BK262.out; have NB265_262 := zn2 hg BK262.out; replace BK260 := zbl BK260.out hb; replace BK261 := zbl BK261.out hb; replace BK262 := zbl BK262.out hb; replace HB := zQ (below_step (by repeat (first | (with_reducible first | exact HB.out | apply below_alloc | apply pw_below_drewN | apply below_drew1 | refine below_set ?_ GE260.out | refine below_set ?_ GE261.out | refine below_set ?_ GE262.out) | exact HB.out)) hb); clear hb hbox hg; have hnb15 := NB265_260.out; have hnc15 := NB260_265.out; have hnb16 := NB265_261.out; have hnc16 := NB261_265.out; have hnb17 := NB265_262.out; have hnc17 := NB262_265.out; obtain ⟨hcz18_0, hcz18_1, hfz18_0, hfz18_1⟩ := zy2 BK265.out; obtain ⟨hcz19_0, hcz19_1, hfz19_0, hfz19_1⟩ := zy2 BK261.out; obtain ⟨hcz20_0, hcz20_1, hfz20_0, hfz20_1⟩ := zy2 BK260.out) | ((with_reducible refine zgc 136 ?_); refine zgo (some 16) Try.func136 #[.int .i64 a1_0, .int .i64 a0_1] ?_; (with_reducible refine (impl_fraction.calls k a1_0 a0_1 t266 t267 _ A4.out).mono ?_); rintro e w21 ⟨rfl, hb⟩; refine ⟨_, rfl, ?_⟩; replace BK260 := zQ (blk_below (g := gb260) (o := .cells #[.int .i64 a0_0, .int .i64 a0_1] 147 (0, 0)) (by refine zb ?_; refine blk_far ?_ NB260_265.out _; refine zb ?_; refine blk_far ?_ NB260_265.out _; refine zb ?_; exact BK260.out) hb); replace BK261 := zQ (blk_below (g := gb261) (o := .cells #[.int .i64 a1_0, .int .i64 a1_1] 147 (0, 0)) (by refine zb ?_; refine blk_far ?_ NB261_265.out _; refine zb ?_; refine blk_far ?_ NB261_265.out _; refine zb ?_; exact BK261.out) hb); replace BK262 := zQ (blk_below (g := gb262) (o := .cells #[.int .i64 0, .int .i64 0] 147 (0, 0)) (by refine zb ?_; refine blk_far ?_ NB262_265.out _; refine zb ?_; refine blk_far ?_ NB262_265.out _; refine zb ?_; exact BK262.out) hb); replace BK265 := zQ (blk_below (g := gb265) (o := .cells #[.int .i64 t263, .int .i64 t264] 147 (0, 0)) (by refine zb ?_; refine blk_put (cs := #[.int .i64 t263, .int .i64 0]) ?_ 1 _ rfl; refine zb ?_; refine blk_put (cs := #[.int .i64 0, .int .i64 0]) ?_ 0 _ rfl; refine zb ?_; exact BK265.out) hb); replace HB := zQ (below_step (by repeat (first | (with_reducible first | exact HB.out | apply below_alloc | apply pw_below_drewN | apply below_drew1 | refine below_set ?_ GE260.out | refine below_set ?_ GE261.out | refine below_set ?_ GE262.out | refine below_set ?_ GE265.out) | exact HB.out)) hb); (try clear hb)) | ((with_reducible refine zd 6 ?_); refine zbx (N := 6) (cs := #[.int .i64 0, .int .i64 0]) (t := 147) ?_; intro gb268 hg w22 hbox hb; have BK268 := zQ (hbox); have GW268 := zQ ((by rw [hg]; exact (below_size (by repeat (first | (with_reducible first | exact HB.out | apply below_alloc | apply pw_below_drewN | apply below_drew1 | refine below_set ?_ GE260.out | refine below_set ?_ GE261.out | refine below_set ?_ GE262.out | refine below_set ?_ GE265.out) | exact HB.out))) : w.heap.size ≤ gb268)); have GE268 := zQ ((by rw [hg]; exact (below_size (by repeat (first | (with_reducible first | exact HB.out | apply below_alloc | apply pw_below_drewN | apply below_drew1 | refine below_set ?_ GE260.out | refine below_set ?_ GE261.out | refine below_set ?_ GE262.out | refine below_set ?_ GE265.out) | exact HB.out))) : w.heap.size ≤ gb268)); have NB260_268 := zn1 hg BK260.out; have NB268_260 := zn2 hg BK260.out; have NB261_268 := zn1 hg BK261.out; have NB268_261 := zn2 hg BK261.out; have NB262_268 := zn1 hg BK262.out; have NB268_262 := zn2 hg BK262.out; have NB265_268 := zn1 hg BK265.out; have NB268_265 := zn2 hg BK265.out; replace BK260 := zbl BK260.out hb; replace BK261 := zbl BK261.out hb; replace BK262 := zbl BK262.out hb; replace BK265 := zbl BK265.out hb; replace HB := zQ (below_step (by repeat (first | (with_reducible first | exact HB.out | apply below_alloc | apply pw_below_drewN | apply below_drew1 | refine below_set ?_ GE260.out | refine below_set ?_ GE261.out | refine below_set ?_ GE262.out | refine below_set ?_ GE265.out) | exact HB.out)) hb); clear hb hbox hg; have hnb23 := NB268_260.out; have hnc23 := NB260_268.out; have hnb24 := NB268_261.out; have hnc24 := NB261_268.out; have hnb25 := NB268_262.out; have hnc25 := NB262_268.out; have hnb26 := NB268_265.out; have hnc26 := NB265_268.out; obtain ⟨hcz27_0, hcz27_1, hfz27_0, hfz27_1⟩ := zy2 BK268.out; obtain ⟨hcz28_0, hcz28_1, hfz28_0, hfz28_1⟩ := zy2 BK265.out; obtain ⟨hcz29_0, hcz29_1, hfz29_0, hfz29_1⟩ := zy2 BK262.out))
 refine bodyPost_ret (results_cell_row rfl _ _ gb262 147 #[.int .i64 (wrap64 (t263 * t266)), .int .i64 (wrap64 (t264 * t267))] (0, 0) _ rfl (by refine zb ?_; refine blk_put (cs := #[.int .i64 (wrap64 (t263 * t266)), .int .i64 0]) ?_ 1 _ rfl; refine zb ?_; refine blk_put (cs := #[.int .i64 0, .int .i64 0]) ?_ 0 _ rfl; refine zb ?_; refine blk_far ?_ NB262_268.out _; refine zb ?_; refine blk_far ?_ NB262_268.out _; refine zb ?_; exact BK262.out) Try.underlying147 rfl (by kernel_rfl)) rfl ?_
 exact ⟨zE, by repeat (first | (with_reducible first | exact HB.out | apply below_alloc | apply pw_below_drewN | apply below_drew1 | refine below_set ?_ GE260.out | refine below_set ?_ GE261.out | refine below_set ?_ GE262.out | refine below_set ?_ GE265.out | refine below_set ?_ GE268.out) | exact HB.out)⟩

def impl_addFractions.f (k : Nat) (a0_0 : Int) (a0_1 : Int) (a1_0 : Int) (a1_1 : Int) : Option (Int × Int) := (impl_gcd.f k a0_1 a1_1).bind fun t272 => (if t272 = 0 then (none) else ((impl_fraction.f k (wrap64 ((wrap64 (a0_0 * (wrap64 (Int.tdiv a1_1 t272)))) + (wrap64 (a1_0 * (wrap64 (Int.tdiv a0_1 t272)))))) (wrap64 ((wrap64 (Int.tdiv a0_1 t272)) * a1_1))).bind fun bt273 => (some (bt273.1, bt273.2))))
theorem impl_addFractions.mono : ∀ a0 a1 a2 a3 k, LeO (impl_addFractions.f k a0 a1 a2 a3) (impl_addFractions.f (k + 1) a0 a1 a2 a3) := by
 intro a0 a1 a2 a3 k
 unfold impl_addFractions.f
 have m0 := @impl_fraction.mono; have m1 := @impl_gcd.mono; exact zM0
def impl_addFractions.T2 : Bool × List (List Nat × List Nat) := (true, [([], []), ([0], [0]), ([], []), ([2], [2]), ([], []), ([3, 4], [3, 4]), ([1, 5], [1, 5]), ([], []), ([7], [7]), ([], []), ([9], [9]), ([], []), ([10, 11], [10, 11]), ([8, 12], [8, 12]), ([6, 13], [6, 13]), ([], []), ([15], [15]), ([], []), ([16, 17], [16, 17]), ([], []), ([19], [19]), ([18, 20], [18, 20]), ([14, 21], [14, 21]), ([22, 22, 0, 1, 2, 3, 4, 5, 6, 7, 8, 9, 10, 11, 12, 13, 14, 15, 16, 17, 18, 19, 20, 21, 22], [22])])
def impl_addFractions.B2 : List Nat := [0, 1, 0, 4, 0, 28, 63, 0, 128, 0, 512, 0, 3584, 8064, 16383, 0, 32768, 0, 229376, 0, 524288, 2064384, 4194303, 8388607]
theorem impl_addFractions.tab2 : rtab .any (opsOf Try.f138 2) = impl_addFractions.T2 := by kernel_rfl
theorem impl_addFractions.bits2 : waitsOk impl_addFractions.T2.2 impl_addFractions.B2 = true := by kernel_rfl
theorem impl_addFractions.calls (k : Nat) (a0_0 : Int) (a0_1 : Int) (a1_0 : Int) (a1_1 : Int) (r1 : Int) (r2 : Int) (w : World) (h : impl_addFractions.f k a0_0 a0_1 a1_0 a1_1 = some (r1, r2)) :
  Calls Try.prog 138 #[.agg #[.int .i64 a0_0, .int .i64 a0_1], .agg #[.int .i64 a1_0, .int .i64 a1_1]] w fun e w' => e = .returned (.agg #[.int .i64 r1, .int .i64 r2]) ∧ Below w.heap.size w w' := by
 have hu147 := Try.underlying147
 have HB := zQ (Below.refl w.heap.size w)
 have H : ((impl_gcd.f k a0_1 a1_1).bind fun t272 => (if t272 = 0 then (none) else ((impl_fraction.f k (wrap64 ((wrap64 (a0_0 * (wrap64 (Int.tdiv a1_1 t272)))) + (wrap64 (a1_0 * (wrap64 (Int.tdiv a0_1 t272)))))) (wrap64 ((wrap64 (Int.tdiv a0_1 t272)) * a1_1))).bind fun bt273 => (some (bt273.1, bt273.2))))) = some (r1, r2) := h
 clear h
 replace H := zob H; obtain ⟨t272, A3, H⟩ := H
 by_cases c4 : t272 = 0
 ·rw [if_pos c4] at H
  exact absurd H (by simp)
 ·rw [if_neg c4] at H
  have c4b0 : (t272 == 0) = false := beq_eq_false_iff_ne.mpr c4; have c4b1 : (t272 != 0) = true := bne_iff_ne.mpr c4; replace H := zob H; obtain ⟨⟨t273, t274⟩, A5, H⟩ := H
  simp only [Option.some.injEq, Prod.mk.injEq] at H
  obtain ⟨rfl, rfl⟩ := H
  go_enter Try.func138, Try.ntmps138
  try go_wp2_with (first | ((with_reducible refine zd 2 ?_); refine zbx (N := 2) (cs := #[.int .i64 a0_0, .int .i64 a0_1]) (t := 147) ?_; intro gb269 hg w6 hbox hb; have BK269 := zQ (hbox); have GW269 := zgz hg HB.out; have GE269 := GW269; replace HB := zbs HB.out hb; clear hb hbox hg) | ((with_reducible refine zd 3 ?_); refine zbx (N := 3) (cs := #[.int .i64 a1_0, .int .i64 a1_1]) (t := 147) ?_; intro gb270 hg w7 hbox hb; have BK270 := zQ (hbox); have GW270 := zgz2 hg HB.out GE269.out; have GE270 := GW270; have NB269_270 := zn1 hg BK269.out; have NB270_269 := zn2 hg BK269.out; replace BK269 := zbl BK269.out hb; replace HB := zbs2 HB.out GE269.out hb; clear hb hbox hg) | ((with_reducible refine zd 4 ?_); refine zbx (N := 4) (cs := #[.int .i64 0, .int .i64 0]) (t := 147) ?_; intro gb271 hg w8 hbox hb; have BK271 := zQ (hbox); have GW271 := zQ ((by rw [hg]; exact (below_size (zB3 HB.out GE269.out GE270.out)) : w.heap.size ≤ gb271)); have GE271 := zQ ((by rw [hg]; exact (below_size (zB3 HB.out GE269.out GE270.out)) : w.heap.size ≤ gb271)); have NB269_271 := zn1 hg BK269.out; have NB271_269 := zn2 hg BK269.out; have NB270_271 := zn1 hg BK270.out; have NB271_270 := zn2 hg BK270.out; replace BK269 := zbl BK269.out hb; replace BK270 := zbl BK270.out hb; replace HB := zQ (below_step (zB3 HB.out GE269.out GE270.out) hb); clear hb hbox hg; have hnb9 := NB269_270.out; have hnc9 := NB270_269.out; have hnb10 := NB269_271.out; have hnc10 := NB271_269.out; obtain ⟨hcz11_0, hcz11_1, hfz11_0, hfz11_1⟩ := zy2 BK269.out; have hnb12 := NB270_271.out; have hnc12 := NB271_270.out; obtain ⟨hcz13_0, hcz13_1, hfz13_0, hfz13_1⟩ := zy2 BK270.out) | ((with_reducible refine zgc 123 ?_); refine zgo (some 10) Try.func123 #[.int .i64 a0_1, .int .i64 a1_1] ?_; (with_reducible refine (impl_gcd.calls k a0_1 a1_1 t272 _ A3.out).mono ?_); rintro e w' ⟨rfl, ⟨nd, rfl⟩⟩; refine ⟨_, rfl, ?_⟩; (try (rw [drewN_self w8]; generalize hq_ : World.drewN w8 _ = w8; have n0_ : Aside0 (w8.heap[gb269]? = some (.cells #[.int .i64 a0_0, .int .i64 a0_1] 147 (0, 0))) := ⟨by rw [← hq_]; exact (zb BK269.out)⟩; have n1_ : Aside0 (w8.heap[gb270]? = some (.cells #[.int .i64 a1_0, .int .i64 a1_1] 147 (0, 0))) := ⟨by rw [← hq_]; exact (zb BK270.out)⟩; have n2_ : Aside0 (w8.heap[gb271]? = some (.cells #[.int .i64 0, .int .i64 0] 147 (0, 0))) := ⟨by rw [← hq_]; exact (zb BK271.out)⟩; have n3_ : Aside0 (Below w.heap.size w w8) := ⟨by rw [← hq_]; exact (by repeat (first | (with_reducible first | exact HB.out | apply below_alloc | apply pw_below_drewN | apply below_drew1 | refine below_set ?_ GE269.out | refine below_set ?_ GE270.out | refine below_set ?_ GE271.out) | exact HB.out))⟩; clear BK269 BK270 BK271 HB hq_; have BK269 := n0_; have BK270 := n1_; have BK271 := n2_; have HB := n3_; clear n0_ n1_ n2_ n3_)); (try (have hczrw8_gb269_0 := zc0 BK269.out)); (try (have hfzrw8_gb269_0 := zfz BK269.out 0)); (try (have hczrw8_gb269_1 := zc1 BK269.out)); (try (have hfzrw8_gb269_1 := zfz BK269.out 1)); (try (have hczrw8_gb270_0 := zc0 BK270.out)); (try (have hfzrw8_gb270_0 := zfz BK270.out 0)); (try (have hczrw8_gb270_1 := zc1 BK270.out)); (try (have hfzrw8_gb270_1 := zfz BK270.out 1)); (try (have hczrw8_gb271_0 := zc0 BK271.out)); (try (have hfzrw8_gb271_0 := zfz BK271.out 0)); (try (have hczrw8_gb271_1 := zc1 BK271.out)); (try (have hfzrw8_gb271_1 := zfz BK271.out 1))))
  have n0_ := zQ (blk_drew BK269.out); have n1_ := zQ (blk_drew BK270.out); have n2_ := zQ (blk_drew BK271.out); have n3_ := zQ (below_drew1 HB.out); clear BK269; clear BK270; clear BK271; clear HB; have BK269 := n0_; have BK270 := n1_; have BK271 := n2_; have HB := n3_; clear n0_ n1_ n2_ n3_
  refine zs (fun w' => w'.cell? ⟨gb269, 0, none⟩ = some (.int .i64 a0_0) ∧ w'.cell? ⟨gb269, 1, none⟩ = some (.int .i64 a0_1) ∧ w'.cell? ⟨gb270, 0, none⟩ = some (.int .i64 a1_0) ∧ w'.cell? ⟨gb270, 1, none⟩ = some (.int .i64 a1_1)) [] 24 ⟨(blk_cell BK269.out 0).trans rfl, (blk_cell BK269.out 1).trans rfl, (blk_cell BK270.out 0).trans rfl, (blk_cell BK270.out 1).trans rfl⟩ (fun hHeld => ?_); refine with_tabW impl_addFractions.tab2 impl_addFractions.bits2 (fun HT_ HW_ => ?_)
  generalize w8.drew = w14 at BK269 BK270 BK271 HB hHeld ⊢
  refine zp 0 11 ?_
  refine zp 2 13 ?_
  refine zp 4 15 ?_
  refine zp 7 18 ?_
  refine zp 9 20 ?_
  refine zp 11 22 ?_
  refine zp 15 26 ?_
  refine zp 17 28 ?_
  refine zp 19 30 ?_
  refine zt 1 12 hHeld ?_
  refine zt 3 14 hHeld ?_
  refine zp 5 16 ?_
  refine zp 6 17 ?_
  refine zt 8 19 hHeld ?_
  refine zt 10 21 hHeld ?_
  refine zp 12 23 ?_
  refine zp 13 24 ?_
  refine zp 14 25 ?_
  refine zt 16 27 hHeld ?_
  refine zp 18 29 ?_
  refine zt 20 31 hHeld ?_
  refine zp 21 32 ?_
  refine zo 22 (some 33) (fun K hK => ?_)
  refine goes_ Try.func136 (by kernel_rfl) rfl #[.int .i64 (wrap64 ((wrap64 (a0_0 * (wrap64 (Int.tdiv a1_1 t272)))) + (wrap64 (a1_0 * (wrap64 (Int.tdiv a0_1 t272)))))), .int .i64 (wrap64 ((wrap64 (Int.tdiv a0_1 t272)) * a1_1))] (by rfl) rfl rfl zM ?_
  with_reducible refine (impl_fraction.calls k (wrap64 ((wrap64 (a0_0 * (wrap64 (Int.tdiv a1_1 t272)))) + (wrap64 (a1_0 * (wrap64 (Int.tdiv a0_1 t272)))))) (wrap64 ((wrap64 (Int.tdiv a0_1 t272)) * a1_1)) t273 t274 _ A5.out).mono ?_
  rintro e w15 ⟨rfl, hb⟩
  refine ⟨_, rfl, ?_⟩
  have n0_ := zbl BK269.out hb; have n1_ := zbl BK270.out hb; have n2_ := zbl BK271.out hb; have n3_ := zQ (below_step (by repeat (first | (with_reducible first | exact HB.out | apply below_alloc | apply pw_below_drewN | apply below_drew1 | refine below_set ?_ GE269.out | refine below_set ?_ GE270.out | refine below_set ?_ GE271.out) | exact HB.out)) hb); clear BK269; clear BK270; clear BK271; clear HB; have BK269 := n0_; have BK270 := n1_; have BK271 := n2_; have HB := n3_; clear n0_ n1_ n2_ n3_
  (try clear hb)
  (try clear hb2)
  (try clear hk)
  (try clear hi)
  refine hK.out _ _ ⟨(blk_cell BK269.out 0).trans rfl, (blk_cell BK269.out 1).trans rfl, (blk_cell BK270.out 0).trans rfl, (blk_cell BK270.out 1).trans rfl⟩ (fun hHeld => ?_)
  clear hK K
  refine zn 33 ?_
  refine zo 23 none (fun K hK => ?_)
  have hs16 : w15.cell? ⟨gb271, 0, none⟩ = some (.int .i64 0) := (blk_cell BK271.out 0).trans rfl; have hfs16 := zfz BK271.out 0; have hns16_0 := NB269_271.out; have hns16_1 := NB270_271.out; have hms16_0 := NB271_269.out; have hms16_1 := NB271_270.out; have hs17 : w15.cell? ⟨gb271, 1, none⟩ = some (.int .i64 0) := (blk_cell BK271.out 1).trans rfl; have hfs17 := zfz BK271.out 1; have hns17_0 := NB269_271.out; have hns17_1 := NB270_271.out; have hms17_0 := NB271_269.out; have hms17_1 := NB271_270.out
  refine skip_ (w1 := ?_) (by rfl) rfl ?_ ?_
  rotate_left
  ·go_simp
   rfl
  refine hK.out _ _ ⟨((cell_far (p := ⟨gb271, _, none⟩) NB269_271.out _).trans (((cell_far (p := ⟨gb271, _, none⟩) NB269_271.out _).trans (hHeld.1)))), ((cell_far (p := ⟨gb271, _, none⟩) NB269_271.out _).trans (((cell_far (p := ⟨gb271, _, none⟩) NB269_271.out _).trans (hHeld.2.1)))), ((cell_far (p := ⟨gb271, _, none⟩) NB270_271.out _).trans (((cell_far (p := ⟨gb271, _, none⟩) NB270_271.out _).trans (hHeld.2.2.1)))), ((cell_far (p := ⟨gb271, _, none⟩) NB270_271.out _).trans (((cell_far (p := ⟨gb271, _, none⟩) NB270_271.out _).trans (hHeld.2.2.2))))⟩ (fun hHeld => ?_)
  clear hK K
  refine done_ (done_of HT_.out (by kernel_rfl)) ?_
  try go_wp2
  refine bodyPost_ret (results_cell_row rfl _ _ gb271 147 #[.int .i64 t273, .int .i64 t274] (0, 0) _ rfl (by refine zb ?_; refine blk_put (cs := #[.int .i64 t273, .int .i64 0]) ?_ 1 _ rfl; refine zb ?_; refine blk_put (cs := #[.int .i64 0, .int .i64 0]) ?_ 0 _ rfl; refine zb ?_; exact BK271.out) Try.underlying147 rfl (by kernel_rfl)) rfl ?_
  exact ⟨zE, by repeat (first | (with_reducible first | exact HB.out | apply below_alloc | apply pw_below_drewN | apply below_drew1 | refine below_set ?_ GE269.out | refine below_set ?_ GE270.out | refine below_set ?_ GE271.out) | exact HB.out)⟩

end
end Go.Proofs.Ytimjblgepbhoaaa.PStays

