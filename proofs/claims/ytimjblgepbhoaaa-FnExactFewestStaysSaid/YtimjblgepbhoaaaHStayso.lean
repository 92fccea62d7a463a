import Derived.Test.YtimjblgepbhoaaaHStays0
namespace Go.Proofs.Ytimjblgepbhoaaa.PStays
noncomputable section
open Go.RowKit Go.Proofs.YtimjblgepbhoaaaW.PrintWords Go.Proofs.YtimjblgepbhoaaaW.PrintLast Go.Proofs.YtimjblgepbhoaaaW.PrintMore
attribute [local go_sem] max2_int min2_int max_two min_two max_three min_three max_four min_four   -- for this text's walks alone
set_option linter.unusedVariables false
set_option linter.unusedSimpArgs false
set_option maxHeartbeats 8000000
set_option maxRecDepth 100000

def impl_pullOf.f (l0_0 : List (S164)) (l0_1 : List (S115)) (a1_0 : Int) (a1_1 : Int) (a1_2 : Bool) (a2 : Int) : Option (Int × Int) := if 0 ≤ a1_1 then (if a1_1 < (l0_0.length : Int) then (if 0 ≤ a1_0 then (if a1_0 < (l0_0.length : Int) then (if a2 = a1_0 then (some (wrap64 (((rd_T164 l0_0 a1_1).f0) - ((rd_T164 l0_0 a1_0).f0)), wrap64 (((rd_T164 l0_0 a1_1).f1) - ((rd_T164 l0_0 a1_0).f1)))) else (if a2 = a1_1 then (some (wrap64 (-(wrap64 (((rd_T164 l0_0 a1_1).f0) - ((rd_T164 l0_0 a1_0).f0)))), wrap64 (-(wrap64 (((rd_T164 l0_0 a1_1).f1) - ((rd_T164 l0_0 a1_0).f1)))))) else (some (0, 0)))) else (none)) else (none)) else (none)) else (none)
theorem impl_pullOf.calls (A0_0 : Option Addr) (c0_0 : Nat) (l0_0 : List (S164)) (A0_1 : Option Addr) (c0_1 : Nat) (l0_1 : List (S115)) (a1_0 : Int) (a1_1 : Int) (a1_2 : Bool) (a2 : Int) (r1 : Int) (r2 : Int) (w : World) (fB : Kd.C k164 w A0_0 l0_0.length l0_0) (JB : l0_0.length ≤ c0_0) (FB : Kd.C k115 w A0_1 l0_1.length l0_1) (IB : l0_1.length ≤ c0_1) (h : impl_pullOf.f l0_0 l0_1 a1_0 a1_1 a1_2 a2 = some (r1, r2)) :
  Calls Try.prog 94 #[.agg #[.slice A0_0 l0_0.length c0_0, .slice A0_1 l0_1.length c0_1], .agg #[.int .i64 a1_0, .int .i64 a1_1, .bool a1_2], .int .i64 a2] w fun e w' => e = .returned (.tuple #[.int .i64 r1, .int .i64 r2]) ∧ Below w.heap.size w w' := by
 have LD := Try.underlying27
 have bD := Try.underlying115
 unfold impl_pullOf.f at h
 by_cases c1 : 0 ≤ a1_1 ∧ a1_1 < (l0_0.length : Int)
 ·rw [if_pos c1.1, if_pos c1.2] at h
  by_cases c2 : 0 ≤ a1_0 ∧ a1_0 < (l0_0.length : Int)
  ·rw [if_pos c2.1, if_pos c2.2] at h
   obtain ⟨ad, ea, CB, AB, _⟩ := at_T164 fB a1_0 c2.1 c2.2; subst ea; obtain ⟨ad', ea, BB, zB, _⟩ := at_T164 fB a1_1 c1.1 c1.2; obtain rfl := Option.some.inj ea
   generalize (rd_T164 l0_0 a1_0).f0 = x0 at h CB
   generalize (rd_T164 l0_0 a1_0).f1 = y0 at h AB
   generalize (rd_T164 l0_0 a1_1).f0 = x1 at h BB
   generalize (rd_T164 l0_0 a1_1).f1 = y1 at h zB
   have p1 : (0 ≤ a1_1) = True := eq_true c1.1; have q1 : (a1_1 < (l0_0.length : Int)) = True := eq_true c1.2; have p2 : (0 ≤ a1_0) = True := eq_true c2.1; have q2 : (a1_0 < (l0_0.length : Int)) = True := eq_true c2.2; have H := zQ h; clear c1 c2 h fB JB FB IB
   go_enter Try.func94, Try.ntmps94
   go_wp2_with (first
    | ((with_reducible refine zd 3 ?_); refine zbx (N := 3) (cs := #[.slice (some ad) l0_0.length c0_0, .slice A0_1 l0_1.length c0_1]) (t := 27) ?_; intro g3 hg w3 dA hb; have HB3 := zQ hb; have B3 := zQ dA; clear hb dA hg)
    | ((with_reducible refine zd 4 ?_); refine zbx (N := 4) (cs := #[.int .i64 a1_0, .int .i64 a1_1, .bool a1_2]) (t := 115) ?_; intro g4 hg w4 dA hb; have HB4 := zQ (below_step HB3.out hb); have b3 : w4.cell? ⟨g3, 0, none⟩ = some (.slice (some ad) l0_0.length c0_0) := (blk_cell (blk_below B3.out hb) 0).trans rfl; have b40 : w4.cell? ⟨g4, 0, none⟩ = some (.int .i64 a1_0) := (blk_cell dA 0).trans rfl; have b41 : w4.cell? ⟨g4, 1, none⟩ = some (.int .i64 a1_1) := (blk_cell dA 1).trans rfl; clear hb dA hg))
   replace CB := (HB4.out.cell (World.block_lt_of_cell? w _ CB)).trans CB; replace BB := (HB4.out.cell (World.block_lt_of_cell? w _ BB)).trans BB; replace AB := (HB4.out.cell (World.block_lt_of_cell? w _ AB)).trans AB; replace zB := (HB4.out.cell (World.block_lt_of_cell? w _ zB)).trans zB
   refine zs (fun w' => w'.cell? ⟨g3, 0, none⟩ = some (.slice (some ad) l0_0.length c0_0) ∧ w'.cell? ⟨g4, 0, none⟩ = some (.int .i64 a1_0) ∧ w'.cell? ⟨g4, 1, none⟩ = some (.int .i64 a1_1) ∧ w'.cell? (ad.add (a1_1.toNat * 3)) = some (.int .i64 x1) ∧ w'.cell? (ad.add (a1_0.toNat * 3)) = some (.int .i64 x0)) [] 16 ⟨b3, b40, b41, BB, CB⟩ (fun aA => ?_)
   refine zp 0 10 ?_
   refine zp 2 12 ?_
   refine zp 7 17 ?_
   refine zp 9 19 ?_
   refine zt 1 11 aA ?_
   refine zt 3 13 aA ?_
   refine zp 4 14 ?_
   refine zp 5 15 ?_
   refine zt 6 16 aA ?_
   refine zt 8 18 aA ?_
   refine zt 10 20 aA ?_
   refine zp 11 21 ?_
   refine zp 12 22 ?_
   refine zt 13 23 aA ?_
   refine zp 14 24 ?_
   refine zp 15 8 ?_
   refine done_ (by kernel_rfl) ?_
   try go_wp2
   refine zs (fun w' => w'.cell? ⟨g3, 0, none⟩ = some (.slice (some ad) l0_0.length c0_0) ∧ w'.cell? ⟨g4, 0, none⟩ = some (.int .i64 a1_0) ∧ w'.cell? ⟨g4, 1, none⟩ = some (.int .i64 a1_1) ∧ w'.cell? ⟨(ad.add (a1_1.toNat * 3)).block, (ad.add (a1_1.toNat * 3)).off + 1, none⟩ = some (.int .i64 y1) ∧ w'.cell? ⟨(ad.add (a1_0.toNat * 3)).block, (ad.add (a1_0.toNat * 3)).off + 1, none⟩ = some (.int .i64 y0)) [] 16 ⟨b3, b40, b41, zB, AB⟩ (fun aA => ?_)
   refine zp 0 25 ?_
   refine zp 2 27 ?_
   refine zp 7 32 ?_
   refine zp 9 34 ?_
   refine zt 1 26 aA ?_
   refine zt 3 28 aA ?_
   refine zp 4 29 ?_
   refine zp 5 30 ?_
   refine zt 6 31 aA ?_
   refine zt 8 33 aA ?_
   refine zt 10 35 aA ?_
   refine zp 11 36 ?_
   refine zp 12 37 ?_
   refine zt 13 38 aA ?_
   refine zp 14 39 ?_
   refine zp 15 9 ?_
   refine done_ (by kernel_rfl) ?_
   have h := H.out; clear H CB BB AB zB b3 p1 q1 p2 q2
   by_cases c3 : a2 = a1_0
   ·rw [if_pos c3] at h
    simp only [Option.some.injEq, Prod.mk.injEq] at h
    obtain ⟨rfl, rfl⟩ := h; have t1 : (a2 == a1_0) = true := beq_iff_eq.mpr c3; clear c3
    go_wp2
    go_ret2
    exact ⟨by first | rfl | (simp; done), by repeat (first | exact HB4.out | apply below_drew1 | apply pw_below_drewN)⟩
   ·rw [if_neg c3] at h
    have t1 : (a2 == a1_0) = false := beq_eq_false_iff_ne.mpr c3
    by_cases c4 : a2 = a1_1
    ·rw [if_pos c4] at h
     simp only [Option.some.injEq, Prod.mk.injEq] at h
     obtain ⟨rfl, rfl⟩ := h; have t2 : (a2 == a1_1) = true := beq_iff_eq.mpr c4; clear c3 c4
     go_wp2
     go_ret2
     exact ⟨by first | rfl | (simp; done), by repeat (first | exact HB4.out | apply below_drew1 | apply pw_below_drewN)⟩
    ·rw [if_neg c4] at h
     simp only [Option.some.injEq, Prod.mk.injEq] at h
     obtain ⟨rfl, rfl⟩ := h; have t2 : (a2 == a1_1) = false := beq_eq_false_iff_ne.mpr c4; clear c3 c4
     go_wp2
     go_ret2
     exact ⟨by first | rfl | (simp; done), by repeat (first | exact HB4.out | apply below_drew1 | apply pw_below_drewN)⟩
  ·by_cases c3 : 0 ≤ a1_0
   ·rw [if_pos c3, if_neg (fun h_ => c2 ⟨c3, h_⟩)] at h
    cases h
   ·rw [if_neg c3] at h
    cases h
 ·by_cases c3 : 0 ≤ a1_1
  ·rw [if_pos c3, if_neg (fun h_ => c1 ⟨c3, h_⟩)] at h
   cases h
  ·rw [if_neg c3] at h
   cases h

mutual
def impl_gcd.j0 : Nat → Int → Int → Option (Int)
 | 0, _, _ => none
 | k + 1, x0, x1 => impl_gcd.l0 k x0 x1
def impl_gcd.l0 : Nat → Int → Int → Option (Int)
 | 0, _, _ => none
 | k + 1, x0, x1 => if x1 = 0 then (some x0) else (impl_gcd.l0 k x1 (Int.tmod x0 x1))
end
def impl_gcd.f (k : Nat) (a0 : Int) (a1 : Int) : Option (Int) := if a0 < 0 then (impl_gcd.j0 k (wrap64 (-a0)) a1) else (impl_gcd.j0 k a0 a1)
theorem impl_gcd.mono_l : ∀ k, (∀ y0 y1, LeO (impl_gcd.j0 k y0 y1) (impl_gcd.j0 (k + 1) y0 y1)) ∧ (∀ y0 y1, LeO (impl_gcd.l0 k y0 y1) (impl_gcd.l0 (k + 1) y0 y1))
 | 0 => ⟨fun _ _ r h => by simp [impl_gcd.j0] at h, fun _ _ r h => by simp [impl_gcd.l0] at h⟩
 | k + 1 => by
  obtain ⟨ih0, ih1⟩ := impl_gcd.mono_l k
  refine ⟨?_, ?_⟩
  ·intro y0 y1
   unfold impl_gcd.j0
   exact zM0
  ·intro y0 y1
   unfold impl_gcd.l0
   exact zM0
theorem impl_gcd.mono : ∀ a0 a1 k, LeO (impl_gcd.f k a0 a1) (impl_gcd.f (k + 1) a0 a1) := by
 intro a0 a1 k
 obtain ⟨ih0, ih1⟩ := impl_gcd.mono_l k
 unfold impl_gcd.f
 exact zM0
theorem impl_gcd.calls (k : Nat) (a0 : Int) (a1 : Int) (r : Int) (w : World) (h : impl_gcd.f k a0 a1 = some r) :
  Calls Try.prog 123 #[.int .i64 a0, .int .i64 a1] w fun e w' => e = .returned (.int .i64 r) ∧ Drawn0 w w' := by
 have H := h; unfold impl_gcd.f at H
 clear h
 have YC := zQ H
 clear H
 go_enter Try.func123, Try.ntmps123
 go_upto_if 6 with (fail)
 repeat (go_quiet (fail); go_upto_if 6 with (fail))
 go_cut [0] (fun v0 wc => ∃ (kq : Nat) (EA : Int), v0 = .int .i64 EA ∧ Aside0 (impl_gcd.j0 kq EA a1 = some r) ∧ Aside0 (kq ≤ k) ∧ Drawn0 w wc)
 case first =>
  have H := YC.out; clear YC
  by_cases c4 : a0 < 0
  ·rw [if_pos c4] at H
   have FA := decide_eq_true c4; clear c4
   (first | rw [FA] | (simp only [i64_w, i32_w]; rw [FA]) | skip)
   have H' := zQ H; clear H
   go_wp2
   repeat (go_quiet (fail); try go_wp2)
   go_meet
   case rel => exact ⟨_, (wrap64 (-a0)), (zF), H', ⟨by first | omega | exact Nat.le_refl _⟩, by repeat (first | exact Drawn0.refl _ | apply Drawn0.step)⟩
  ·rw [if_neg c4] at H
   have FA := decide_eq_false c4; clear c4
   (first | rw [FA] | (simp only [i64_w, i32_w]; rw [FA]) | skip)
   have H' := zQ H; clear H
   go_wp2
   repeat (go_quiet (fail); try go_wp2)
   go_meet
   case rel => exact ⟨_, (a0), (zF), H', ⟨by first | omega | exact Nat.le_refl _⟩, by repeat (first | exact Drawn0.refl _ | apply Drawn0.step)⟩
 case rest =>
  clear YC; (try clear c1); (try clear p2); (try clear c4); (try clear FA); obtain ⟨kq, EA, rfl, HA, ED, ⟨mc2, rfl⟩⟩ := hcut
  cases kq with
  | zero => exact absurd HA.out (by simp [impl_gcd.j0])
  | succ aD =>
   have H := HA.out; clear HA
   simp only [impl_gcd.j0] at H
   have H' := zQ H; clear H
   go_wp2
   repeat (go_quiet (fail); try go_wp2)
   go_loopg [0, 1] aD (fun kq v0 v1 w' => ∃ (EA : Int) (CA : Int), v0 = .int .i64 EA ∧ v1 = .int .i64 CA ∧ Aside0 (impl_gcd.l0 kq EA CA = some r) ∧ Aside0 (kq ≤ aD) ∧ Drawn0 w w')
   case atStart => exact ⟨(EA), (a1), (zF), (zF), H', ⟨Nat.le_refl _⟩, by repeat (first | exact Drawn0.refl _ | apply Drawn0.step)⟩
   case round =>
    clear H'; (try clear c1); (try clear c2); (try clear p2); (try clear c4); (try clear FA); (try clear p2); obtain ⟨EA, CA, rfl, rfl, HA, HK2, ⟨m2, rfl⟩⟩ := hrel
    cases gk with
    | zero => exact absurd HA.out (by simp [impl_gcd.l0])
    | succ k2 =>
     have H := HA.out; clear HA
     simp only [impl_gcd.l0] at H
     by_cases c5 : CA = 0
     ·rw [if_pos c5] at H
      have wB : (CA == 0) = true := beq_iff_eq.mpr c5; have NB : (CA != 0) = false := bne_eq_false_iff_eq.mpr c5; clear c5; obtain rfl := Option.some.inj H
      go_wp2
      repeat (go_quiet (fail); try go_wp2)
      go_ret
      exact ⟨zF, by repeat (first | exact Drawn0.refl _ | apply Drawn0.step)⟩
     ·rw [if_neg c5] at H
      have wB : (CA == 0) = false := beq_eq_false_iff_ne.mpr c5; have NB : (CA != 0) = true := bne_iff_ne.mpr c5; have H' := zQ H; clear H
      go_wp2
      repeat (go_quiet (fail); try go_wp2)
      go_roundg k2
      case measure => have := ED.out; have := HK2.out; omega
      case rel => exact ⟨(CA), (Int.tmod EA CA), (zF), (zF), H', ⟨by have := ED.out; have := HK2.out; omega⟩, by repeat (first | exact Drawn0.refl _ | apply Drawn0.step)⟩

def impl_fraction.f (k : Nat) (a0 : Int) (a1 : Int) : Option (Int × Int) := if a1 < 0 then ((impl_gcd.f k (wrap64 (-a0)) (wrap64 (-a1))).bind fun BA => (if BA = 0 then (none) else (some (wrap64 (Int.tdiv (wrap64 (-a0)) BA), wrap64 (Int.tdiv (wrap64 (-a1)) BA))))) else ((impl_gcd.f k a0 a1).bind fun AA => (if AA = 0 then (none) else (some (wrap64 (Int.tdiv a0 AA), wrap64 (Int.tdiv a1 AA)))))
theorem impl_fraction.mono : ∀ a0 a1 k, LeO (impl_fraction.f k a0 a1) (impl_fraction.f (k + 1) a0 a1) := by
 intro a0 a1 k
 unfold impl_fraction.f
 have m0 := @impl_gcd.mono; exact zM0
def impl_fraction.T4 : Bool × List (List Nat × List Nat) := (true, [([], []), ([], []), ([0, 1], [0, 1]), ([], []), ([], []), ([3, 4], [3, 4]), ([2, 5], [2, 5]), ([6, 0, 1, 2, 3, 4, 5, 6], [6])])
def impl_fraction.B4 : List Nat := [0, 0, 3, 0, 0, 24, 63, 127]
theorem impl_fraction.tab4 : rtab .any (opsOf Try.f136 4) = impl_fraction.T4 := by kernel_rfl
theorem impl_fraction.bits4 : waitsOk impl_fraction.T4.2 impl_fraction.B4 = true := by kernel_rfl
theorem impl_fraction.calls (k : Nat) (a0 : Int) (a1 : Int) (r1 : Int) (r2 : Int) (w : World) (h : impl_fraction.f k a0 a1 = some (r1, r2)) :
  Calls Try.prog 136 #[.int .i64 a0, .int .i64 a1] w fun e w' => e = .returned (.agg #[.int .i64 r1, .int .i64 r2]) ∧ Below w.heap.size w w' := by
 have mB := Try.underlying147
 have HB := zQ (Below.refl w.heap.size w)
 have H := h; unfold impl_fraction.f at H
 clear h
 by_cases c3 : a1 < 0
 ·rw [if_pos c3] at H
  have xB := decide_eq_true c3; clear c3; replace H := zob H; obtain ⟨BA, A4, H⟩ := H
  by_cases c5 : BA = 0
  ·rw [if_pos c5] at H
   exact absurd H (by simp)
  ·rw [if_neg c5] at H
   have wB : (BA == 0) = false := beq_eq_false_iff_ne.mpr c5; have NB : (BA != 0) = true := bne_iff_ne.mpr c5
   simp only [Option.some.injEq, Prod.mk.injEq] at H
   obtain ⟨rfl, rfl⟩ := H
   go_enter Try.func136, Try.ntmps136
   try go_wp2_with (first | ((with_reducible refine zd 4 ?_); refine zbx (N := 4) (cs := #[.int .i64 0, .int .i64 0]) (t := 147) ?_; intro qA hg w6 dA hb; have bA := zQ (dA); have jB := zgz hg HB.out; have IA := jB; replace HB := zbs HB.out hb; clear hb dA hg) | ((with_reducible refine zgc 123 ?_); refine zgo (some 14) Try.func123 #[.int .i64 (wrap64 (-a0)), .int .i64 (wrap64 (-a1))] ?_; (with_reducible refine (impl_gcd.calls k (wrap64 (-a0)) (wrap64 (-a1)) BA _ A4.out).mono ?_); rintro e w' ⟨rfl, ⟨nd, rfl⟩⟩; refine ⟨_, rfl, ?_⟩; (try (rw [drewN_self w6]; generalize hq_ : World.drewN w6 _ = w6; have n0_ : Aside0 (w6.heap[qA]? = some (.cells #[.int .i64 0, .int .i64 0] 147 (0, 0))) := ⟨by rw [← hq_]; exact (zb bA.out)⟩; have n1_ : Aside0 (Below w.heap.size w w6) := ⟨by rw [← hq_]; exact (zB2 HB.out IA.out)⟩; clear bA HB hq_; have bA := n0_; have HB := n1_; clear n0_ n1_)); (try (have hczrw6_gb255_0 := zc0 bA.out)); (try (have hfzrw6_gb255_0 := zfz bA.out 0)); (try (have hczrw6_gb255_1 := zc1 bA.out)); (try (have hfzrw6_gb255_1 := zfz bA.out 1))))
   have n0_ := zQ (blk_drew bA.out); have n1_ := zQ (below_drew1 HB.out); clear bA; clear HB; have bA := n0_; have HB := n1_; clear n0_ n1_
   refine zs (fun w' => True) [] 8 trivial (fun aA => ?_); refine with_tabW impl_fraction.tab4 impl_fraction.bits4 (fun HT_ HW_ => ?_)
   generalize w6.drew = w7 at bA HB aA ⊢
   refine zp 0 15 ?_
   refine zp 1 16 ?_
   refine zp 2 17 ?_
   refine zp 3 18 ?_
   refine zp 4 19 ?_
   refine zp 5 20 ?_
   refine zp 6 21 ?_
   refine zo 7 none (fun K hK => ?_)
   have ZD : w7.cell? ⟨qA, 0, none⟩ = some (.int .i64 0) := (blk_cell bA.out 0).trans rfl; have TD := zfz bA.out 0; have YD : w7.cell? ⟨qA, 1, none⟩ = some (.int .i64 0) := (blk_cell bA.out 1).trans rfl; have SD := zfz bA.out 1
   refine skip_ (w1 := ?_) (by rfl) rfl ?_ ?_
   rotate_left
   ·go_simp
    rfl
   refine hK.out _ _ trivial (fun aA => ?_)
   clear hK K
   refine done_ (done_of HT_.out (by kernel_rfl)) ?_
   try go_wp2
   refine bodyPost_ret (results_cell_row rfl _ _ qA 147 #[.int .i64 (wrap64 (Int.tdiv (wrap64 (-a0)) BA)), .int .i64 (wrap64 (Int.tdiv (wrap64 (-a1)) BA))] (0, 0) _ rfl (by refine zb ?_; refine blk_put (cs := #[.int .i64 (wrap64 (Int.tdiv (wrap64 (-a0)) BA)), .int .i64 0]) ?_ 1 _ rfl; refine zb ?_; refine blk_put (cs := #[.int .i64 0, .int .i64 0]) ?_ 0 _ rfl; refine zb ?_; exact bA.out) Try.underlying147 rfl (by kernel_rfl)) rfl ?_
   exact ⟨zE, zB2 HB.out IA.out⟩
 ·rw [if_neg c3] at H
  have xB := decide_eq_false c3; clear c3; replace H := zob H; obtain ⟨AA, VD, H⟩ := H
  by_cases RC : AA = 0
  ·rw [if_pos RC] at H
   exact absurd H (by simp)
  ·rw [if_neg RC] at H
   have CD : (AA == 0) = false := beq_eq_false_iff_ne.mpr RC; have BD : (AA != 0) = true := bne_iff_ne.mpr RC
   simp only [Option.some.injEq, Prod.mk.injEq] at H
   obtain ⟨rfl, rfl⟩ := H
   go_enter Try.func136, Try.ntmps136
   try go_wp2_with (first | ((with_reducible refine zd 4 ?_); refine zbx (N := 4) (cs := #[.int .i64 0, .int .i64 0]) (t := 147) ?_; intro qA hg yB dA hb; have bA := zQ (dA); have jB := zgz hg HB.out; have IA := jB; replace HB := zbs HB.out hb; clear hb dA hg) | ((with_reducible refine zgc 123 ?_); refine zgo (some 14) Try.func123 #[.int .i64 a0, .int .i64 a1] ?_; (with_reducible refine (impl_gcd.calls k a0 a1 AA _ VD.out).mono ?_); rintro e w' ⟨rfl, ⟨nd, rfl⟩⟩; refine ⟨_, rfl, ?_⟩; (try (rw [drewN_self yB]; generalize hq_ : World.drewN yB _ = yB; have n0_ : Aside0 (yB.heap[qA]? = some (.cells #[.int .i64 0, .int .i64 0] 147 (0, 0))) := ⟨by rw [← hq_]; exact (zb bA.out)⟩; have n1_ : Aside0 (Below w.heap.size w yB) := ⟨by rw [← hq_]; exact (zB2 HB.out IA.out)⟩; clear bA HB hq_; have bA := n0_; have HB := n1_; clear n0_ n1_)); (try (have hczrw12_gb255_0 := zc0 bA.out)); (try (have hfzrw12_gb255_0 := zfz bA.out 0)); (try (have hczrw12_gb255_1 := zc1 bA.out)); (try (have hfzrw12_gb255_1 := zfz bA.out 1))))
   have n0_ := zQ (blk_drew bA.out); have n1_ := zQ (below_drew1 HB.out); clear bA; clear HB; have bA := n0_; have HB := n1_; clear n0_ n1_
   refine zs (fun w' => True) [] 8 trivial (fun aA => ?_); refine with_tabW impl_fraction.tab4 impl_fraction.bits4 (fun HT_ HW_ => ?_)
   generalize yB.drew = TC at bA HB aA ⊢
   refine zp 0 15 ?_
   refine zp 1 16 ?_
   refine zp 2 17 ?_
   refine zp 3 18 ?_
   refine zp 4 19 ?_
   refine zp 5 20 ?_
   refine zp 6 21 ?_
   refine zo 7 none (fun K hK => ?_)
   have PD : TC.cell? ⟨qA, 0, none⟩ = some (.int .i64 0) := (blk_cell bA.out 0).trans rfl; have AD := zfz bA.out 0; have OD : TC.cell? ⟨qA, 1, none⟩ = some (.int .i64 0) := (blk_cell bA.out 1).trans rfl; have yD := zfz bA.out 1
   refine skip_ (w1 := ?_) (by rfl) rfl ?_ ?_
   rotate_left
   ·go_simp
    rfl
   refine hK.out _ _ trivial (fun aA => ?_)
   clear hK K
   refine done_ (done_of HT_.out (by kernel_rfl)) ?_
   try go_wp2
   refine bodyPost_ret (results_cell_row rfl _ _ qA 147 #[.int .i64 (wrap64 (Int.tdiv a0 AA)), .int .i64 (wrap64 (Int.tdiv a1 AA))] (0, 0) _ rfl (by refine zb ?_; refine blk_put (cs := #[.int .i64 (wrap64 (Int.tdiv a0 AA)), .int .i64 0]) ?_ 1 _ rfl; refine zb ?_; refine blk_put (cs := #[.int .i64 0, .int .i64 0]) ?_ 0 _ rfl; refine zb ?_; exact bA.out) Try.underlying147 rfl (by kernel_rfl)) rfl ?_
   exact ⟨zE, zB2 HB.out IA.out⟩

def slices_Index_int_int.l0 : Nat → List Int → Int → Int → Int → Option (Int)
 | 0, _, _, _, _ => none
 | k + 1, x0, x1, x7, x8 => if x8 < x7 then (if 0 ≤ x8 then (if x8 < (x0.length : Int) then (if x1 = (rd x0 x8) then (some x8) else (slices_Index_int_int.l0 k x0 x1 x7 (wrap64 (x8 + 1)))) else (none)) else (none)) else (some (-1))
def slices_Index_int_int.f (k : Nat) (l0 : List Int) (a1 : Int) : Option (Int) := slices_Index_int_int.l0 k l0 a1 (l0.length : Int) 0
theorem slices_Index_int_int.calls (k : Nat) (A0 : Option Addr) (c0 : Nat) (l0 : List Int) (a1 : Int) (r : Int) (w : World) (GB : Kd.C (Kd.int .i64) w A0 l0.length l0) (KB : l0.length ≤ c0) (h : slices_Index_int_int.f k l0 a1 = some r) :
  Calls Try.prog 139 #[.slice A0 l0.length c0, .int .i64 a1] w fun e w' => e = .returned (.int .i64 r) ∧ Drawn0 w w' := by
 have SC := zQ GB
 have FD := zQ KB
 clear GB KB
 have H : (slices_Index_int_int.l0 k l0 a1 (l0.length : Int) 0) = some r := h
 clear h
 have H' := zQ H
 clear H
 go_enter Try.func139, Try.ntmps139
 go_wp2
 go_loopg [8] k (fun kq v8 w' => ∃ (oA : Int), v8 = .int .i64 oA ∧ Aside0 (slices_Index_int_int.l0 kq l0 a1 (l0.length : Int) oA = some r) ∧ Aside0 (kq ≤ k) ∧ Drawn0 w w')
 case atStart => exact ⟨(0), (zF), H', ⟨Nat.le_refl _⟩, by repeat (first | exact Drawn0.refl _ | apply Drawn0.step)⟩
 case round =>
  clear H'; (try clear c1); (try clear p2); obtain ⟨oA, rfl, HA, DD, ⟨m1, rfl⟩⟩ := hrel
  cases gk with
  | zero => exact absurd HA.out (by simp [slices_Index_int_int.l0])
  | succ k1 =>
   have H := HA.out; clear HA
   simp only [slices_Index_int_int.l0] at H
   by_cases c3 : oA < (l0.length : Int)
   ·rw [if_pos c3] at H
    have xB := decide_eq_true c3; clear c3
    by_cases c4 : 0 ≤ oA
    ·rw [if_pos c4] at H
     have FA := decide_eq_true c4; clear c4
     by_cases c5 : oA < (l0.length : Int)
     ·rw [if_pos c5] at H
      have wB := decide_eq_true c5; clear c5
      by_cases c6 : a1 = (rd l0 oA)
      ·rw [if_pos c6] at H
       have XC : (a1 == (rd l0 oA)) = true := beq_iff_eq.mpr c6; have WC : (a1 != (rd l0 oA)) = false := bne_eq_false_iff_eq.mpr c6; clear c6; obtain rfl := Option.some.inj H; have KA : 0 ≤ (oA : Int) := zD; have JA : oA < (l0.length : Int) := zD; obtain ⟨OB, vB, lB⟩ := Kd.at_int SC.out oA KA JA
       cases vB
       replace KA := eq_true KA; replace JA := eq_true JA
       go_wp2
       go_ret
       exact ⟨zF, by repeat (first | exact Drawn0.refl _ | apply Drawn0.step)⟩
      ·rw [if_neg c6] at H
       have XC : (a1 == (rd l0 oA)) = false := beq_eq_false_iff_ne.mpr c6; have WC : (a1 != (rd l0 oA)) = true := bne_iff_ne.mpr c6; have H' := zQ H; clear H; have KA : 0 ≤ (oA : Int) := zD; have JA : oA < (l0.length : Int) := zD; obtain ⟨OB, vB, lB⟩ := Kd.at_int SC.out oA KA JA
       cases vB
       replace KA := eq_true KA; replace JA := eq_true JA
       go_wp2
       go_roundg k1
       case measure => have := DD.out; omega
       case rel => exact ⟨(wrap64 (oA + 1)), (zF), H', ⟨by have := DD.out; omega⟩, by repeat (first | exact Drawn0.refl _ | apply Drawn0.step)⟩
     ·rw [if_neg c5] at H
      exact absurd H (by simp)
    ·rw [if_neg c4] at H
     exact absurd H (by simp)
   ·rw [if_neg c3] at H
    have xB := decide_eq_false c3; clear c3; obtain rfl := Option.some.inj H
    go_wp2
    go_ret
    exact ⟨zF, by repeat (first | exact Drawn0.refl _ | apply Drawn0.step)⟩

def slices_Contains_int_int.f (k : Nat) (l0 : List Int) (a1 : Int) : Option (Bool) := (slices_Index_int_int.f k l0 a1).bind fun uB => (some (decide (uB ≥ 0)))
theorem slices_Contains_int_int.calls (k : Nat) (A0 : Option Addr) (c0 : Nat) (l0 : List Int) (a1 : Int) (r : Bool) (w : World) (GB : Kd.C (Kd.int .i64) w A0 l0.length l0) (KB : l0.length ≤ c0) (h : slices_Contains_int_int.f k l0 a1 = some r) :
  Calls Try.prog 122 #[.slice A0 l0.length c0, .int .i64 a1] w fun e w' => e = .returned (.bool r) ∧ Drawn0 w w' := by
 have SC := zQ GB
 have FD := zQ KB
 clear GB KB
 have H := h; unfold slices_Contains_int_int.f at H
 clear h
 replace H := zob H; obtain ⟨uB, A3, H⟩ := H
 obtain rfl := Option.some.inj H
 go_enter Try.func122, Try.ntmps122
 go_wp2_with (first | ((with_reducible refine zgc 139 ?_); refine zgo (some 7) Try.func139 #[.slice A0 l0.length c0, .int .i64 a1] ?_; (with_reducible refine (slices_Index_int_int.calls k _ _ l0 a1 uB _ ?side1 FD.out A3.out).mono ?_); (case side1 => repeat (first | exact SC.out | (with_reducible refine Kd.C_alloc ?_ _) | (with_reducible refine Kd.C_drewN ?_ _) | (with_reducible refine Kd.C_drew ?_))); rintro e w' ⟨rfl, ⟨nd, rfl⟩⟩; refine ⟨_, rfl, ?_⟩))
 go_ret
 exact ⟨zF, by repeat (first | exact Drawn0.refl _ | apply Drawn0.step)⟩

def impl_mulFractions.f (k : Nat) (a0_0 : Int) (a0_1 : Int) (a1_0 : Int) (a1_1 : Int) : Option (Int × Int) := (impl_fraction.f k a0_0 a1_1).bind fun qB => ((impl_fraction.f k a1_0 a0_1).bind fun pB => (some (wrap64 (qB.1 * pB.1), wrap64 (qB.2 * pB.2))))
theorem impl_mulFractions.mono : ∀ a0 a1 a2 a3 k, LeO (impl_mulFractions.f k a0 a1 a2 a3) (impl_mulFractions.f (k + 1) a0 a1 a2 a3) := by
 intro a0 a1 a2 a3 k
 unfold impl_mulFractions.f
 have m0 := @impl_fraction.mono; exact zM0
theorem impl_mulFractions.calls (k : Nat) (a0_0 : Int) (a0_1 : Int) (a1_0 : Int) (a1_1 : Int) (r1 : Int) (r2 : Int) (w : World) (h : impl_mulFractions.f k a0_0 a0_1 a1_0 a1_1 = some (r1, r2)) :
  Calls Try.prog 137 #[.agg #[.int .i64 a0_0, .int .i64 a0_1], .agg #[.int .i64 a1_0, .int .i64 a1_1]] w fun e w' => e = .returned (.agg #[.int .i64 r1, .int .i64 r2]) ∧ Below w.heap.size w w' := by
 have mB := Try.underlying147
 have HB := zQ (Below.refl w.heap.size w)
 have H := h; unfold impl_mulFractions.f at H
 clear h
 replace H := zob H; obtain ⟨⟨eB, tB⟩, A3, H⟩ := H
 replace H := zob H; obtain ⟨⟨sB, EB⟩, A4, H⟩ := H
 simp only [Option.some.injEq, Prod.mk.injEq] at H
 obtain ⟨rfl, rfl⟩ := H
 go_enter Try.func137, Try.ntmps137
 go_wp2_with (first | ((with_reducible refine zd 2 ?_); refine zbx (N := 2) (cs := #[.int .i64 a0_0, .int .i64 a0_1]) (t := 147) ?_; intro MB hg w5 dA hb; have fA := zQ (dA); have SB := zgz hg HB.out; have lA := SB; replace HB := zbs HB.out hb; clear hb dA hg) | ((with_reducible refine zd 3 ?_); refine zbx (N := 3) (cs := #[.int .i64 a1_0, .int .i64 a1_1]) (t := 147) ?_; intro LB hg w6 dA hb; have hA := zQ (dA); have RB := zgz2 hg HB.out lA.out; have nA := RB; have dB := zn1 hg fA.out; have aB := zn2 hg fA.out; replace fA := zbl fA.out hb; replace HB := zbs2 HB.out lA.out hb; clear hb dA hg) | ((with_reducible refine zd 4 ?_); refine zbx (N := 4) (cs := #[.int .i64 0, .int .i64 0]) (t := 147) ?_; intro LA hg w7 dA hb; have mA := zQ (dA); have JD := zQ ((by rw [hg]; exact (below_size (zB3 HB.out lA.out nA.out)) : w.heap.size ≤ LA)); have rA := zQ ((by rw [hg]; exact (below_size (zB3 HB.out lA.out nA.out)) : w.heap.size ≤ LA)); have cB := zn1 hg fA.out; have XA := zn2 hg fA.out; have ZA := zn1 hg hA.out; have WA := zn2 hg hA.out; replace fA := zbl fA.out hb; replace hA := zbl hA.out hb; replace HB := zQ (below_step (zB3 HB.out lA.out nA.out) hb); clear hb dA hg; have RD := dB.out; have QD := aB.out; have VC := cB.out; have UC := XA.out; obtain ⟨QC, PC, wC, vC⟩ := zy2 fA.out; have uD := ZA.out; have kD := WA.out; obtain ⟨MC, LC, sC, rC⟩ := zy2 hA.out) | ((with_reducible refine zgc 136 ?_); refine zgo (some 11) Try.func136 #[.int .i64 a0_0, .int .i64 a1_1] ?_; (with_reducible refine (impl_fraction.calls k a0_0 a1_1 eB tB _ A3.out).mono ?_); rintro e TC ⟨rfl, hb⟩; refine ⟨_, rfl, ?_⟩; replace fA := zbl fA.out hb; replace hA := zbl hA.out hb; replace mA := zbl mA.out hb; replace HB := zQ (below_step (by repeat (first | (with_reducible first | exact HB.out | apply below_alloc | apply pw_below_drewN | apply below_drew1 | refine below_set ?_ lA.out | refine below_set ?_ nA.out | refine below_set ?_ rA.out) | exact HB.out)) hb); (try clear hb)) | ((with_reducible refine zd 5 ?_); refine zbx (N := 5) (cs := #[.int .i64 0, .int .i64 0]) (t := 147) ?_; intro iB hg KD dA hb; have zA := zQ (dA); have ID := zQ ((by rw [hg]; exact (below_size (by repeat (first | (with_reducible first | exact HB.out | apply below_alloc | apply pw_below_drewN | apply below_drew1 | refine below_set ?_ lA.out | refine below_set ?_ nA.out | refine below_set ?_ rA.out) | exact HB.out))) : w.heap.size ≤ iB)); have GA := zQ ((by rw [hg]; exact (below_size (by repeat (first | (with_reducible first | exact HB.out | apply below_alloc | apply pw_below_drewN | apply below_drew1 | refine below_set ?_ lA.out | refine below_set ?_ nA.out | refine below_set ?_ rA.out) | exact HB.out))) : w.heap.size ≤ iB)); have xA := zn1 hg fA.out; have VA := zn2 hg fA.out; have wA := zn1 hg hA.out; have UA := zn2 hg hA.out; have vA := zn1 hg mA.out; have TA := zn2 hg mA.out; replace fA := zbl fA.out hb; replace hA := zbl hA.out hb; replace mA := zbl mA.out hb; replace HB := zQ (below_step (by repeat (first | (with_reducible first | exact HB.out | apply below_alloc | apply pw_below_drewN | apply below_drew1 | refine below_set ?_ lA.out | refine below_set ?_ nA.out | refine below_set ?_ rA.out) | exact HB.out)) hb); clear hb dA hg; have sD := VA.out; have iD := xA.out; have rD := UA.out; have hD := wA.out; have qD := TA.out; have gD := vA.out; obtain ⟨IC, HC, oC, nC⟩ := zy2 zA.out; obtain ⟨GC, FC, mC, lC⟩ := zy2 hA.out; obtain ⟨EC, DC, kC, jC⟩ := zy2 fA.out) | ((with_reducible refine zgc 136 ?_); refine zgo (some 16) Try.func136 #[.int .i64 a1_0, .int .i64 a0_1] ?_; (with_reducible refine (impl_fraction.calls k a1_0 a0_1 sB EB _ A4.out).mono ?_); rintro e XD ⟨rfl, hb⟩; refine ⟨_, rfl, ?_⟩; replace fA := zQ (blk_below (g := MB) (o := .cells #[.int .i64 a0_0, .int .i64 a0_1] 147 (0, 0)) (by refine zb ?_; refine blk_far ?_ xA.out _; refine zb ?_; refine blk_far ?_ xA.out _; refine zb ?_; exact fA.out) hb); replace hA := zQ (blk_below (g := LB) (o := .cells #[.int .i64 a1_0, .int .i64 a1_1] 147 (0, 0)) (by refine zb ?_; refine blk_far ?_ wA.out _; refine zb ?_; refine blk_far ?_ wA.out _; refine zb ?_; exact hA.out) hb); replace mA := zQ (blk_below (g := LA) (o := .cells #[.int .i64 0, .int .i64 0] 147 (0, 0)) (by refine zb ?_; refine blk_far ?_ vA.out _; refine zb ?_; refine blk_far ?_ vA.out _; refine zb ?_; exact mA.out) hb); replace zA := zQ (blk_below (g := iB) (o := .cells #[.int .i64 eB, .int .i64 tB] 147 (0, 0)) (by refine zb ?_; refine blk_put (cs := #[.int .i64 eB, .int .i64 0]) ?_ 1 _ rfl; refine zb ?_; refine blk_put (cs := #[.int .i64 0, .int .i64 0]) ?_ 0 _ rfl; refine zb ?_; exact zA.out) hb); replace HB := zQ (below_step (by repeat (first | (with_reducible first | exact HB.out | apply below_alloc | apply pw_below_drewN | apply below_drew1 | refine below_set ?_ lA.out | refine below_set ?_ nA.out | refine below_set ?_ rA.out | refine below_set ?_ GA.out) | exact HB.out)) hb); (try clear hb)) | ((with_reducible refine zd 6 ?_); refine zbx (N := 6) (cs := #[.int .i64 0, .int .i64 0]) (t := 147) ?_; intro nB hg WD dA hb; have UB := zQ (dA); have HD := zQ ((by rw [hg]; exact (below_size (by repeat (first | (with_reducible first | exact HB.out | apply below_alloc | apply pw_below_drewN | apply below_drew1 | refine below_set ?_ lA.out | refine below_set ?_ nA.out | refine below_set ?_ rA.out | refine below_set ?_ GA.out) | exact HB.out))) : w.heap.size ≤ nB)); have TB := zQ ((by rw [hg]; exact (below_size (by repeat (first | (with_reducible first | exact HB.out | apply below_alloc | apply pw_below_drewN | apply below_drew1 | refine below_set ?_ lA.out | refine below_set ?_ nA.out | refine below_set ?_ rA.out | refine below_set ?_ GA.out) | exact HB.out))) : w.heap.size ≤ nB)); have bB := zn1 hg fA.out; have RA := zn2 hg fA.out; have YA := zn1 hg hA.out; have QA := zn2 hg hA.out; have uA := zn1 hg mA.out; have PA := zn2 hg mA.out; have SA := zn1 hg zA.out; have OA := zn2 hg zA.out; replace fA := zbl fA.out hb; replace hA := zbl hA.out hb; replace mA := zbl mA.out hb; replace zA := zbl zA.out hb; replace HB := zQ (below_step (by repeat (first | (with_reducible first | exact HB.out | apply below_alloc | apply pw_below_drewN | apply below_drew1 | refine below_set ?_ lA.out | refine below_set ?_ nA.out | refine below_set ?_ rA.out | refine below_set ?_ GA.out) | exact HB.out)) hb); clear hb dA hg; have pD := RA.out; have fD := bB.out; have oD := QA.out; have eD := YA.out; have nD := PA.out; have dD := uA.out; have mD := OA.out; have cD := SA.out; obtain ⟨CC, BC, iC, hC⟩ := zy2 UB.out; obtain ⟨AC, zC, gC, fC⟩ := zy2 zA.out; obtain ⟨yC, xC, eC, dC⟩ := zy2 mA.out))
 refine bodyPost_ret (results_cell_row rfl _ _ LA 147 #[.int .i64 (wrap64 (eB * sB)), .int .i64 (wrap64 (tB * EB))] (0, 0) _ rfl (by refine zb ?_; refine blk_put (cs := #[.int .i64 (wrap64 (eB * sB)), .int .i64 0]) ?_ 1 _ rfl; refine zb ?_; refine blk_put (cs := #[.int .i64 0, .int .i64 0]) ?_ 0 _ rfl; refine zb ?_; refine blk_far ?_ uA.out _; refine zb ?_; refine blk_far ?_ uA.out _; refine zb ?_; exact mA.out) Try.underlying147 rfl (by kernel_rfl)) rfl ?_
 exact ⟨zE, by repeat (first | (with_reducible first | exact HB.out | apply below_alloc | apply pw_below_drewN | apply below_drew1 | refine below_set ?_ lA.out | refine below_set ?_ nA.out | refine below_set ?_ rA.out | refine below_set ?_ GA.out | refine below_set ?_ TB.out) | exact HB.out)⟩

def impl_addFractions.f (k : Nat) (a0_0 : Int) (a0_1 : Int) (a1_0 : Int) (a1_1 : Int) : Option (Int × Int) := (impl_gcd.f k a0_1 a1_1).bind fun pA => (if pA = 0 then (none) else ((impl_fraction.f k (wrap64 ((wrap64 (a0_0 * (wrap64 (Int.tdiv a1_1 pA)))) + (wrap64 (a1_0 * (wrap64 (Int.tdiv a0_1 pA)))))) (wrap64 ((wrap64 (Int.tdiv a0_1 pA)) * a1_1))).bind fun oB => (some (oB.1, oB.2))))
theorem impl_addFractions.mono : ∀ a0 a1 a2 a3 k, LeO (impl_addFractions.f k a0 a1 a2 a3) (impl_addFractions.f (k + 1) a0 a1 a2 a3) := by
 intro a0 a1 a2 a3 k
 unfold impl_addFractions.f
 have m0 := @impl_fraction.mono; have m1 := @impl_gcd.mono; exact zM0
def impl_addFractions.T2 : Bool × List (List Nat × List Nat) := (true, [([], []), ([0], [0]), ([], []), ([2], [2]), ([], []), ([3, 4], [3, 4]), ([1, 5], [1, 5]), ([], []), ([7], [7]), ([], []), ([9], [9]), ([], []), ([10, 11], [10, 11]), ([8, 12], [8, 12]), ([6, 13], [6, 13]), ([], []), ([15], [15]), ([], []), ([16, 17], [16, 17]), ([], []), ([19], [19]), ([18, 20], [18, 20]), ([14, 21], [14, 21]), ([22, 22, 0, 1, 2, 3, 4, 5, 6, 7, 8, 9, 10, 11, 12, 13, 14, 15, 16, 17, 18, 19, 20, 21, 22], [22])])
def impl_addFractions.B2 : List Nat := [0, 1, 0, 4, 0, 28, 63, 0, 128, 0, 512, 0, 3584, 8064, 16383, 0, 32768, 0, 229376, 0, 524288, 2064384, 4194303, 8388607]
theorem impl_addFractions.tab2 : rtab .any (opsOf Try.f138 2) = impl_addFractions.T2 := by kernel_rfl
theorem impl_addFractions.bits2 : waitsOk impl_addFractions.T2.2 impl_addFractions.B2 = true := by kernel_rfl
theorem impl_addFractions.calls (k : Nat) (a0_0 : Int) (a0_1 : Int) (a1_0 : Int) (a1_1 : Int) (r1 : Int) (r2 : Int) (w : World) (h : impl_addFractions.f k a0_0 a0_1 a1_0 a1_1 = some (r1, r2)) :
  Calls Try.prog 138 #[.agg #[.int .i64 a0_0, .int .i64 a0_1], .agg #[.int .i64 a1_0, .int .i64 a1_1]] w fun e w' => e = .returned (.agg #[.int .i64 r1, .int .i64 r2]) ∧ Below w.heap.size w w' := by
 have mB := Try.underlying147
 have HB := zQ (Below.refl w.heap.size w)
 have H := h; unfold impl_addFractions.f at H
 clear h
 replace H := zob H; obtain ⟨pA, A3, H⟩ := H
 by_cases c4 : pA = 0
 ·rw [if_pos c4] at H
  exact absurd H (by simp)
 ·rw [if_neg c4] at H
  have FA : (pA == 0) = false := beq_eq_false_iff_ne.mpr c4; have UD : (pA != 0) = true := bne_iff_ne.mpr c4; replace H := zob H; obtain ⟨⟨rB, DB⟩, A5, H⟩ := H
  simp only [Option.some.injEq, Prod.mk.injEq] at H
  obtain ⟨rfl, rfl⟩ := H
  go_enter Try.func138, Try.ntmps138
  try go_wp2_with (first | ((with_reducible refine zd 2 ?_); refine zbx (N := 2) (cs := #[.int .i64 a0_0, .int .i64 a0_1]) (t := 147) ?_; intro hB hg w6 dA hb; have cA := zQ (dA); have QB := zgz hg HB.out; have yA := QB; replace HB := zbs HB.out hb; clear hb dA hg) | ((with_reducible refine zd 3 ?_); refine zbx (N := 3) (cs := #[.int .i64 a1_0, .int .i64 a1_1]) (t := 147) ?_; intro gB hg w7 dA hb; have eA := zQ (dA); have PB := zgz2 hg HB.out yA.out; have DA := PB; have NA := zn1 hg cA.out; have MA := zn2 hg cA.out; replace cA := zbl cA.out hb; replace HB := zbs2 HB.out yA.out hb; clear hb dA hg) | ((with_reducible refine zd 4 ?_); refine zbx (N := 4) (cs := #[.int .i64 0, .int .i64 0]) (t := 147) ?_; intro kA hg w8 dA hb; have gA := zQ (dA); have GD := zQ ((by rw [hg]; exact (below_size (zB3 HB.out yA.out DA.out)) : w.heap.size ≤ kA)); have kB := zQ ((by rw [hg]; exact (below_size (zB3 HB.out yA.out DA.out)) : w.heap.size ≤ kA)); have jA := zn1 hg cA.out; have tA := zn2 hg cA.out; have iA := zn1 hg eA.out; have sA := zn2 hg eA.out; replace cA := zbl cA.out hb; replace eA := zbl eA.out hb; replace HB := zQ (below_step (zB3 HB.out yA.out DA.out) hb); clear hb dA hg; have VC := NA.out; have UC := MA.out; have vD := jA.out; have lD := tA.out; obtain ⟨OC, NC, uC, tC⟩ := zy2 cA.out; have tD := iA.out; have jD := sA.out; obtain ⟨KC, JC, qC, pC⟩ := zy2 eA.out) | ((with_reducible refine zgc 123 ?_); refine zgo (some 10) Try.func123 #[.int .i64 a0_1, .int .i64 a1_1] ?_; (with_reducible refine (impl_gcd.calls k a0_1 a1_1 pA _ A3.out).mono ?_); rintro e w' ⟨rfl, ⟨nd, rfl⟩⟩; refine ⟨_, rfl, ?_⟩; (try (rw [drewN_self w8]; generalize hq_ : World.drewN w8 _ = w8; have n0_ : Aside0 (w8.heap[hB]? = some (.cells #[.int .i64 a0_0, .int .i64 a0_1] 147 (0, 0))) := ⟨by rw [← hq_]; exact (zb cA.out)⟩; have n1_ : Aside0 (w8.heap[gB]? = some (.cells #[.int .i64 a1_0, .int .i64 a1_1] 147 (0, 0))) := ⟨by rw [← hq_]; exact (zb eA.out)⟩; have n2_ : Aside0 (w8.heap[kA]? = some (.cells #[.int .i64 0, .int .i64 0] 147 (0, 0))) := ⟨by rw [← hq_]; exact (zb gA.out)⟩; have n3_ : Aside0 (Below w.heap.size w w8) := ⟨by rw [← hq_]; exact (by repeat (first | (with_reducible first | exact HB.out | apply below_alloc | apply pw_below_drewN | apply below_drew1 | refine below_set ?_ yA.out | refine below_set ?_ DA.out | refine below_set ?_ kB.out) | exact HB.out))⟩; clear cA eA gA HB hq_; have cA := n0_; have eA := n1_; have gA := n2_; have HB := n3_; clear n0_ n1_ n2_ n3_)); (try (have hczrw8_gb269_0 := zc0 cA.out)); (try (have hfzrw8_gb269_0 := zfz cA.out 0)); (try (have hczrw8_gb269_1 := zc1 cA.out)); (try (have hfzrw8_gb269_1 := zfz cA.out 1)); (try (have hczrw8_gb270_0 := zc0 eA.out)); (try (have hfzrw8_gb270_0 := zfz eA.out 0)); (try (have hczrw8_gb270_1 := zc1 eA.out)); (try (have hfzrw8_gb270_1 := zfz eA.out 1)); (try (have hczrw8_gb271_0 := zc0 gA.out)); (try (have hfzrw8_gb271_0 := zfz gA.out 0)); (try (have hczrw8_gb271_1 := zc1 gA.out)); (try (have hfzrw8_gb271_1 := zfz gA.out 1))))
  have n0_ := zQ (blk_drew cA.out); have n1_ := zQ (blk_drew eA.out); have n2_ := zQ (blk_drew gA.out); have n3_ := zQ (below_drew1 HB.out); clear cA; clear eA; clear gA; clear HB; have cA := n0_; have eA := n1_; have gA := n2_; have HB := n3_; clear n0_ n1_ n2_ n3_
  refine zs (fun w' => w'.cell? ⟨hB, 0, none⟩ = some (.int .i64 a0_0) ∧ w'.cell? ⟨hB, 1, none⟩ = some (.int .i64 a0_1) ∧ w'.cell? ⟨gB, 0, none⟩ = some (.int .i64 a1_0) ∧ w'.cell? ⟨gB, 1, none⟩ = some (.int .i64 a1_1)) [] 24 ⟨(blk_cell cA.out 0).trans rfl, (blk_cell cA.out 1).trans rfl, (blk_cell eA.out 0).trans rfl, (blk_cell eA.out 1).trans rfl⟩ (fun aA => ?_); refine with_tabW impl_addFractions.tab2 impl_addFractions.bits2 (fun HT_ HW_ => ?_)
  generalize w8.drew = KD at cA eA gA HB aA ⊢
  refine zp 0 11 ?_
  refine zp 2 13 ?_
  refine zp 4 15 ?_
  refine zp 7 18 ?_
  refine zp 9 20 ?_
  refine zp 11 22 ?_
  refine zp 15 26 ?_
  refine zp 17 28 ?_
  refine zp 19 30 ?_
  refine zt 1 12 aA ?_
  refine zt 3 14 aA ?_
  refine zp 5 16 ?_
  refine zp 6 17 ?_
  refine zt 8 19 aA ?_
  refine zt 10 21 aA ?_
  refine zp 12 23 ?_
  refine zp 13 24 ?_
  refine zp 14 25 ?_
  refine zt 16 27 aA ?_
  refine zp 18 29 ?_
  refine zt 20 31 aA ?_
  refine zp 21 32 ?_
  refine zo 22 (some 33) (fun K hK => ?_)
  refine goes_ Try.func136 (by kernel_rfl) rfl #[.int .i64 (wrap64 ((wrap64 (a0_0 * (wrap64 (Int.tdiv a1_1 pA)))) + (wrap64 (a1_0 * (wrap64 (Int.tdiv a0_1 pA)))))), .int .i64 (wrap64 ((wrap64 (Int.tdiv a0_1 pA)) * a1_1))] (by rfl) rfl rfl zM ?_
  with_reducible refine (impl_fraction.calls k (wrap64 ((wrap64 (a0_0 * (wrap64 (Int.tdiv a1_1 pA)))) + (wrap64 (a1_0 * (wrap64 (Int.tdiv a0_1 pA)))))) (wrap64 ((wrap64 (Int.tdiv a0_1 pA)) * a1_1)) rB DB _ A5.out).mono ?_
  rintro e ZC ⟨rfl, hb⟩
  refine ⟨_, rfl, ?_⟩
  have n0_ := zbl cA.out hb; have n1_ := zbl eA.out hb; have n2_ := zbl gA.out hb; have n3_ := zQ (below_step (by repeat (first | (with_reducible first | exact HB.out | apply below_alloc | apply pw_below_drewN | apply below_drew1 | refine below_set ?_ yA.out | refine below_set ?_ DA.out | refine below_set ?_ kB.out) | exact HB.out)) hb); clear cA; clear eA; clear gA; clear HB; have cA := n0_; have eA := n1_; have gA := n2_; have HB := n3_; clear n0_ n1_ n2_ n3_
  (try clear hb)
  (try clear aE)
  (try clear hk)
  (try clear hi)
  refine hK.out _ _ ⟨(blk_cell cA.out 0).trans rfl, (blk_cell cA.out 1).trans rfl, (blk_cell eA.out 0).trans rfl, (blk_cell eA.out 1).trans rfl⟩ (fun aA => ?_)
  clear hK K
  refine zn 33 ?_
  refine zo 23 none (fun K hK => ?_)
  have ND : ZC.cell? ⟨kA, 0, none⟩ = some (.int .i64 0) := (blk_cell gA.out 0).trans rfl; have xD := zfz gA.out 0; have YB := jA.out; have XB := iA.out; have cC := tA.out; have bC := sA.out; have MD : ZC.cell? ⟨kA, 1, none⟩ = some (.int .i64 0) := (blk_cell gA.out 1).trans rfl; have wD := zfz gA.out 1; have WB := jA.out; have VB := iA.out; have aC := tA.out; have ZB := sA.out
  refine skip_ (w1 := ?_) (by rfl) rfl ?_ ?_
  rotate_left
  ·go_simp
   rfl
  refine hK.out _ _ ⟨((cell_far (p := ⟨kA, _, none⟩) jA.out _).trans (((cell_far (p := ⟨kA, _, none⟩) jA.out _).trans (aA.1)))), ((cell_far (p := ⟨kA, _, none⟩) jA.out _).trans (((cell_far (p := ⟨kA, _, none⟩) jA.out _).trans (aA.2.1)))), ((cell_far (p := ⟨kA, _, none⟩) iA.out _).trans (((cell_far (p := ⟨kA, _, none⟩) iA.out _).trans (aA.2.2.1)))), ((cell_far (p := ⟨kA, _, none⟩) iA.out _).trans (((cell_far (p := ⟨kA, _, none⟩) iA.out _).trans (aA.2.2.2))))⟩ (fun aA => ?_)
  clear hK K
  refine done_ (done_of HT_.out (by kernel_rfl)) ?_
  try go_wp2
  refine bodyPost_ret (results_cell_row rfl _ _ kA 147 #[.int .i64 rB, .int .i64 DB] (0, 0) _ rfl (by refine zb ?_; refine blk_put (cs := #[.int .i64 rB, .int .i64 0]) ?_ 1 _ rfl; refine zb ?_; refine blk_put (cs := #[.int .i64 0, .int .i64 0]) ?_ 0 _ rfl; refine zb ?_; exact gA.out) Try.underlying147 rfl (by kernel_rfl)) rfl ?_
  exact ⟨zE, by repeat (first | (with_reducible first | exact HB.out | apply below_alloc | apply pw_below_drewN | apply below_drew1 | refine below_set ?_ yA.out | refine below_set ?_ DA.out | refine below_set ?_ kB.out) | exact HB.out)⟩

end
end Go.Proofs.Ytimjblgepbhoaaa.PStays

