import Derived.Test.YthfpaldhdohnkaaHTune0
import Derived.Test.YthfpaldhdohnkaaHTuneb
import Derived.Test.YthfpaldhdohnkaaHTunec
namespace Go.Proofs.Ythfpaldhdohnkaa.PTune
noncomputable section
open Go.RowKit Go.Proofs.YthfpaldhdohnkaaW.PrintWords Go.Proofs.YthfpaldhdohnkaaW.PrintLast Go.Proofs.YthfpaldhdohnkaaW.PrintMore
attribute [local go_sem] max2_int min2_int max_two min_two max_three min_three max_four min_four   -- for this text's walks alone
set_option linter.unusedVariables false
set_option linter.unusedSimpArgs false
set_option maxHeartbeats 8000000
set_option maxRecDepth 100000

def slices_Min_int64_int64.l0 : Nat → List Int → Int → Int → Option (Int)
 | 0, _, _, _ => none
 | k + 1, x0, x3, x4 => if x4 < (x0.length : Int) then (if 0 ≤ x4 then (slices_Min_int64_int64.l0 k x0 (mn x3 (rd x0 x4)) (wrap64 (x4 + 1))) else (none)) else (some x3)
def slices_Min_int64_int64.f (k : Nat) (l0 : List Int) : Option (Int) := if (l0.length : Int) < 1 then (none) else (if 0 < (l0.length : Int) then (slices_Min_int64_int64.l0 k l0 (rd l0 0) 1) else (none))
theorem slices_Min_int64_int64.calls (k : Nat) (A0 : Option Addr) (c0 : Nat) (l0 : List Int) (r : Int) (w : World) (hr0 : Kd.C (Kd.int .i64) w A0 l0.length l0) (hc0 : l0.length ≤ c0) (h : slices_Min_int64_int64.f k l0 = some r) :
  Calls Try.prog 52 #[.slice A0 l0.length c0] w fun e w' => e = .returned (.int .i64 r) ∧ Below w.heap.size w w' := by
 have HR0 := zQ hr0
 have HC0 := zQ hc0
 clear hr0 hc0
 have HB := zQ (Below.refl w.heap.size w)
 have H := h; unfold slices_Min_int64_int64.f at H
 clear h
 by_cases c2 : (l0.length : Int) < 1
 ·rw [if_pos c2] at H
  exact absurd H (by simp)
 ·rw [if_neg c2] at H
  have c2b0 := decide_eq_false c2; have c2b1 : decide (l0.length < 1) = false := decide_eq_false (by omega); clear c2
  by_cases c3 : 0 < (l0.length : Int)
  ·rw [if_pos c3] at H
   have c3b0 := decide_eq_true c3; have c3b1 : decide (0 < l0.length) = true := decide_eq_true (by omega); clear c3; have H' := zQ H; clear H; have p209 : 0 ≤ (0 : Int) := (by omega); have q209 : 0 < (l0.length : Int) := zD; obtain ⟨ad209, e209, hx209_0⟩ := Kd.at_int HR0.out 0 p209 q209
   cases e209
   have qi209 : (0 < l0.length) = True := eq_true (by omega)
   (try rw [show ((0 : Int)).toNat = 0 from rfl] at hx209_0)
   (try rw [Addr.add_zero'] at hx209_0)
   replace p209 := eq_true p209; replace q209 := eq_true q209
   go_enter Try.func52, Try.ntmps52
   go_wp2
   go_loopg [3, 4] k (fun kq v3 v4 w' => ∃ (x3_1 : Int) (x4_1 : Int), v3 = .int .i64 x3_1 ∧ v4 = .int .i64 x4_1 ∧ Aside0 (slices_Min_int64_int64.l0 kq l0 x3_1 x4_1 = some r) ∧ Aside0 (kq ≤ k) ∧ Aside0 (Below w.heap.size w w'))
   case atStart => exact ⟨(rd l0 0), (1), (zF), (zF), H', ⟨Nat.le_refl _⟩, ⟨zB HB.out⟩⟩
   case round =>
    clear H'; (try clear c2); (try clear c2b0); (try clear c2b1); (try clear p2); (try clear q2); (try clear hx2); (try clear qi2); (try clear c3); (try clear c3b0); (try clear c3b1); (try clear hx209_0); (try clear p209); (try clear q209); obtain ⟨x3_1, x4_1, rfl, rfl, HA, HK1, HB⟩ := hrel
    cases gk with
    | zero => exact absurd HA.out (by simp [slices_Min_int64_int64.l0])
    | succ k1 =>
     have H := HA.out; clear HA
     simp only [slices_Min_int64_int64.l0] at H
     by_cases c4 : x4_1 < (l0.length : Int)
     ·rw [if_pos c4] at H
      have c4b0 := decide_eq_true c4; clear c4
      by_cases c5 : 0 ≤ x4_1
      ·rw [if_pos c5] at H
       have c5b0 := decide_eq_true c5; clear c5; obtain ⟨ji6, hji6⟩ : ∃ j_ : Int, (mn x3_1 (rd l0 x4_1)) = j_ := ⟨_, rfl⟩
       replace H : (slices_Min_int64_int64.l0 k1 l0 ji6 (wrap64 (x4_1 + 1))) = some r := by first | (rw [hji6] at H; exact H) | (simp only [hji6] at H ⊢; exact H)
       have hji6_ : (if (rd l0 x4_1) < x3_1 then (rd l0 x4_1) else x3_1) = ji6 := hji6; have H' := zQ H; clear H; have p210 : 0 ≤ (x4_1 : Int) := zD; have q210 : x4_1 < (l0.length : Int) := zD; obtain ⟨ad210, e210, hx210_0⟩ := Kd.at_int HR0.out x4_1 p210 q210; obtain rfl : ad209 = ad210 := (by injection e210); replace hx210_0 := zw HB.out hx210_0; replace p210 := eq_true p210; replace q210 := eq_true q210
       go_wp2
       go_roundg k1
       case measure => have := HK1.out; omega
       case rel => exact ⟨(ji6), (wrap64 (x4_1 + 1)), (by first | rfl | (simp; done) | (simp only [← hji6] <;> (first | rfl | simp)) | (simp [*]; done)), (zF), H', ⟨by have := HK1.out; omega⟩, ⟨zB HB.out⟩⟩
      ·rw [if_neg c5] at H
       exact absurd H (by simp)
     ·rw [if_neg c4] at H
      have c4b0 := decide_eq_false c4; clear c4; obtain rfl := Option.some.inj H
      go_wp2
      go_ret
      exact ⟨zE, zB HB.out⟩
  ·rw [if_neg c3] at H
   exact absurd H (by simp)

def slices_Max_int64_int64.l0 : Nat → List Int → Int → Int → Option (Int)
 | 0, _, _, _ => none
 | k + 1, x0, x3, x4 => if x4 < (x0.length : Int) then (if 0 ≤ x4 then (slices_Max_int64_int64.l0 k x0 (mx x3 (rd x0 x4)) (wrap64 (x4 + 1))) else (none)) else (some x3)
def slices_Max_int64_int64.f (k : Nat) (l0 : List Int) : Option (Int) := if (l0.length : Int) < 1 then (none) else (if 0 < (l0.length : Int) then (slices_Max_int64_int64.l0 k l0 (rd l0 0) 1) else (none))
theorem slices_Max_int64_int64.calls (k : Nat) (A0 : Option Addr) (c0 : Nat) (l0 : List Int) (r : Int) (w : World) (hr0 : Kd.C (Kd.int .i64) w A0 l0.length l0) (hc0 : l0.length ≤ c0) (h : slices_Max_int64_int64.f k l0 = some r) :
  Calls Try.prog 53 #[.slice A0 l0.length c0] w fun e w' => e = .returned (.int .i64 r) ∧ Below w.heap.size w w' := by
 have HR0 := zQ hr0
 have HC0 := zQ hc0
 clear hr0 hc0
 have HB := zQ (Below.refl w.heap.size w)
 have H := h; unfold slices_Max_int64_int64.f at H
 clear h
 by_cases c2 : (l0.length : Int) < 1
 ·rw [if_pos c2] at H
  exact absurd H (by simp)
 ·rw [if_neg c2] at H
  have c2b0 := decide_eq_false c2; have c2b1 : decide (l0.length < 1) = false := decide_eq_false (by omega); clear c2
  by_cases c3 : 0 < (l0.length : Int)
  ·rw [if_pos c3] at H
   have c3b0 := decide_eq_true c3; have c3b1 : decide (0 < l0.length) = true := decide_eq_true (by omega); clear c3; have H' := zQ H; clear H; have p211 : 0 ≤ (0 : Int) := (by omega); have q211 : 0 < (l0.length : Int) := zD; obtain ⟨ad211, e211, hx211_0⟩ := Kd.at_int HR0.out 0 p211 q211
   cases e211
   have qi211 : (0 < l0.length) = True := eq_true (by omega)
   (try rw [show ((0 : Int)).toNat = 0 from rfl] at hx211_0)
   (try rw [Addr.add_zero'] at hx211_0)
   replace p211 := eq_true p211; replace q211 := eq_true q211
   go_enter Try.func53, Try.ntmps53
   go_wp2
   go_loopg [3, 4] k (fun kq v3 v4 w' => ∃ (x3_1 : Int) (x4_1 : Int), v3 = .int .i64 x3_1 ∧ v4 = .int .i64 x4_1 ∧ Aside0 (slices_Max_int64_int64.l0 kq l0 x3_1 x4_1 = some r) ∧ Aside0 (kq ≤ k) ∧ Aside0 (Below w.heap.size w w'))
   case atStart => exact ⟨(rd l0 0), (1), (zF), (zF), H', ⟨Nat.le_refl _⟩, ⟨zB HB.out⟩⟩
   case round =>
    clear H'; (try clear c2); (try clear c2b0); (try clear c2b1); (try clear p2); (try clear q2); (try clear hx2); (try clear qi2); (try clear c3); (try clear c3b0); (try clear c3b1); (try clear hx211_0); (try clear p211); (try clear q211); obtain ⟨x3_1, x4_1, rfl, rfl, HA, HK1, HB⟩ := hrel
    cases gk with
    | zero => exact absurd HA.out (by simp [slices_Max_int64_int64.l0])
    | succ k1 =>
     have H := HA.out; clear HA
     simp only [slices_Max_int64_int64.l0] at H
     by_cases c4 : x4_1 < (l0.length : Int)
     ·rw [if_pos c4] at H
      have c4b0 := decide_eq_true c4; clear c4
      by_cases c5 : 0 ≤ x4_1
      ·rw [if_pos c5] at H
       have c5b0 := decide_eq_true c5; clear c5; obtain ⟨ji6, hji6⟩ : ∃ j_ : Int, (mx x3_1 (rd l0 x4_1)) = j_ := ⟨_, rfl⟩
       replace H : (slices_Max_int64_int64.l0 k1 l0 ji6 (wrap64 (x4_1 + 1))) = some r := by first | (rw [hji6] at H; exact H) | (simp only [hji6] at H ⊢; exact H)
       have hji6_ : (if x3_1 < (rd l0 x4_1) then (rd l0 x4_1) else x3_1) = ji6 := hji6; have H' := zQ H; clear H; have p212 : 0 ≤ (x4_1 : Int) := zD; have q212 : x4_1 < (l0.length : Int) := zD; obtain ⟨ad212, e212, hx212_0⟩ := Kd.at_int HR0.out x4_1 p212 q212; obtain rfl : ad211 = ad212 := (by injection e212); replace hx212_0 := zw HB.out hx212_0; replace p212 := eq_true p212; replace q212 := eq_true q212
       go_wp2
       go_roundg k1
       case measure => have := HK1.out; omega
       case rel => exact ⟨(ji6), (wrap64 (x4_1 + 1)), (by first | rfl | (simp; done) | (simp only [← hji6] <;> (first | rfl | simp)) | (simp [*]; done)), (zF), H', ⟨by have := HK1.out; omega⟩, ⟨zB HB.out⟩⟩
      ·rw [if_neg c5] at H
       exact absurd H (by simp)
     ·rw [if_neg c4] at H
      have c4b0 := decide_eq_false c4; clear c4; obtain rfl := Option.some.inj H
      go_wp2
      go_ret
      exact ⟨zE, zB HB.out⟩
  ·rw [if_neg c3] at H
   exact absurd H (by simp)

def impl_Retuned.l0 : Nat → List (List Int) → Int → Int → List Int → List (List Int) → Option (List Int × (List (List Int)) × Int)
 | 0, _, _, _, _, _ => none
 | k + 1, x32, x33, x34, x220000, x220001 => if x34 < x33 then (if 0 ≤ x34 then (if x34 < (x32.length : Int) then ((some (([] : List Int) : List Int)).bind fun y223 => (if y223.length + (rd_L2 x32 x34).length < 17592186044416 then (if x220001.length < 5864062014805 then (impl_Retuned.l0 k x32 x33 (wrap64 (x34 + 1)) x220000 (x220001 ++ [(y223 ++ (rd_L2 x32 x34))])) else (none)) else (none))) else (none)) else (none)) else (some (x220000, x220001, 0))
def impl_Retuned.f (k : Nat) (l0_0 : List Int) (l0_1 : List (List Int)) (l1 : List Int) : Option (List Int × (List (List Int)) × Int) := (impl_turnsCode.f k l0_0 l0_1 l1).bind fun t215 => (if t215 = 0 then ((impl_tensionsAfter.f k l0_0 l0_1 l1).bind fun t216 => ((slices_Min_int64_int64.f k t216).bind fun t220 => (if t220 < 0 then (some (([] : List Int), ([] : List (List Int)), 10)) else ((slices_Max_int64_int64.f k t216).bind fun t221 => (if t221 > 1000000 then (some (([] : List Int), ([] : List (List Int)), 5)) else (impl_Retuned.l0 k l0_1 (l0_1.length : Int) 0 t216 ([] : List (List Int)))))))) else (some (([] : List Int), ([] : List (List Int)), t215)))
def impl_Retuned.T12 : Bool × List (List Nat × List Nat) := (true, [([], []), ([0], [0]), ([], []), ([], []), ([2, 3], [2, 3]), ([4], [4]), ([1, 5, 4], [1, 5]), ([0, 1, 2, 3, 4, 5, 6], []), ([7, 6, 6, 0, 1, 2, 3, 4, 5, 6], [6, 7])])
def impl_Retuned.B12 : List Nat := [0, 1, 0, 0, 12, 28, 63, 127, 255]
theorem impl_Retuned.tab12 : rtab .any (opsOf Try.f20 12) = impl_Retuned.T12 := by kernel_rfl
theorem impl_Retuned.bits12 : waitsOk impl_Retuned.T12.2 impl_Retuned.B12 = true := by kernel_rfl
theorem impl_Retuned.calls (k : Nat) (A0_0 : Option Addr) (c0_0 : Nat) (l0_0 : List Int) (A0_1 : Option Addr) (c0_1 : Nat) (l0_1 : List (List Int)) (A1 : Option Addr) (c1 : Nat) (l1 : List Int) (r1 : List Int) (r2 : List (List Int)) (r3 : Int) (w : World) (hr0_0 : Kd.C (Kd.int .i64) w A0_0 l0_0.length l0_0) (hc0_0 : l0_0.length ≤ c0_0) (hr0_1 : Kd.C (Kd.slice 2 (Kd.int .i64)) w A0_1 l0_1.length l0_1) (hc0_1 : l0_1.length ≤ c0_1) (hr1 : Kd.C (Kd.int .i64) w A1 l1.length l1) (hc1 : l1.length ≤ c1) (h : impl_Retuned.f k l0_0 l0_1 l1 = some (r1, r2, r3)) :
  Calls Try.prog 20 #[.agg #[.slice A0_0 l0_0.length c0_0, .slice A0_1 l0_1.length c0_1], .slice A1 l1.length c1] w fun e w' => ∃ v0_ v1_ : Value, e = .returned (.tuple #[.agg #[v0_, v1_], .int .i64 r3]) ∧ Kd.R (Kd.int .i64) 2 w' w.heap.size (fun _ => True) v0_ r1 ∧ Kd.S (Kd.slice 2 (Kd.int .i64)) 24 w' w.heap.size (fun k_ => some k_ ≠ (v0_ : Value).ownBlock) v1_ r2 ∧ Below w.heap.size w w' := by
 have hu27 := Try.underlying27
 have HR0_0 := zQ hr0_0
 have HC0_0 := zQ hc0_0
 clear hr0_0 hc0_0
 have HR0_1 := zQ hr0_1
 have HC0_1 := zQ hc0_1
 clear hr0_1 hc0_1
 have HR1 := zQ hr1
 have HC1 := zQ hc1
 clear hr1 hc1
 have HB := zQ (Below.refl w.heap.size w)
 have H := h; unfold impl_Retuned.f at H
 clear h
 replace H := zob H; obtain ⟨t215, A3, H⟩ := H
 by_cases c4 : t215 = 0
 ·rw [if_pos c4] at H
  have c4b0 : (t215 == 0) = true := beq_iff_eq.mpr c4; have c4b1 : (t215 != 0) = false := bne_eq_false_iff_eq.mpr c4; clear c4; replace H := zob H; obtain ⟨t216, A5, H⟩ := H; replace H := zob H; obtain ⟨t220, A6, H⟩ := H
  by_cases c7 : t220 < 0
  ·rw [if_pos c7] at H
   have c7b0 := decide_eq_true c7; clear c7
   simp only [Option.some.injEq, Prod.mk.injEq] at H
   obtain ⟨rfl, rfl, rfl⟩ := H
   go_enter Try.func20, Try.ntmps20
   go_wp2_with (first | ((with_reducible refine zd 2 ?_); refine zbx (N := 2) (cs := #[.slice A0_0 l0_0.length c0_0, .slice A0_1 l0_1.length c0_1]) (t := 27) ?_; intro gb213 hg w8 hbox hb; have BK213 := zQ (hbox); have GW213 := zgz hg HB.out; have GE213 := GW213; replace HB := zbs HB.out hb; clear hb hbox hg) | ((with_reducible refine zd 4 ?_); refine zbx (N := 4) (cs := #[.slice none 0 0, .slice none 0 0]) (t := 27) ?_; intro gb214 hg w9 hbox hb; have BK214 := zQ (hbox); have GW214 := zgz2 hg HB.out GE213.out; have GE214 := GW214; have NB213_214 := zn1 hg BK213.out; have NB214_213 := zn2 hg BK213.out; replace BK213 := zbl BK213.out hb; replace HB := zbs2 HB.out GE213.out hb; clear hb hbox hg; have hnb10 := NB213_214.out; have hnc10 := NB214_213.out; obtain ⟨hcz11_0, hcz11_1, hfz11_0, hfz11_1⟩ := zy2 BK213.out) | ((with_reducible refine zgc 49 ?_); refine zgo (some 12) Try.func49 #[.agg #[.slice A0_0 l0_0.length c0_0, .slice A0_1 l0_1.length c0_1], .slice A1 l1.length c1] ?_; (with_reducible refine (impl_turnsCode.calls k _ _ l0_0 _ _ l0_1 _ _ l1 t215 _ (zC HR0_0.out HB.out) HC0_0.out (zC HR0_1.out HB.out) HC0_1.out (zC HR1.out HB.out) HC1.out A3.out).mono ?_); rintro e w12 ⟨rfl, hb⟩; refine ⟨_, rfl, ?_⟩; replace BK213 := zbl BK213.out hb; replace BK214 := zbl BK214.out hb; replace HB := zQ (below_step (zB3 HB.out GE213.out GE214.out) hb); (try clear hb); obtain ⟨hcz13_0, hcz13_1, hfz13_0, hfz13_1⟩ := zy2 BK213.out) | ((with_reducible refine zgc 50 ?_); refine zgo (some 19) Try.func50 #[.agg #[.slice A0_0 l0_0.length c0_0, .slice A0_1 l0_1.length c0_1], .slice A1 l1.length c1] ?_; (with_reducible refine (impl_tensionsAfter.calls k _ _ l0_0 _ _ l0_1 _ _ l1 t216 _ (zC HR0_0.out HB.out) HC0_0.out (zC HR0_1.out HB.out) HC0_1.out (zC HR1.out HB.out) HC1.out A5.out).mono ?_); rintro e w14 ⟨v217, rfl, ho0, hb⟩; refine ⟨_, rfl, ?_⟩; have HO218 := zQ (Kd.R_lower ho0 (below_size (zB3 HB.out GE213.out GE214.out))); replace BK213 := zbl BK213.out hb; replace BK214 := zbl BK214.out hb; replace HB := zQ (below_step (zB3 HB.out GE213.out GE214.out) hb); (try clear hb); (try clear ho0); obtain ⟨Ao15, co15, eo15⟩ := Kd.R_slice HO218.out; subst eo15) | ((with_reducible refine zd 7 ?_); refine zbx (N := 7) (cs := #[.slice none 0 0, .slice none 0 0]) (t := 27) ?_; intro gb219 hg w16 hbox hb; have BK219 := zQ (hbox); have GW219 := zQ ((by rw [hg]; exact (below_size (zB3 HB.out GE213.out GE214.out)) : w.heap.size ≤ gb219)); have GE219 := zQ ((by rw [hg]; exact (below_size (zB3 HB.out GE213.out GE214.out)) : w.heap.size ≤ gb219)); have NB213_219 := zn1 hg BK213.out; have NB219_213 := zn2 hg BK213.out; have NB214_219 := zn1 hg BK214.out; have NB219_214 := zn2 hg BK214.out; replace HO218 := zRb HO218.out hb; replace BK213 := zbl BK213.out hb; replace BK214 := zbl BK214.out hb; replace HB := zQ (below_step (zB3 HB.out GE213.out GE214.out) hb); clear hb hbox hg; have hnb17 := NB219_213.out; have hnc17 := NB213_219.out; have hnb18 := NB219_214.out; have hnc18 := NB214_219.out; obtain ⟨hcz19_0, hcz19_1, hfz19_0, hfz19_1⟩ := zy2 BK219.out) | ((with_reducible refine zgc 52 ?_); refine zgo (some 23) Try.func52 #[.slice Ao15 t216.length co15] ?_; (with_reducible refine (slices_Min_int64_int64.calls k _ _ t216 t220 _ ?side1 ((Kd.R_reads' HO218.out).2.1) A6.out).mono ?_); (case side1 => refine (Kd.R_reads' (e := 2) (base := w.heap.size) (ok := fun k_ => True) (n := t216.length) (c := co15) ?_).2.2; exact (by (with_reducible repeat (first | apply Kd.R_alloc | apply Kd.R_drewN | apply Kd.R_drew)); exact (Kd.R_mono (Kd.R_far (p := ⟨gb219, 1, none⟩) (Kd.R_far (p := ⟨gb219, 0, none⟩) (Kd.R_types HO218.out BK219.out (by decide)) (fun _ hk => hk.2) (.slice Ao15 t216.length co15)) (fun _ hk => hk.2) (.slice none 0 0)) (fun _ h_ => h_.1)))); rintro e w20 ⟨rfl, hb⟩; refine ⟨_, rfl, ?_⟩; replace HO218 := zQ (Kd.R_below (by (with_reducible repeat (first | apply Kd.R_alloc | apply Kd.R_drewN | apply Kd.R_drew)); exact (Kd.R_mono (Kd.R_far (p := ⟨gb219, 1, none⟩) (Kd.R_far (p := ⟨gb219, 0, none⟩) (Kd.R_types HO218.out BK219.out (by decide)) (fun _ hk => hk.2) (.slice Ao15 t216.length co15)) (fun _ hk => hk.2) (.slice none 0 0)) (fun _ h_ => h_.1))) hb); replace BK213 := zQ (blk_below (g := gb213) (o := .cells #[.slice A0_0 l0_0.length c0_0, .slice A0_1 l0_1.length c0_1] 27 (0, 0)) (by refine zb ?_; refine blk_far ?_ NB213_219.out _; refine zb ?_; refine blk_far ?_ NB213_219.out _; refine zb ?_; exact BK213.out) hb); replace BK214 := zQ (blk_below (g := gb214) (o := .cells #[.slice none 0 0, .slice none 0 0] 27 (0, 0)) (by refine zb ?_; refine blk_far ?_ NB214_219.out _; refine zb ?_; refine blk_far ?_ NB214_219.out _; refine zb ?_; exact BK214.out) hb); replace BK219 := zQ (blk_below (g := gb219) (o := .cells #[.slice Ao15 t216.length co15, .slice none 0 0] 27 (0, 0)) (by refine zb ?_; refine blk_put (cs := #[.slice Ao15 t216.length co15, .slice none 0 0]) ?_ 1 _ rfl; refine zb ?_; refine blk_put (cs := #[.slice none 0 0, .slice none 0 0]) ?_ 0 _ rfl; refine zb ?_; exact BK219.out) hb); replace HB := zQ (below_step (by repeat (first | (with_reducible first | exact HB.out | apply below_alloc | apply pw_below_drewN | apply below_drew1 | refine below_set ?_ GE213.out | refine below_set ?_ GE214.out | refine below_set ?_ GE219.out) | exact HB.out)) hb); (try clear hb); obtain ⟨hcz21_0, hcz21_1, hfz21_0, hfz21_1⟩ := zy2 BK214.out))
   refine bodyPost_ret (results_ct rfl _ _ gb214 27 #[.slice none 0 0, .slice none 0 0] (0, 0) _ rfl (by refine zb ?_; refine blk_put (cs := #[.slice none 0 0, .slice none 0 0]) ?_ 1 _ rfl; refine zb ?_; refine blk_put (cs := #[.slice none 0 0, .slice none 0 0]) ?_ 0 _ rfl; refine zb ?_; exact BK214.out) Try.underlying27 rfl (by kernel_rfl)) rfl ?_
   exact ⟨_, _, zE, by first | exact Kd.R_nil _ _ _ _ _ | exact Kd.N_nil _ _ _ _ _ | exact Kd.V_nil _ _ _ _ _ | exact Kd.Q_nil _ _ _ _ _ | exact Kd.S_nil _ _ _ _ _, by first | exact Kd.S_nil _ _ _ _ _ | exact Kd.N_nil _ _ _ _ _ | exact Kd.V_nil _ _ _ _ _ | exact Kd.Q_nil _ _ _ _ _ | exact Kd.R_nil _ _ _ _ _, by repeat (first | (with_reducible first | exact HB.out | apply below_alloc | apply pw_below_drewN | apply below_drew1 | refine below_set ?_ GE213.out | refine below_set ?_ GE214.out | refine below_set ?_ GE219.out) | exact HB.out)⟩
  ·rw [if_neg c7] at H
   have c7b0 := decide_eq_false c7; clear c7; replace H := zob H; obtain ⟨t221, A22, H⟩ := H
   by_cases c23 : t221 > 1000000
   ·rw [if_pos c23] at H
    have c23b0 := decide_eq_true c23; clear c23
    simp only [Option.some.injEq, Prod.mk.injEq] at H
    obtain ⟨rfl, rfl, rfl⟩ := H
    go_enter Try.func20, Try.ntmps20
    go_wp2_with (first | ((with_reducible refine zd 2 ?_); refine zbx (N := 2) (cs := #[.slice A0_0 l0_0.length c0_0, .slice A0_1 l0_1.length c0_1]) (t := 27) ?_; intro gb213 hg w24 hbox hb; have BK213 := zQ (hbox); have GW213 := zgz hg HB.out; have GE213 := GW213; replace HB := zbs HB.out hb; clear hb hbox hg) | ((with_reducible refine zd 4 ?_); refine zbx (N := 4) (cs := #[.slice none 0 0, .slice none 0 0]) (t := 27) ?_; intro gb214 hg w25 hbox hb; have BK214 := zQ (hbox); have GW214 := zgz2 hg HB.out GE213.out; have GE214 := GW214; have NB213_214 := zn1 hg BK213.out; have NB214_213 := zn2 hg BK213.out; replace BK213 := zbl BK213.out hb; replace HB := zbs2 HB.out GE213.out hb; clear hb hbox hg; have hnb26 := NB213_214.out; have hnc26 := NB214_213.out; obtain ⟨hcz27_0, hcz27_1, hfz27_0, hfz27_1⟩ := zy2 BK213.out) | ((with_reducible refine zgc 49 ?_); refine zgo (some 12) Try.func49 #[.agg #[.slice A0_0 l0_0.length c0_0, .slice A0_1 l0_1.length c0_1], .slice A1 l1.length c1] ?_; (with_reducible refine (impl_turnsCode.calls k _ _ l0_0 _ _ l0_1 _ _ l1 t215 _ (zC HR0_0.out HB.out) HC0_0.out (zC HR0_1.out HB.out) HC0_1.out (zC HR1.out HB.out) HC1.out A3.out).mono ?_); rintro e w28 ⟨rfl, hb⟩; refine ⟨_, rfl, ?_⟩; replace BK213 := zbl BK213.out hb; replace BK214 := zbl BK214.out hb; replace HB := zQ (below_step (zB3 HB.out GE213.out GE214.out) hb); (try clear hb); obtain ⟨hcz29_0, hcz29_1, hfz29_0, hfz29_1⟩ := zy2 BK213.out) | ((with_reducible refine zgc 50 ?_); refine zgo (some 19) Try.func50 #[.agg #[.slice A0_0 l0_0.length c0_0, .slice A0_1 l0_1.length c0_1], .slice A1 l1.length c1] ?_; (with_reducible refine (impl_tensionsAfter.calls k _ _ l0_0 _ _ l0_1 _ _ l1 t216 _ (zC HR0_0.out HB.out) HC0_0.out (zC HR0_1.out HB.out) HC0_1.out (zC HR1.out HB.out) HC1.out A5.out).mono ?_); rintro e w30 ⟨v217, rfl, ho0, hb⟩; refine ⟨_, rfl, ?_⟩; have HO218 := zQ (Kd.R_lower ho0 (below_size (zB3 HB.out GE213.out GE214.out))); replace BK213 := zbl BK213.out hb; replace BK214 := zbl BK214.out hb; replace HB := zQ (below_step (zB3 HB.out GE213.out GE214.out) hb); (try clear hb); (try clear ho0); obtain ⟨Ao31, co31, eo31⟩ := Kd.R_slice HO218.out; subst eo31) | ((with_reducible refine zd 7 ?_); refine zbx (N := 7) (cs := #[.slice none 0 0, .slice none 0 0]) (t := 27) ?_; intro gb219 hg w32 hbox hb; have BK219 := zQ (hbox); have GW219 := zQ ((by rw [hg]; exact (below_size (zB3 HB.out GE213.out GE214.out)) : w.heap.size ≤ gb219)); have GE219 := zQ ((by rw [hg]; exact (below_size (zB3 HB.out GE213.out GE214.out)) : w.heap.size ≤ gb219)); have NB213_219 := zn1 hg BK213.out; have NB219_213 := zn2 hg BK213.out; have NB214_219 := zn1 hg BK214.out; have NB219_214 := zn2 hg BK214.out; replace HO218 := zRb HO218.out hb; replace BK213 := zbl BK213.out hb; replace BK214 := zbl BK214.out hb; replace HB := zQ (below_step (zB3 HB.out GE213.out GE214.out) hb); clear hb hbox hg; have hnb33 := NB219_213.out; have hnc33 := NB213_219.out; have hnb34 := NB219_214.out; have hnc34 := NB214_219.out; obtain ⟨hcz35_0, hcz35_1, hfz35_0, hfz35_1⟩ := zy2 BK219.out) | ((with_reducible refine zgc 52 ?_); refine zgo (some 23) Try.func52 #[.slice Ao31 t216.length co31] ?_; (with_reducible refine (slices_Min_int64_int64.calls k _ _ t216 t220 _ ?side1 ((Kd.R_reads' HO218.out).2.1) A6.out).mono ?_); (case side1 => refine (Kd.R_reads' (e := 2) (base := w.heap.size) (ok := fun k_ => True) (n := t216.length) (c := co31) ?_).2.2; exact (by (with_reducible repeat (first | apply Kd.R_alloc | apply Kd.R_drewN | apply Kd.R_drew)); exact (Kd.R_mono (Kd.R_far (p := ⟨gb219, 1, none⟩) (Kd.R_far (p := ⟨gb219, 0, none⟩) (Kd.R_types HO218.out BK219.out (by decide)) (fun _ hk => hk.2) (.slice Ao31 t216.length co31)) (fun _ hk => hk.2) (.slice none 0 0)) (fun _ h_ => h_.1)))); rintro e w36 ⟨rfl, hb⟩; refine ⟨_, rfl, ?_⟩; replace HO218 := zQ (Kd.R_below (by (with_reducible repeat (first | apply Kd.R_alloc | apply Kd.R_drewN | apply Kd.R_drew)); exact (Kd.R_mono (Kd.R_far (p := ⟨gb219, 1, none⟩) (Kd.R_far (p := ⟨gb219, 0, none⟩) (Kd.R_types HO218.out BK219.out (by decide)) (fun _ hk => hk.2) (.slice Ao31 t216.length co31)) (fun _ hk => hk.2) (.slice none 0 0)) (fun _ h_ => h_.1))) hb); replace BK213 := zQ (blk_below (g := gb213) (o := .cells #[.slice A0_0 l0_0.length c0_0, .slice A0_1 l0_1.length c0_1] 27 (0, 0)) (by refine zb ?_; refine blk_far ?_ NB213_219.out _; refine zb ?_; refine blk_far ?_ NB213_219.out _; refine zb ?_; exact BK213.out) hb); replace BK214 := zQ (blk_below (g := gb214) (o := .cells #[.slice none 0 0, .slice none 0 0] 27 (0, 0)) (by refine zb ?_; refine blk_far ?_ NB214_219.out _; refine zb ?_; refine blk_far ?_ NB214_219.out _; refine zb ?_; exact BK214.out) hb); replace BK219 := zQ (blk_below (g := gb219) (o := .cells #[.slice Ao31 t216.length co31, .slice none 0 0] 27 (0, 0)) (by refine zb ?_; refine blk_put (cs := #[.slice Ao31 t216.length co31, .slice none 0 0]) ?_ 1 _ rfl; refine zb ?_; refine blk_put (cs := #[.slice none 0 0, .slice none 0 0]) ?_ 0 _ rfl; refine zb ?_; exact BK219.out) hb); replace HB := zQ (below_step (by repeat (first | (with_reducible first | exact HB.out | apply below_alloc | apply pw_below_drewN | apply below_drew1 | refine below_set ?_ GE213.out | refine below_set ?_ GE214.out | refine below_set ?_ GE219.out) | exact HB.out)) hb); (try clear hb); obtain ⟨hcz37_0, hcz37_1, hfz37_0, hfz37_1⟩ := zy2 BK219.out) | ((with_reducible refine zgc 53 ?_); refine zgo (some 28) Try.func53 #[.slice Ao31 t216.length co31] ?_; (with_reducible refine (slices_Max_int64_int64.calls k _ _ t216 t221 _ ?side1 ((Kd.R_reads' HO218.out).2.1) A22.out).mono ?_); (case side1 => exact zk (Kd.R_reads' HO218.out).2.2); rintro e w38 ⟨rfl, hb⟩; refine ⟨_, rfl, ?_⟩; replace HO218 := zRb HO218.out hb; replace BK213 := zbl BK213.out hb; replace BK214 := zbl BK214.out hb; replace BK219 := zbl BK219.out hb; replace HB := zQ (below_step (by repeat (first | (with_reducible first | exact HB.out | apply below_alloc | apply pw_below_drewN | apply below_drew1 | refine below_set ?_ GE213.out | refine below_set ?_ GE214.out | refine below_set ?_ GE219.out) | exact HB.out)) hb); (try clear hb); obtain ⟨hcz39_0, hcz39_1, hfz39_0, hfz39_1⟩ := zy2 BK214.out))
    refine bodyPost_ret (results_ct rfl _ _ gb214 27 #[.slice none 0 0, .slice none 0 0] (0, 0) _ rfl (by refine zb ?_; refine blk_put (cs := #[.slice none 0 0, .slice none 0 0]) ?_ 1 _ rfl; refine zb ?_; refine blk_put (cs := #[.slice none 0 0, .slice none 0 0]) ?_ 0 _ rfl; refine zb ?_; exact BK214.out) Try.underlying27 rfl (by kernel_rfl)) rfl ?_
    exact ⟨_, _, zE, by first | exact Kd.R_nil _ _ _ _ _ | exact Kd.N_nil _ _ _ _ _ | exact Kd.V_nil _ _ _ _ _ | exact Kd.Q_nil _ _ _ _ _ | exact Kd.S_nil _ _ _ _ _, by first | exact Kd.S_nil _ _ _ _ _ | exact Kd.N_nil _ _ _ _ _ | exact Kd.V_nil _ _ _ _ _ | exact Kd.Q_nil _ _ _ _ _ | exact Kd.R_nil _ _ _ _ _, by repeat (first | (with_reducible first | exact HB.out | apply below_alloc | apply pw_below_drewN | apply below_drew1 | refine below_set ?_ GE213.out | refine below_set ?_ GE214.out | refine below_set ?_ GE219.out) | exact HB.out)⟩
   ·rw [if_neg c23] at H
    have c23b0 := decide_eq_false c23; clear c23; have H' := zQ H; clear H
    go_enter Try.func20, Try.ntmps20
    go_wp2_with (first | ((with_reducible refine zd 2 ?_); refine zbx (N := 2) (cs := #[.slice A0_0 l0_0.length c0_0, .slice A0_1 l0_1.length c0_1]) (t := 27) ?_; intro gb213 hg w40 hbox hb; have BK213 := zQ (hbox); have GW213 := zgz hg HB.out; have GE213 := GW213; replace HB := zbs HB.out hb; clear hb hbox hg) | ((with_reducible refine zd 4 ?_); refine zbx (N := 4) (cs := #[.slice none 0 0, .slice none 0 0]) (t := 27) ?_; intro gb214 hg w41 hbox hb; have BK214 := zQ (hbox); have GW214 := zgz2 hg HB.out GE213.out; have GE214 := GW214; have NB213_214 := zn1 hg BK213.out; have NB214_213 := zn2 hg BK213.out; replace BK213 := zbl BK213.out hb; replace HB := zbs2 HB.out GE213.out hb; clear hb hbox hg; have hnb42 := NB213_214.out; have hnc42 := NB214_213.out; obtain ⟨hcz43_0, hcz43_1, hfz43_0, hfz43_1⟩ := zy2 BK213.out) | ((with_reducible refine zgc 49 ?_); refine zgo (some 12) Try.func49 #[.agg #[.slice A0_0 l0_0.length c0_0, .slice A0_1 l0_1.length c0_1], .slice A1 l1.length c1] ?_; (with_reducible refine (impl_turnsCode.calls k _ _ l0_0 _ _ l0_1 _ _ l1 t215 _ (zC HR0_0.out HB.out) HC0_0.out (zC HR0_1.out HB.out) HC0_1.out (zC HR1.out HB.out) HC1.out A3.out).mono ?_); rintro e w44 ⟨rfl, hb⟩; refine ⟨_, rfl, ?_⟩; replace BK213 := zbl BK213.out hb; replace BK214 := zbl BK214.out hb; replace HB := zQ (below_step (zB3 HB.out GE213.out GE214.out) hb); (try clear hb); obtain ⟨hcz45_0, hcz45_1, hfz45_0, hfz45_1⟩ := zy2 BK213.out) | ((with_reducible refine zgc 50 ?_); refine zgo (some 19) Try.func50 #[.agg #[.slice A0_0 l0_0.length c0_0, .slice A0_1 l0_1.length c0_1], .slice A1 l1.length c1] ?_; (with_reducible refine (impl_tensionsAfter.calls k _ _ l0_0 _ _ l0_1 _ _ l1 t216 _ (zC HR0_0.out HB.out) HC0_0.out (zC HR0_1.out HB.out) HC0_1.out (zC HR1.out HB.out) HC1.out A5.out).mono ?_); rintro e w46 ⟨v217, rfl, ho0, hb⟩; refine ⟨_, rfl, ?_⟩; have HO218 := zQ (Kd.R_lower ho0 (below_size (zB3 HB.out GE213.out GE214.out))); replace BK213 := zbl BK213.out hb; replace BK214 := zbl BK214.out hb; replace HB := zQ (below_step (zB3 HB.out GE213.out GE214.out) hb); (try clear hb); (try clear ho0); obtain ⟨Ao47, co47, eo47⟩ := Kd.R_slice HO218.out; subst eo47) | ((with_reducible refine zd 7 ?_); refine zbx (N := 7) (cs := #[.slice none 0 0, .slice none 0 0]) (t := 27) ?_; intro gb219 hg w48 hbox hb; have BK219 := zQ (hbox); have GW219 := zQ ((by rw [hg]; exact (below_size (zB3 HB.out GE213.out GE214.out)) : w.heap.size ≤ gb219)); have GE219 := zQ ((by rw [hg]; exact (below_size (zB3 HB.out GE213.out GE214.out)) : w.heap.size ≤ gb219)); have NB213_219 := zn1 hg BK213.out; have NB219_213 := zn2 hg BK213.out; have NB214_219 := zn1 hg BK214.out; have NB219_214 := zn2 hg BK214.out; replace HO218 := zRb HO218.out hb; replace BK213 := zbl BK213.out hb; replace BK214 := zbl BK214.out hb; replace HB := zQ (below_step (zB3 HB.out GE213.out GE214.out) hb); clear hb hbox hg; have hnb49 := NB219_213.out; have hnc49 := NB213_219.out; have hnb50 := NB219_214.out; have hnc50 := NB214_219.out; obtain ⟨hcz51_0, hcz51_1, hfz51_0, hfz51_1⟩ := zy2 BK219.out) | ((with_reducible refine zgc 52 ?_); refine zgo (some 23) Try.func52 #[.slice Ao47 t216.length co47] ?_; (with_reducible refine (slices_Min_int64_int64.calls k _ _ t216 t220 _ ?side1 ((Kd.R_reads' HO218.out).2.1) A6.out).mono ?_); (case side1 => refine (Kd.R_reads' (e := 2) (base := w.heap.size) (ok := fun k_ => True) (n := t216.length) (c := co47) ?_).2.2; exact (by (with_reducible repeat (first | apply Kd.R_alloc | apply Kd.R_drewN | apply Kd.R_drew)); exact (Kd.R_mono (Kd.R_far (p := ⟨gb219, 1, none⟩) (Kd.R_far (p := ⟨gb219, 0, none⟩) (Kd.R_types HO218.out BK219.out (by decide)) (fun _ hk => hk.2) (.slice Ao47 t216.length co47)) (fun _ hk => hk.2) (.slice none 0 0)) (fun _ h_ => h_.1)))); rintro e w52 ⟨rfl, hb⟩; refine ⟨_, rfl, ?_⟩; replace HO218 := zQ (Kd.R_below (by (with_reducible repeat (first | apply Kd.R_alloc | apply Kd.R_drewN | apply Kd.R_drew)); exact (Kd.R_mono (Kd.R_far (p := ⟨gb219, 1, none⟩) (Kd.R_far (p := ⟨gb219, 0, none⟩) (Kd.R_types HO218.out BK219.out (by decide)) (fun _ hk => hk.2) (.slice Ao47 t216.length co47)) (fun _ hk => hk.2) (.slice none 0 0)) (fun _ h_ => h_.1))) hb); replace BK213 := zQ (blk_below (g := gb213) (o := .cells #[.slice A0_0 l0_0.length c0_0, .slice A0_1 l0_1.length c0_1] 27 (0, 0)) (by refine zb ?_; refine blk_far ?_ NB213_219.out _; refine zb ?_; refine blk_far ?_ NB213_219.out _; refine zb ?_; exact BK213.out) hb); replace BK214 := zQ (blk_below (g := gb214) (o := .cells #[.slice none 0 0, .slice none 0 0] 27 (0, 0)) (by refine zb ?_; refine blk_far ?_ NB214_219.out _; refine zb ?_; refine blk_far ?_ NB214_219.out _; refine zb ?_; exact BK214.out) hb); replace BK219 := zQ (blk_below (g := gb219) (o := .cells #[.slice Ao47 t216.length co47, .slice none 0 0] 27 (0, 0)) (by refine zb ?_; refine blk_put (cs := #[.slice Ao47 t216.length co47, .slice none 0 0]) ?_ 1 _ rfl; refine zb ?_; refine blk_put (cs := #[.slice none 0 0, .slice none 0 0]) ?_ 0 _ rfl; refine zb ?_; exact BK219.out) hb); replace HB := zQ (below_step (by repeat (first | (with_reducible first | exact HB.out | apply below_alloc | apply pw_below_drewN | apply below_drew1 | refine below_set ?_ GE213.out | refine below_set ?_ GE214.out | refine below_set ?_ GE219.out) | exact HB.out)) hb); (try clear hb); obtain ⟨hcz53_0, hcz53_1, hfz53_0, hfz53_1⟩ := zy2 BK219.out) | ((with_reducible refine zgc 53 ?_); refine zgo (some 28) Try.func53 #[.slice Ao47 t216.length co47] ?_; (with_reducible refine (slices_Max_int64_int64.calls k _ _ t216 t221 _ ?side1 ((Kd.R_reads' HO218.out).2.1) A22.out).mono ?_); (case side1 => exact zk (Kd.R_reads' HO218.out).2.2); rintro e w54 ⟨rfl, hb⟩; refine ⟨_, rfl, ?_⟩; replace HO218 := zRb HO218.out hb; replace BK213 := zbl BK213.out hb; replace BK214 := zbl BK214.out hb; replace BK219 := zbl BK219.out hb; replace HB := zQ (below_step (by repeat (first | (with_reducible first | exact HB.out | apply below_alloc | apply pw_below_drewN | apply below_drew1 | refine below_set ?_ GE213.out | refine below_set ?_ GE214.out | refine below_set ?_ GE219.out) | exact HB.out)) hb); (try clear hb); obtain ⟨hcz55_0, hcz55_1, hfz55_0, hfz55_1⟩ := zy2 BK213.out))
    go_loopg [34] k (fun kq v34 w' => ∃ (x34_1 : Int) (x220001_1 : List (List Int)) (u220001 : Value), v34 = .int .i64 x34_1 ∧ Aside0 (impl_Retuned.l0 kq l0_1 (l0_1.length : Int) x34_1 t216 x220001_1 = some (r1, r2, r3)) ∧ Aside0 (kq ≤ k) ∧ Aside0 (Kd.R (Kd.int .i64) 2 w' w.heap.size (fun _ => True) (.slice Ao47 t216.length co47) t216) ∧ Aside0 (Kd.S (Kd.slice 2 (Kd.int .i64)) 24 w' w.heap.size (fun k_ => some k_ ≠ ((.slice Ao47 t216.length co47) : Value).ownBlock) u220001 x220001_1) ∧ Aside0 (w'.heap[gb213]? = some (.cells #[(.slice A0_0 l0_0.length c0_0), (.slice A0_1 l0_1.length c0_1)] 27 (0, 0))) ∧ Aside0 (w'.heap[gb214]? = some (.cells #[(.slice none 0 0), (.slice none 0 0)] 27 (0, 0))) ∧ Aside0 (w'.heap[gb219]? = some (.cells #[(.slice Ao47 t216.length co47), u220001] 27 (0, 0))) ∧ Aside0 (Below w.heap.size w w'))
    case atStart => exact ⟨(0), (([] : List (List Int))), (.slice none 0 0), (zF), H', ⟨Nat.le_refl _⟩, ⟨zR HO218.out⟩, ⟨by first | exact Kd.S_nil _ _ _ _ _ | exact Kd.N_nil _ _ _ _ _ | exact Kd.V_nil _ _ _ _ _ | exact Kd.Q_nil _ _ _ _ _ | exact Kd.R_nil _ _ _ _ _⟩, ⟨zb BK213.out⟩, ⟨zb BK214.out⟩, ⟨zb BK219.out⟩, ⟨by repeat (first | (with_reducible first | exact HB.out | apply below_alloc | apply pw_below_drewN | apply below_drew1 | refine below_set ?_ GE213.out | refine below_set ?_ GE214.out | refine below_set ?_ GE219.out) | exact HB.out)⟩⟩
    case round =>
     clear H'; (try clear c1); (try clear c2); (try clear p2); (try clear c3); (try clear c4); (try clear c4b0); (try clear c4b1); (try clear c5); (try clear c7); (try clear c7b0); (try clear c10); (try clear c17); (try clear c18); (try clear c20); (try clear c23); (try clear c23b0); (try clear c26); (try clear c33); (try clear c34); (try clear c42); (try clear c49); (try clear c50); (try clear c52); (try clear c53); (try clear hcz11_0 hcz11_1 hfz11_0 hfz11_1); (try clear hcz13_0 hcz13_1 hfz13_0 hfz13_1); (try clear hcz19_0 hcz19_1 hfz19_0 hfz19_1); (try clear hcz21_0 hcz21_1 hfz21_0 hfz21_1); (try clear hcz27_0 hcz27_1 hfz27_0 hfz27_1); (try clear hcz29_0 hcz29_1 hfz29_0 hfz29_1); (try clear hcz35_0 hcz35_1 hfz35_0 hfz35_1); (try clear hcz37_0 hcz37_1 hfz37_0 hfz37_1); (try clear hcz39_0 hcz39_1 hfz39_0 hfz39_1); (try clear hcz43_0 hcz43_1 hfz43_0 hfz43_1); (try clear hcz45_0 hcz45_1 hfz45_0 hfz45_1); (try clear hcz51_0 hcz51_1 hfz51_0); (try clear hcz53_0 hcz53_1); (try clear hcz55_0 hcz55_1)
     (try clear hfz51_1); (try clear hfz53_0 hfz53_1); (try clear hfz55_0 hfz55_1); obtain ⟨x34_1, x220001_1, u220001, rfl, HA, HK1, HO_220000, HO_220001, BK213, BK214, BK219, HB⟩ := hrel
     cases gk with
     | zero => exact absurd HA.out (by simp [impl_Retuned.l0])
     | succ k1 =>
      have H := HA.out; clear HA
      simp only [impl_Retuned.l0] at H
      by_cases c56 : x34_1 < (l0_1.length : Int)
      ·rw [if_pos c56] at H
       have c56b0 := decide_eq_true c56; clear c56
       by_cases c57 : 0 ≤ x34_1
       ·rw [if_pos c57] at H
        have c57b0 := decide_eq_true c57; clear c57
        by_cases c58 : x34_1 < (l0_1.length : Int)
        ·rw [if_pos c58] at H
         have c58b0 := decide_eq_true c58; clear c58; obtain ⟨y223, hy223⟩ : ∃ y_ : List Int, y_ = (([] : List Int)) := ⟨_, rfl⟩; replace H : (if y223.length + (rd_L2 l0_1 x34_1).length < 17592186044416 then (if x220001_1.length < 5864062014805 then (impl_Retuned.l0 k1 l0_1 (l0_1.length : Int) (wrap64 (x34_1 + 1)) t216 (x220001_1 ++ [(y223 ++ (rd_L2 l0_1 x34_1))])) else (none)) else (none)) = some (r1, r2, r3) := zh H; have Ny223 := zQ hy223; clear hy223
         by_cases c59 : y223.length + (rd_L2 l0_1 x34_1).length < 17592186044416
         ·rw [if_pos c59] at H
          have LMc59 := zQ c59; clear c59; obtain ⟨y226, hy226⟩ : ∃ y_ : List Int, y_ = (y223 ++ (rd_L2 l0_1 x34_1)) := ⟨_, rfl⟩; replace H : (if x220001_1.length < 5864062014805 then (impl_Retuned.l0 k1 l0_1 (l0_1.length : Int) (wrap64 (x34_1 + 1)) t216 (x220001_1 ++ [y226])) else (none)) = some (r1, r2, r3) := zh H; have Ny226 := zQ hy226; clear hy226
          by_cases c60 : x220001_1.length < 5864062014805
          ·rw [if_pos c60] at H
           have LMc60 := zQ c60; clear c60; obtain ⟨y229, hy229⟩ : ∃ y_ : List (List Int), y_ = (x220001_1 ++ [y226]) := ⟨_, rfl⟩; replace H : (impl_Retuned.l0 k1 l0_1 (l0_1.length : Int) (wrap64 (x34_1 + 1)) t216 y229) = some (r1, r2, r3) := zh H; have Ny229 := zQ hy229; clear hy229; have H' := zQ H; clear H; have p222 : 0 ≤ (x34_1 : Int) := zD; have q222 : x34_1 < (l0_1.length : Int) := zD; obtain ⟨ad222, A222_0, c222_0, e222, hx222_0, hl222_0, hi222_0⟩ := at_L2 HR0_1.out x34_1 p222 q222
           cases e222
           replace hx222_0 := zw HB.out hx222_0; have HR222_0 := zQ hi222_0; have HC222_0 := zQ hl222_0; clear hi222_0 hl222_0; replace p222 := eq_true p222; replace q222 := eq_true q222
           try go_wp2
           have n0_ := zQ (Kd.R_drew HO_220000.out); have n1_ := zQ (Kd.S_drew HO_220001.out); have n2_ := zQ (blk_drew BK213.out); have n3_ := zQ (blk_drew BK214.out); have n4_ := zQ (blk_drew BK219.out); have n5_ := zQ (below_drew1 HB.out); clear HO_220000; clear HO_220001; clear BK213; clear BK214; clear BK219; clear HB; have HO_220000 := n0_; have HO_220001 := n1_; have BK213 := n2_; have BK214 := n3_; have BK219 := n4_; have HB := n5_; clear n0_ n1_ n2_ n3_ n4_ n5_
           refine zs (fun w' => w'.cell? ⟨gb219, 0, none⟩ = some (.slice Ao47 t216.length co47) ∧ w'.cell? ⟨gb219, 1, none⟩ = some (u220001)) [8] 9 ⟨(blk_cell BK219.out 0).trans rfl, (blk_cell BK219.out 1).trans rfl⟩ (fun hHeld => ?_); refine with_tabW impl_Retuned.tab12 impl_Retuned.bits12 (fun HT_ HW_ => ?_)
           generalize wr.drew = w61 at HO_220000 HO_220001 BK213 BK214 BK219 HB hHeld ⊢
           refine zp 0 38 ?_
           refine zp 3 41 ?_
           refine zt 1 39 hHeld ?_
           refine zo 2 (some 40) (fun K hK => ?_)
           refine Kd.R_lit_step (Kd.int .i64) _ 2 ?hg (N := 40) ?hd (xs := ([] : List Int)) (inner := []) (ok := fun _ => True) (okp := fun _ => True) ?hr ?hp (fun _ hk => hk) trivial (Below.refl _ _) (Nat.le_refl _) (by simp) ?_; (case hd => rfl); (case hg => rfl); (case hr => first | (go_simp; done) | (go_simp; rfl)); (case hp => exact (Reps.none _ _))
           intro v224 w62 ho63 hb hg_ hnew_
           clear hg_ hnew_
           (first | rw [← Ny223.out] at ho63 | (simp only [Int.reduceToNat] at ho63; rw [← Ny223.out] at ho63))
           have n0_ := zQ (Kd.R_elder' (zR HO_220000.out) (Kd.R_base ho63) hb); have n1_ := zQ (Kd.S_elder' (zS HO_220001.out) (Kd.R_base ho63) hb); have n2_ := zQ (Kd.R_lower (Kd.R_new' ho63 (Kd.R_lt (zR HO_220000.out))) (below_size (by repeat (first | (with_reducible first | exact HB.out | apply below_alloc | apply pw_below_drewN | apply below_drew1 | refine below_set ?_ GE213.out | refine below_set ?_ GE214.out | refine below_set ?_ GE219.out) | exact HB.out)))); have n3_ := zbl BK213.out hb; have n4_ := zbl BK214.out hb; have n5_ := zbl BK219.out hb; have n6_ := zQ (below_step (by repeat (first | (with_reducible first | exact HB.out | apply below_alloc | apply pw_below_drewN | apply below_drew1 | refine below_set ?_ GE213.out | refine below_set ?_ GE214.out | refine below_set ?_ GE219.out) | exact HB.out)) hb); clear HO_220000; clear HO_220001; clear BK213; clear BK214; clear BK219; clear HB; have HO_220000 := n0_; have HO_220001 := n1_; have HO225 := n2_; have BK213 := n3_; have BK214 := n4_; have BK219 := n5_; have HB := n6_; clear n0_ n1_ n2_ n3_ n4_ n5_ n6_; clear hb ho63
           refine hK.out _ _ ⟨(blk_cell BK219.out 0).trans rfl, (blk_cell BK219.out 1).trans rfl⟩ (fun hHeld => ?_)
           clear hK K
           refine zn 40 ?_
           refine zo 4 (some 42) (fun K hK => ?_)
           refine Kd.R_append_rows_step (Kd.int .i64) (w0 := w) w.heap.size (by rfl) (.tmp 40) (.tmp 41) 24 2 (.int .i64 0) 8 rfl Try.underlying24 info2 rfl (by decide) (by omega) v224 y223 (rd_L2 l0_1 x34_1) _ _ _ (fun k_ => some k_ ≠ (.slice Ao47 t216.length co47 : Value).ownBlock) (fun _ => False) rfl rfl ?aO ?aR (fun _ _ h => h) (fun _ h => h.elim) ?aF ?aB ?aS ?aL ?_
           (case aR => exact zC HR222_0.out HB.out)
           (case aB => exact (by repeat (first | (with_reducible first | exact HB.out | apply below_alloc | apply pw_below_drewN | apply below_drew1 | refine below_set ?_ GE213.out | refine below_set ?_ GE214.out | refine below_set ?_ GE219.out) | exact HB.out)))
           (case aF => exact (fun k_ hk => Kd.fresh' (Kd.R_lt (zR HO_220000.out)) k_ hk))
           (case aO => exact (by (with_reducible repeat (first | apply Kd.R_alloc | apply Kd.R_drewN | apply Kd.R_drew)); exact Kd.R_mono HO225.out (fun _ hk => hk.2)))
           (case aS => exact (below_size (by repeat (first | (with_reducible first | exact HB.out | apply below_alloc | apply pw_below_drewN | apply below_drew1 | refine below_set ?_ GE213.out | refine below_set ?_ GE214.out | refine below_set ?_ GE219.out) | exact HB.out))))
           (case aL => have := LMc59.out; omega)
           intro v227 w64 ho hb hg hat
           rw [← Ny226.out] at ho; have n0_ := zQ (Kd.R_after (ok := (fun _ => True)) (zR HO_220000.out) hg hat); have n1_ := zQ (Kd.S_after (ok := (fun k_ => some k_ ≠ (.slice Ao47 t216.length co47 : Value).ownBlock)) (zS HO_220001.out) hg hat); have n2_ := zQ (blk_grown (g := gb213) (o := .cells #[.slice A0_0 l0_0.length c0_0, .slice (some ad222) l0_1.length c0_1] 27 (0, 0)) (zb BK213.out) hg (Kd.R_ne HO225.out BK213.out (by decide))); have n3_ := zQ (blk_grown (g := gb214) (o := .cells #[.slice none 0 0, .slice none 0 0] 27 (0, 0)) (zb BK214.out) hg (Kd.R_ne HO225.out BK214.out (by decide))); have n4_ := zQ (blk_grown (g := gb219) (o := .cells #[.slice Ao47 t216.length co47, u220001] 27 (0, 0)) (zb BK219.out) hg (Kd.R_ne HO225.out BK219.out (by decide))); have n5_ := zQ (hb); have n6_ := zQ (ho); clear HO_220000; clear HO_220001; clear BK213; clear BK214; clear BK219; clear HB; clear HO225; have HO_220000 := n0_; have HO_220001 := n1_; have BK213 := n2_; have BK214 := n3_; have BK219 := n4_; have HB := n5_; have HO228 := n6_; clear n0_ n1_ n2_ n3_ n4_ n5_ n6_; clear ho hb hg hat; obtain ⟨Ao66, co66, eo66⟩ := Kd.R_slice HO228.out
           (first | subst eo66 | (injection eo66 with f1_ f2_ f3_; have f4_ := f1_.symm; have f5_ := f3_.symm; clear f1_ f2_ f3_; subst f4_; subst f5_))
           refine hK.out _ _ ⟨(blk_cell BK219.out 0).trans rfl, (blk_cell BK219.out 1).trans rfl⟩ (fun hHeld => ?_)
           clear hK K
           refine zn 42 ?_
           refine zo 5 (some 43) (fun K hK => ?_)
           refine value_ (w1 := ?_) (v := ?_) (by rfl) rfl ?_ ?_
           rotate_left 2
           ·go_simp
            constructor
            ·rfl
            ·rfl
           refine hK.out _ _ ⟨(blk_cell (blk_alloc BK219.out _) 0).trans rfl, (blk_cell (blk_alloc BK219.out _) 1).trans rfl⟩ (fun hHeld => ?_)
           clear hK K
           refine zn 43 ?_
           refine zo 6 (some 44) (fun K hK => ?_)
           refine Kd.S_append_step (Kd.slice 2 (Kd.int .i64)) (w0 := w) w.heap.size (by rfl) (.tmp 39) (.tmp 43) 25 24 (.slice none 0 0) 24 rfl Try.underlying25 info24 rfl (by decide) (by omega) u220001 x220001_1 y226 [.slice Ao66 y226.length co66] (fun k_ => some k_ ≠ (.slice Ao47 t216.length co47 : Value).ownBlock) (fun k_ => some k_ = (.slice Ao66 y226.length co66 : Value).ownBlock) rfl rfl ?aP (fun k_ hk_ => ((Kd.R_mono (ok' := fun k_ => ((fun k_ => some k_ ≠ (.slice Ao47 t216.length co47 : Value).ownBlock)) k_ ∧ some k_ ≠ (u220001 : Value).ownBlock) (Kd.R_apart' (HO228.out) (Kd.S_typed HO_220001.out) (by decide)) (fun k_ hk => ⟨hk.1, hk.2⟩))).1 k_ hk_.symm) ?aF ?aO ?aB ?aS ?aL ?_
           (case aP => exact Kd.M_row (Kd.R_mono (Kd.R_tight rfl (Kd.R_mono (ok' := fun k_ => ((fun k_ => some k_ ≠ (.slice Ao47 t216.length co47 : Value).ownBlock)) k_ ∧ some k_ ≠ (u220001 : Value).ownBlock) (Kd.R_apart' (HO228.out) (Kd.S_typed HO_220001.out) (by decide)) (fun k_ hk => ⟨hk.1, hk.2⟩))) (fun _ h_ => h_)))
           (case aB => exact (by repeat (first | (with_reducible first | exact HB.out | apply below_alloc | apply pw_below_drewN | apply below_drew1 | refine below_set ?_ GE213.out | refine below_set ?_ GE214.out | refine below_set ?_ GE219.out) | exact HB.out)))
           (case aF => exact (fun k_ hk => Kd.fresh' (Kd.R_lt (zR HO_220000.out)) k_ hk))
           (case aO => exact (by (with_reducible repeat (first | apply Kd.S_alloc | apply Kd.S_drewN | apply Kd.S_drew)); exact Kd.S_mono HO_220001.out (fun k_ hk => ⟨hk.1, fun e_ => hk.2 e_⟩)))
           (case aS => exact (below_size (by repeat (first | (with_reducible first | exact HB.out | apply below_alloc | apply pw_below_drewN | apply below_drew1 | refine below_set ?_ GE213.out | refine below_set ?_ GE214.out | refine below_set ?_ GE219.out) | exact HB.out))))
           (case aL => have := LMc60.out; omega)
           intro v230 w65 ho hb hg hat
           rw [← Ny229.out] at ho; have n0_ := zQ (Kd.R_over' (zR HO_220000.out) (Kd.S_typed (zS HO_220001.out)) (by decide) hg); have n1_ := zQ (blk_grown (g := gb213) (o := .cells #[.slice A0_0 l0_0.length c0_0, .slice (some ad222) l0_1.length c0_1] 27 (0, 0)) (zb BK213.out) hg (Kd.S_ne HO_220001.out BK213.out (by decide))); have n2_ := zQ (blk_grown (g := gb214) (o := .cells #[.slice none 0 0, .slice none 0 0] 27 (0, 0)) (zb BK214.out) hg (Kd.S_ne HO_220001.out BK214.out (by decide))); have n3_ := zQ (blk_grown (g := gb219) (o := .cells #[.slice Ao47 t216.length co47, u220001] 27 (0, 0)) (zb BK219.out) hg (Kd.S_ne HO_220001.out BK219.out (by decide))); have n4_ := zQ (hb); have n5_ := zQ (ho); clear HO_220000; clear BK213; clear BK214; clear BK219; clear HB; clear HO_220001; clear HO228; have HO_220000 := n0_; have BK213 := n1_; have BK214 := n2_; have BK219 := n3_; have HB := n4_; have HO231 := n5_; clear n0_ n1_ n2_ n3_ n4_ n5_; clear ho hb hg hat; obtain ⟨Ao67, co67, eo67⟩ := Kd.S_slice HO231.out
           (first | subst eo67 | (injection eo67 with f1_ f2_ f3_; have f4_ := f1_.symm; have f5_ := f3_.symm; clear f1_ f2_ f3_; subst f4_; subst f5_))
           refine hK.out _ _ ⟨(blk_cell BK219.out 0).trans rfl, (blk_cell BK219.out 1).trans rfl⟩ (fun hHeld => ?_)
           clear hK K
           refine zn 44 ?_
           refine zp 7 45 ?_
           refine last_ (i := 8) (N := none) (zm 9 511) rfl rfl (one_of HT_.out (by kernel_rfl)) (by decide) (fun K hK => ?_)
           have hs68 : w65.cell? ⟨gb219, 1, none⟩ = some (u220001) := (blk_cell BK219.out 1).trans rfl; have hfs68 := zfz BK219.out 1; have hns68_0 := NB213_219.out; have hns68_1 := NB214_219.out; have hms68_0 := NB219_213.out; have hms68_1 := NB219_214.out
           refine skip_ (w1 := ?_) (by rfl) rfl ?_ ?_
           rotate_left
           ·go_simp
            rfl
           refine hK.out _ _ ?_
           clear hK K
           refine done_ (done_of HT_.out (by kernel_rfl)) ?_
           try go_wp2
           go_roundg k1
           case measure => have := HK1.out; omega
           case rel => exact ⟨(wrap64 (x34_1 + 1)), (y229), (.slice Ao67 y229.length co67), (zF), H', ⟨by have := HK1.out; omega⟩, ⟨by (with_reducible repeat (first | apply Kd.R_alloc | apply Kd.R_drewN | apply Kd.R_drew)); exact Kd.R_mono (Kd.R_far (p := ⟨gb219, 1, none⟩) (Kd.R_types HO_220000.out BK219.out (by decide)) (fun _ hk => hk.2) (.slice Ao67 y229.length co67)) (fun _ hk => trivial)⟩, ⟨by (with_reducible repeat (first | apply Kd.S_alloc | apply Kd.S_drewN | apply Kd.S_drew)); exact Kd.S_mono (Kd.S_far (p := ⟨gb219, 1, none⟩) (Kd.S_types HO231.out BK219.out (by decide)) (fun _ hk => hk.2) (.slice Ao67 y229.length co67)) (fun _ hk => hk.1)⟩, ⟨by refine zb ?_; refine blk_far ?_ NB213_219.out _; refine zb ?_; exact BK213.out⟩, ⟨by refine zb ?_; refine blk_far ?_ NB214_219.out _; refine zb ?_; exact BK214.out⟩, ⟨by refine zb ?_; refine blk_put (cs := #[.slice Ao47 t216.length co47, u220001]) ?_ 1 _ rfl; refine zb ?_; exact BK219.out⟩, ⟨by repeat (first | (with_reducible first | exact HB.out | apply below_alloc | apply pw_below_drewN | apply below_drew1 | refine below_set ?_ GE213.out | refine below_set ?_ GE214.out | refine below_set ?_ GE219.out) | exact HB.out)⟩⟩
          ·rw [if_neg c60] at H
           exact absurd H (by simp)
         ·rw [if_neg c59] at H
          exact absurd H (by simp)
        ·rw [if_neg c58] at H
         exact absurd H (by simp)
       ·rw [if_neg c57] at H
        exact absurd H (by simp)
      ·rw [if_neg c56] at H
       have c56b0 := decide_eq_false c56; clear c56
       simp only [Option.some.injEq, Prod.mk.injEq] at H
       obtain ⟨rfl, rfl, rfl⟩ := H; have hnb69 := NB219_213.out; have hnc69 := NB213_219.out; have hnb70 := NB219_214.out; have hnc70 := NB214_219.out; obtain ⟨hcz71_0, hcz71_1, hfz71_0, hfz71_1⟩ := zy2 BK219.out; have hnb72 := NB214_213.out; have hnc72 := NB213_214.out; obtain ⟨hcz73_0, hcz73_1, hfz73_0, hfz73_1⟩ := zy2 BK214.out; obtain ⟨Ao74, co74, eo74⟩ := Kd.S_slice HO_220001.out; subst eo74
       go_wp2
       refine bodyPost_ret (results_ct rfl _ _ gb214 27 #[.slice Ao47 t216.length co47, .slice Ao74 x220001_1.length co74] (0, 0) _ rfl (by refine zb ?_; refine blk_put (cs := #[.slice Ao47 t216.length co47, .slice none 0 0]) ?_ 1 _ rfl; refine zb ?_; refine blk_put (cs := #[.slice none 0 0, .slice none 0 0]) ?_ 0 _ rfl; refine zb ?_; exact BK214.out) Try.underlying27 rfl (by kernel_rfl)) rfl ?_
       exact ⟨_, _, zE, by (with_reducible repeat (first | apply Kd.R_alloc | apply Kd.R_drewN | apply Kd.R_drew)); exact Kd.R_mono (Kd.R_far (p := ⟨gb214, 1, none⟩) (Kd.R_far (p := ⟨gb214, 0, none⟩) (Kd.R_types HO_220000.out BK214.out (by decide)) (fun _ hk => hk.2) (.slice Ao47 t216.length co47)) (fun _ hk => hk.2) (.slice Ao74 x220001_1.length co74)) (fun _ hk => trivial), by (with_reducible repeat (first | apply Kd.S_alloc | apply Kd.S_drewN | apply Kd.S_drew)); exact Kd.S_mono (Kd.S_far (p := ⟨gb214, 1, none⟩) (Kd.S_far (p := ⟨gb214, 0, none⟩) (Kd.S_types HO_220001.out BK214.out (by decide)) (fun _ hk => hk.2) (.slice Ao47 t216.length co47)) (fun _ hk => hk.2) (.slice Ao74 x220001_1.length co74)) (fun _ hk => hk.1), by repeat (first | (with_reducible first | exact HB.out | apply below_alloc | apply pw_below_drewN | apply below_drew1 | refine below_set ?_ GE213.out | refine below_set ?_ GE214.out | refine below_set ?_ GE219.out) | exact HB.out)⟩
 ·rw [if_neg c4] at H
  have c4b0 : (t215 == 0) = false := beq_eq_false_iff_ne.mpr c4; have c4b1 : (t215 != 0) = true := bne_iff_ne.mpr c4
  simp only [Option.some.injEq, Prod.mk.injEq] at H
  obtain ⟨rfl, rfl, rfl⟩ := H
  go_enter Try.func20, Try.ntmps20
  go_wp2_with (first | ((with_reducible refine zd 2 ?_); refine zbx (N := 2) (cs := #[.slice A0_0 l0_0.length c0_0, .slice A0_1 l0_1.length c0_1]) (t := 27) ?_; intro gb213 hg w75 hbox hb; have BK213 := zQ (hbox); have GW213 := zgz hg HB.out; have GE213 := GW213; replace HB := zbs HB.out hb; clear hb hbox hg) | ((with_reducible refine zd 4 ?_); refine zbx (N := 4) (cs := #[.slice none 0 0, .slice none 0 0]) (t := 27) ?_; intro gb214 hg w76 hbox hb; have BK214 := zQ (hbox); have GW214 := zgz2 hg HB.out GE213.out; have GE214 := GW214; have NB213_214 := zn1 hg BK213.out; have NB214_213 := zn2 hg BK213.out; replace BK213 := zbl BK213.out hb; replace HB := zbs2 HB.out GE213.out hb; clear hb hbox hg; have hnb77 := NB213_214.out; have hnc77 := NB214_213.out; obtain ⟨hcz78_0, hcz78_1, hfz78_0, hfz78_1⟩ := zy2 BK213.out) | ((with_reducible refine zgc 49 ?_); refine zgo (some 12) Try.func49 #[.agg #[.slice A0_0 l0_0.length c0_0, .slice A0_1 l0_1.length c0_1], .slice A1 l1.length c1] ?_; (with_reducible refine (impl_turnsCode.calls k _ _ l0_0 _ _ l0_1 _ _ l1 t215 _ (zC HR0_0.out HB.out) HC0_0.out (zC HR0_1.out HB.out) HC0_1.out (zC HR1.out HB.out) HC1.out A3.out).mono ?_); rintro e w79 ⟨rfl, hb⟩; refine ⟨_, rfl, ?_⟩; replace BK213 := zbl BK213.out hb; replace BK214 := zbl BK214.out hb; replace HB := zQ (below_step (zB3 HB.out GE213.out GE214.out) hb); (try clear hb); obtain ⟨hcz80_0, hcz80_1, hfz80_0, hfz80_1⟩ := zy2 BK214.out))
  refine bodyPost_ret (results_ct rfl _ _ gb214 27 #[.slice none 0 0, .slice none 0 0] (0, 0) _ rfl (by refine zb ?_; refine blk_put (cs := #[.slice none 0 0, .slice none 0 0]) ?_ 1 _ rfl; refine zb ?_; refine blk_put (cs := #[.slice none 0 0, .slice none 0 0]) ?_ 0 _ rfl; refine zb ?_; exact BK214.out) Try.underlying27 rfl (by kernel_rfl)) rfl ?_
  exact ⟨_, _, zE, by first | exact Kd.R_nil _ _ _ _ _ | exact Kd.N_nil _ _ _ _ _ | exact Kd.V_nil _ _ _ _ _ | exact Kd.Q_nil _ _ _ _ _ | exact Kd.S_nil _ _ _ _ _, by first | exact Kd.S_nil _ _ _ _ _ | exact Kd.N_nil _ _ _ _ _ | exact Kd.V_nil _ _ _ _ _ | exact Kd.Q_nil _ _ _ _ _ | exact Kd.R_nil _ _ _ _ _, zB3 HB.out GE213.out GE214.out⟩

end
end Go.Proofs.Ythfpaldhdohnkaa.PTune

