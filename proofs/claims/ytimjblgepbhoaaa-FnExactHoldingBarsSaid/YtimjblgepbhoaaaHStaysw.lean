import Derived.Test.YtimjblgepbhoaaaHStays0
namespace Go.Proofs.Ytimjblgepbhoaaa.PStays
noncomputable section
open Go.RowKit Go.Proofs.YtimjblgepbhoaaaW.PrintWords Go.Proofs.YtimjblgepbhoaaaW.PrintLast Go.Proofs.YtimjblgepbhoaaaW.PrintMore
attribute [local go_sem] max2_int min2_int max_two min_two max_three min_three max_four min_four   -- for this text's walks alone
set_option linter.unusedVariables false
set_option linter.unusedSimpArgs false
set_option maxHeartbeats 8000000
set_option maxRecDepth 100000

def impl_allBars.l0 : Nat → List Int → Int → Int → Option (List Int)
 | 0, _, _, _ => none
 | k + 1, x3, x8, x9 => if x9 < x8 then (if x3.length < 17592186044416 then (impl_allBars.l0 k (x3 ++ [x9]) x8 (wrap64 (x9 + 1))) else (none)) else (some x3)
def impl_allBars.f (k : Nat) (l0_0 : List (S164)) (l0_1 : List (S115)) : Option (List Int) := impl_allBars.l0 k (([] : List Int)) (l0_1.length : Int) 0
theorem impl_allBars.mono_l : ∀ k, (∀ y0 y1 y2, LeO (impl_allBars.l0 k y0 y1 y2) (impl_allBars.l0 (k + 1) y0 y1 y2))
 | 0 => fun _ _ _ r h => by simp [impl_allBars.l0] at h
 | k + 1 => by
  have ih0 := impl_allBars.mono_l k
  ·intro y0 y1 y2
   unfold impl_allBars.l0
   exact zM0
theorem impl_allBars.mono : ∀ a0 a1 k, LeO (impl_allBars.f k a0 a1) (impl_allBars.f (k + 1) a0 a1) := by
 intro a0 a1 k
 have ih0 := impl_allBars.mono_l k
 unfold impl_allBars.f
 exact zM0
theorem impl_allBars.calls (k : Nat) (A0_0 : Option Addr) (c0_0 : Nat) (l0_0 : List (S164)) (A0_1 : Option Addr) (c0_1 : Nat) (l0_1 : List (S115)) (r : List Int) (w : World) (hr0_0 : Kd.C k164 w A0_0 l0_0.length l0_0) (hc0_0 : l0_0.length ≤ c0_0) (hr0_1 : Kd.C k115 w A0_1 l0_1.length l0_1) (hc0_1 : l0_1.length ≤ c0_1) (h : impl_allBars.f k l0_0 l0_1 = some r) :
  Calls Try.prog 69 #[.agg #[.slice A0_0 l0_0.length c0_0, .slice A0_1 l0_1.length c0_1]] w fun e w' => ∃ v0_ : Value, e = .returned (v0_) ∧ Kd.R (Kd.int .i64) 2 w' w.heap.size (fun _ => True) v0_ r ∧ Below w.heap.size w w' := by
 have hu27 := Try.underlying27
 have HR0_0 := zQ hr0_0
 have HC0_0 := zQ hc0_0
 clear hr0_0 hc0_0
 have HR0_1 := zQ hr0_1
 have HC0_1 := zQ hc0_1
 clear hr0_1 hc0_1
 have HB := zQ (Below.refl w.heap.size w)
 have H : (impl_allBars.l0 k (([] : List Int)) (l0_1.length : Int) 0) = some r := h
 clear h
 obtain ⟨y117, hy117⟩ : ∃ y_ : List Int, y_ = (([] : List Int)) := ⟨_, rfl⟩
 replace H : (impl_allBars.l0 k y117 (l0_1.length : Int) 0) = some r := zh H
 have Ny117 := zQ hy117
 clear hy117
 have H' := zQ H
 clear H
 go_enter Try.func69, Try.ntmps69
 go_wp2_with (first | ((with_reducible refine zd 1 ?_); refine zbx (N := 1) (cs := #[.slice A0_0 l0_0.length c0_0, .slice A0_1 l0_1.length c0_1]) (t := 27) ?_; intro gb116 hg w2 hbox hb; have BK116 := zQ (hbox); have GW116 := zgz hg HB.out; have GE116 := GW116; replace HB := zbs HB.out hb; clear hb hbox hg) | ((with_reducible refine zd 5 ?_); refine Kd.R_lit (Kd.int .i64) _ 2 ?hg (N := 5) ?hd (xs := ([] : List Int)) (inner := []) (ok := fun _ => True) (okp := fun _ => True) ?hr ?hp (fun _ hk => hk) trivial (Below.refl _ _) (Nat.le_refl _) (by simp) ?_; (case hd => rfl); (case hg => rfl); (case hr => first | (go_simp; done) | (go_simp; rfl)); (case hp => exact (Reps.none _ _)); intro v118 w3 ho4 hb hg_ hnew_; clear hg_ hnew_; (first | rw [← Ny117.out] at ho4 | (simp only [Int.reduceToNat] at ho4; rw [← Ny117.out] at ho4)); have HO119 := zQ (Kd.R_lower ho4 (below_size (zB2 HB.out GE116.out))); replace BK116 := zbl BK116.out hb; replace HB := zbs2 HB.out GE116.out hb; clear hb ho4; obtain ⟨hcz5_0, hcz5_1, hfz5_0, hfz5_1⟩ := zy2 BK116.out))
 go_loopg [3, 9] k (fun kq v3 v9 w' => ∃ (x3_1 : List Int) (x9_1 : Int), v9 = .int .i64 x9_1 ∧ Aside0 (impl_allBars.l0 kq x3_1 (l0_1.length : Int) x9_1 = some r) ∧ Aside0 (kq ≤ k) ∧ Aside0 (Kd.R (Kd.int .i64) 2 w' w.heap.size (fun _ => True) v3 x3_1) ∧ Aside0 (w'.heap[gb116]? = some (.cells #[(.slice A0_0 l0_0.length c0_0), (.slice A0_1 l0_1.length c0_1)] 27 (0, 0))) ∧ Aside0 (Below w.heap.size w w'))
 case atStart => exact ⟨(y117), (0), (zF), H', ⟨Nat.le_refl _⟩, ⟨zR HO119.out⟩, ⟨zb BK116.out⟩, ⟨zB2 HB.out GE116.out⟩⟩
 case round =>
  clear H'; (try clear p2); (try clear hcz5_0 hcz5_1 hfz5_0 hfz5_1); obtain ⟨x3_1, x9_1, rfl, HA, HK1, HO_3, BK116, HB⟩ := hrel
  cases gk with
  | zero => exact absurd HA.out (by simp [impl_allBars.l0])
  | succ k1 =>
   have H := HA.out; clear HA
   simp only [impl_allBars.l0] at H
   by_cases c6 : x9_1 < (l0_1.length : Int)
   ·rw [if_pos c6] at H
    have c6b0 := decide_eq_true c6; clear c6
    by_cases c7 : x3_1.length < 17592186044416
    ·rw [if_pos c7] at H
     have LMc7 := zQ c7; clear c7; obtain ⟨y120, hy120⟩ : ∃ y_ : List Int, y_ = (x3_1 ++ [x9_1]) := ⟨_, rfl⟩; replace H : (impl_allBars.l0 k1 y120 (l0_1.length : Int) (wrap64 (x9_1 + 1))) = some r := zh H; have Ny120 := zQ hy120; clear hy120; have H' := zQ H; clear H
     go_wp2_with (first | ((with_reducible refine gate_builtin (b := .append) (xs := #[.tmp 12, .tmp 14]) rfl ?_); at_builtin; refine Kd.R_append (Kd.int .i64) (w0 := w) w.heap.size rfl (.tmp 12) (.tmp 14) 31 2 (.int .i64 0) 8 rfl Try.underlying31 info2 rfl (by decide) (by omega) u3 x3_1 x9_1 [.int .i64 x9_1] (fun _ => True) (fun _ => False) rfl rfl ?aP (fun _ hk => hk.elim) ?aF ?aO ?aB ?aS ?aL ?_; (case aP => exact rfl); (case aB => exact (zB2 HB.out GE116.out)); (case aF => exact (fun _ _ => trivial)); (case aO => exact (zR HO_3.out)); (case aS => exact (below_size (zB2 HB.out GE116.out))); (case aL => have := LMc7.out; omega); intro v121 w8 ho hb hg hat; rw [← Ny120.out] at ho; have HO122 := zQ (ho); replace BK116 := zQ (blk_grown (g := gb116) (o := .cells #[.slice A0_0 l0_0.length c0_0, .slice A0_1 l0_1.length c0_1] 27 (0, 0)) (zb BK116.out) hg (Kd.R_ne HO_3.out BK116.out (by decide))); replace HB := zQ (hb); clear HO_3 ho hb hg hat))
     go_roundg k1
     case measure => have := HK1.out; omega
     case rel => exact ⟨(y120), (wrap64 (x9_1 + 1)), (zF), H', ⟨by have := HK1.out; omega⟩, ⟨zR HO122.out⟩, ⟨zb BK116.out⟩, ⟨zB2 HB.out GE116.out⟩⟩
    ·rw [if_neg c7] at H
     exact absurd H (by simp)
   ·rw [if_neg c6] at H
    have c6b0 := decide_eq_false c6; clear c6; obtain rfl := Option.some.inj H
    go_wp2
    go_ret
    exact ⟨_, zE, zR HO_3.out, zB2 HB.out GE116.out⟩

def spec_l11All.l0 : Nat → List Int → Int → List (S164) → List (S115) → Option (List Int)
 | 0, _, _, _, _ => none
 | k + 1, x3, x4, x1000, x1001 => if x4 < (x1001.length : Int) then (if x3.length < 17592186044416 then (spec_l11All.l0 k (x3 ++ [x4]) (wrap64 (x4 + 1)) x1000 x1001) else (none)) else (some x3)
def spec_l11All.f (k : Nat) (l0_0 : List (S164)) (l0_1 : List (S115)) : Option (List Int) := spec_l11All.l0 k (([] : List Int)) 0 l0_0 l0_1
theorem spec_l11All.mono_l : ∀ k, (∀ y0 y1 y2 y3, LeO (spec_l11All.l0 k y0 y1 y2 y3) (spec_l11All.l0 (k + 1) y0 y1 y2 y3))
 | 0 => fun _ _ _ _ r h => by simp [spec_l11All.l0] at h
 | k + 1 => by
  have ih0 := spec_l11All.mono_l k
  ·intro y0 y1 y2 y3
   unfold spec_l11All.l0
   exact zM0
theorem spec_l11All.mono : ∀ a0 a1 k, LeO (spec_l11All.f k a0 a1) (spec_l11All.f (k + 1) a0 a1) := by
 intro a0 a1 k
 have ih0 := spec_l11All.mono_l k
 unfold spec_l11All.f
 exact zM0
theorem spec_l11All.calls (k : Nat) (g0 : Nat) (A0_0 : Option Addr) (c0_0 : Nat) (l0_0 : List (S164)) (A0_1 : Option Addr) (c0_1 : Nat) (l0_1 : List (S115)) (r : List Int) (w : World) (hbk0 : w.heap[g0]? = some (.cells #[.slice A0_0 l0_0.length c0_0, .slice A0_1 l0_1.length c0_1] 27 (0, 0))) (hr0_0 : Kd.C k164 w A0_0 l0_0.length l0_0) (hc0_0 : l0_0.length ≤ c0_0) (hr0_1 : Kd.C k115 w A0_1 l0_1.length l0_1) (hc0_1 : l0_1.length ≤ c0_1) (h : spec_l11All.f k l0_0 l0_1 = some r) :
  Calls Try.prog 109 #[.pointer (some ⟨g0, 0, none⟩)] w fun e w' => ∃ v0_ : Value, e = .returned (v0_) ∧ Kd.R (Kd.int .i64) 2 w' w.heap.size (fun _ => True) v0_ r ∧ Below w.heap.size w w' := by
 have HR0_0 := zQ hr0_0
 have HC0_0 := zQ hc0_0
 clear hr0_0 hc0_0
 have HR0_1 := zQ hr0_1
 have HC0_1 := zQ hc0_1
 clear hr0_1 hc0_1
 have BK0 := zQ hbk0
 clear hbk0
 have HB := zQ (Below.refl w.heap.size w)
 have H : (spec_l11All.l0 k (([] : List Int)) 0 l0_0 l0_1) = some r := h
 clear h
 obtain ⟨y213, hy213⟩ : ∃ y_ : List Int, y_ = (([] : List Int)) := ⟨_, rfl⟩
 replace H : (spec_l11All.l0 k y213 0 l0_0 l0_1) = some r := zh H
 have Ny213 := zQ hy213
 clear hy213
 have H' := zQ H
 clear H
 go_enter Try.func109, Try.ntmps109
 go_wp2_with (first | ((with_reducible refine zd 5 ?_); refine Kd.R_lit (Kd.int .i64) _ 2 ?hg (N := 5) ?hd (xs := ([] : List Int)) (inner := []) (ok := fun _ => True) (okp := fun _ => True) ?hr ?hp (fun _ hk => hk) trivial (Below.refl _ _) (Nat.le_refl _) (by simp) ?_; (case hd => rfl); (case hg => rfl); (case hr => first | (go_simp; done) | (go_simp; rfl)); (case hp => exact (Reps.none _ _)); intro v214 w2 ho3 hb hg_ hnew_; clear hg_ hnew_; (first | rw [← Ny213.out] at ho3 | (simp only [Int.reduceToNat] at ho3; rw [← Ny213.out] at ho3)); have HO215 := zQ (Kd.R_lower ho3 (below_size (zB HB.out))); replace BK0 := zbl BK0.out hb; replace HB := zbs HB.out hb; clear hb ho3))
 go_loopg [3, 4] k (fun kq v3 v4 w' => ∃ (x3_1 : List Int) (x4_1 : Int), v4 = .int .i64 x4_1 ∧ Aside0 (spec_l11All.l0 kq x3_1 x4_1 l0_0 l0_1 = some r) ∧ Aside0 (kq ≤ k) ∧ Aside0 (Kd.R (Kd.int .i64) 2 w' w.heap.size (fun _ => True) v3 x3_1) ∧ Aside0 (w'.heap[g0]? = some (.cells #[(.slice A0_0 l0_0.length c0_0), (.slice A0_1 l0_1.length c0_1)] 27 (0, 0))) ∧ Aside0 (Below w.heap.size w w'))
 case atStart => exact ⟨(y213), (0), (zF), H', ⟨Nat.le_refl _⟩, ⟨zR HO215.out⟩, ⟨zb BK0.out⟩, ⟨zB HB.out⟩⟩
 case round =>
  clear H'; (try clear c1); (try clear p2); obtain ⟨x3_1, x4_1, rfl, HA, HK1, HO_3, BK0, HB⟩ := hrel
  cases gk with
  | zero => exact absurd HA.out (by simp [spec_l11All.l0])
  | succ k1 =>
   have H := HA.out; clear HA
   simp only [spec_l11All.l0] at H
   by_cases c4 : x4_1 < (l0_1.length : Int)
   ·rw [if_pos c4] at H
    have c4b0 := decide_eq_true c4; clear c4
    by_cases c5 : x3_1.length < 17592186044416
    ·rw [if_pos c5] at H
     have LMc5 := zQ c5; clear c5; obtain ⟨y216, hy216⟩ : ∃ y_ : List Int, y_ = (x3_1 ++ [x4_1]) := ⟨_, rfl⟩; replace H : (spec_l11All.l0 k1 y216 (wrap64 (x4_1 + 1)) l0_0 l0_1) = some r := zh H; have Ny216 := zQ hy216; clear hy216; have H' := zQ H; clear H; obtain ⟨hcz6_0, hcz6_1, hfz6_0, hfz6_1⟩ := zy2 BK0.out
     go_wp2_with (first | ((with_reducible refine gate_builtin (b := .append) (xs := #[.tmp 15, .tmp 17]) rfl ?_); at_builtin; refine Kd.R_append (Kd.int .i64) (w0 := w) w.heap.size rfl (.tmp 15) (.tmp 17) 31 2 (.int .i64 0) 8 rfl Try.underlying31 info2 rfl (by decide) (by omega) u3 x3_1 x4_1 [.int .i64 x4_1] (fun _ => True) (fun _ => False) rfl rfl ?aP (fun _ hk => hk.elim) ?aF ?aO ?aB ?aS ?aL ?_; (case aP => exact rfl); (case aB => exact (zB HB.out)); (case aF => exact (fun _ _ => trivial)); (case aO => exact (zR HO_3.out)); (case aS => exact (below_size (zB HB.out))); (case aL => have := LMc5.out; omega); intro v217 w7 ho hb hg hat; rw [← Ny216.out] at ho; have HO218 := zQ (ho); replace BK0 := zQ (blk_grown (g := g0) (o := .cells #[.slice A0_0 l0_0.length c0_0, .slice A0_1 l0_1.length c0_1] 27 (0, 0)) (zb BK0.out) hg (Kd.R_ne HO_3.out BK0.out (by decide))); replace HB := zQ (hb); clear HO_3 ho hb hg hat))
     go_roundg k1
     case measure => have := HK1.out; omega
     case rel => exact ⟨(y216), (wrap64 (x4_1 + 1)), (zF), H', ⟨by have := HK1.out; omega⟩, ⟨zR HO218.out⟩, ⟨zb BK0.out⟩, ⟨zB HB.out⟩⟩
    ·rw [if_neg c5] at H
     exact absurd H (by simp)
   ·rw [if_neg c4] at H
    have c4b0 := decide_eq_false c4; clear c4; obtain rfl := Option.some.inj H; obtain ⟨hcz8_0, hcz8_1, hfz8_0, hfz8_1⟩ := zy2 BK0.out
    go_wp2
    go_ret
    exact ⟨_, zE, zR HO_3.out, zB HB.out⟩

def spec_l11Less.l0 : Nat → List Int → List Int → Int → Option (Bool)
 | 0, _, _, _ => none
 | k + 1, x0, x1, x5 => if x5 < (x0.length : Int) then (if 0 ≤ x5 then (if x5 < (x1.length : Int) then (if (rd x0 x5) = (rd x1 x5) then (spec_l11Less.l0 k x0 x1 (wrap64 (x5 + 1))) else (some (decide ((rd x0 x5) < (rd x1 x5))))) else (none)) else (none)) else (some false)
def spec_l11Less.f (k : Nat) (l0 : List Int) (l1 : List Int) : Option (Bool) := if (l0.length : Int) = (l1.length : Int) then (spec_l11Less.l0 k l0 l1 0) else (some (decide ((l0.length : Int) < (l1.length : Int))))
theorem spec_l11Less.mono_l : ∀ k, (∀ y0 y1 y2, LeO (spec_l11Less.l0 k y0 y1 y2) (spec_l11Less.l0 (k + 1) y0 y1 y2))
 | 0 => fun _ _ _ r h => by simp [spec_l11Less.l0] at h
 | k + 1 => by
  have ih0 := spec_l11Less.mono_l k
  ·intro y0 y1 y2
   unfold spec_l11Less.l0
   exact zM0
theorem spec_l11Less.mono : ∀ a0 a1 k, LeO (spec_l11Less.f k a0 a1) (spec_l11Less.f (k + 1) a0 a1) := by
 intro a0 a1 k
 have ih0 := spec_l11Less.mono_l k
 unfold spec_l11Less.f
 exact zM0
theorem spec_l11Less.calls (k : Nat) (A0 : Option Addr) (c0 : Nat) (l0 : List Int) (A1 : Option Addr) (c1 : Nat) (l1 : List Int) (r : Bool) (w : World) (hr0 : Kd.C (Kd.int .i64) w A0 l0.length l0) (hc0 : l0.length ≤ c0) (hr1 : Kd.C (Kd.int .i64) w A1 l1.length l1) (hc1 : l1.length ≤ c1) (h : spec_l11Less.f k l0 l1 = some r) :
  Calls Try.prog 112 #[.slice A0 l0.length c0, .slice A1 l1.length c1] w fun e w' => e = .returned (.bool r) ∧ Drawn0 w w' := by
 have HR0 := zQ hr0
 have HC0 := zQ hc0
 clear hr0 hc0
 have HR1 := zQ hr1
 have HC1 := zQ hc1
 clear hr1 hc1
 have H : (if (l0.length : Int) = (l1.length : Int) then (spec_l11Less.l0 k l0 l1 0) else (some (decide ((l0.length : Int) < (l1.length : Int))))) = some r := h
 clear h
 by_cases c3 : (l0.length : Int) = (l1.length : Int)
 ·rw [if_pos c3] at H
  have c3b0 : ((l0.length : Int) == (l1.length : Int)) = true := beq_iff_eq.mpr c3; have c3b1 : ((l0.length : Int) != (l1.length : Int)) = false := bne_eq_false_iff_eq.mpr c3
  have c3b2 : (l0.length == l1.length) = true := by first | simpa using c3 | (simp at c3 ⊢; omega)
  clear c3; have H' := zQ H; clear H
  go_enter Try.func112, Try.ntmps112
  go_wp2
  repeat (go_quiet (fail); try go_wp2)
  go_loopg [5] k (fun kq v5 w' => ∃ (x5_1 : Int), v5 = .int .i64 x5_1 ∧ Aside0 (spec_l11Less.l0 kq l0 l1 x5_1 = some r) ∧ Aside0 (kq ≤ k) ∧ Drawn0 w w')
  case atStart => exact ⟨(0), (zF), H', ⟨Nat.le_refl _⟩, by repeat (first | exact Drawn0.refl _ | apply Drawn0.step)⟩
  case round =>
   clear H'; (try clear c1); (try clear p2); (try clear c3); (try clear c3b0); (try clear c3b1); (try clear c3b2); obtain ⟨x5_1, rfl, HA, HK1, ⟨m1, rfl⟩⟩ := hrel
   cases gk with
   | zero => exact absurd HA.out (by simp [spec_l11Less.l0])
   | succ k1 =>
    have H := HA.out; clear HA
    simp only [spec_l11Less.l0] at H
    by_cases c4 : x5_1 < (l0.length : Int)
    ·rw [if_pos c4] at H
     have c4b0 := decide_eq_true c4; clear c4
     by_cases c5 : 0 ≤ x5_1
     ·rw [if_pos c5] at H
      have c5b0 := decide_eq_true c5; clear c5
      by_cases c6 : x5_1 < (l1.length : Int)
      ·rw [if_pos c6] at H
       have c6b0 := decide_eq_true c6; clear c6
       by_cases c7 : (rd l0 x5_1) = (rd l1 x5_1)
       ·rw [if_pos c7] at H
        have c7b0 : ((rd l0 x5_1) == (rd l1 x5_1)) = true := beq_iff_eq.mpr c7; have c7b1 : ((rd l0 x5_1) != (rd l1 x5_1)) = false := bne_eq_false_iff_eq.mpr c7; clear c7; have H' := zQ H; clear H; have p226 : 0 ≤ (x5_1 : Int) := zD; have q226 : x5_1 < (l0.length : Int) := zD; obtain ⟨ad226, e226, hx226_0⟩ := Kd.at_int HR0.out x5_1 p226 q226
        cases e226
        replace p226 := eq_true p226; replace q226 := eq_true q226; have p227 : 0 ≤ (x5_1 : Int) := zD; have q227 : x5_1 < (l1.length : Int) := zD; obtain ⟨ad227, e227, hx227_0⟩ := Kd.at_int HR1.out x5_1 p227 q227
        cases e227
        replace p227 := eq_true p227; replace q227 := eq_true q227
        go_wp2
        repeat (go_quiet (fail); try go_wp2)
        go_roundg k1
        case measure => have := HK1.out; omega
        case rel => exact ⟨(wrap64 (x5_1 + 1)), (zF), H', ⟨by have := HK1.out; omega⟩, by repeat (first | exact Drawn0.refl _ | apply Drawn0.step)⟩
       ·rw [if_neg c7] at H
        have c7b0 : ((rd l0 x5_1) == (rd l1 x5_1)) = false := beq_eq_false_iff_ne.mpr c7; have c7b1 : ((rd l0 x5_1) != (rd l1 x5_1)) = true := bne_iff_ne.mpr c7; obtain rfl := Option.some.inj H; have p226 : 0 ≤ (x5_1 : Int) := zD; have q226 : x5_1 < (l0.length : Int) := zD; obtain ⟨ad226, e226, hx226_0⟩ := Kd.at_int HR0.out x5_1 p226 q226
        cases e226
        replace p226 := eq_true p226; replace q226 := eq_true q226; have p227 : 0 ≤ (x5_1 : Int) := zD; have q227 : x5_1 < (l1.length : Int) := zD; obtain ⟨ad227, e227, hx227_0⟩ := Kd.at_int HR1.out x5_1 p227 q227
        cases e227
        replace p227 := eq_true p227; replace q227 := eq_true q227; have p228 : 0 ≤ (x5_1 : Int) := zD; have q228 : x5_1 < (l0.length : Int) := zD; obtain ⟨ad228, e228, hx228_0⟩ := Kd.at_int HR0.out x5_1 p228 q228; obtain rfl : ad226 = ad228 := (by injection e228); replace p228 := eq_true p228; replace q228 := eq_true q228; have p229 : 0 ≤ (x5_1 : Int) := zD; have q229 : x5_1 < (l1.length : Int) := zD; obtain ⟨ad229, e229, hx229_0⟩ := Kd.at_int HR1.out x5_1 p229 q229; obtain rfl : ad227 = ad229 := (by injection e229); replace p229 := eq_true p229; replace q229 := eq_true q229
        go_wp2
        repeat (go_quiet (fail); try go_wp2)
        go_ret
        exact ⟨zF, by repeat (first | exact Drawn0.refl _ | apply Drawn0.step)⟩
      ·rw [if_neg c6] at H
       exact absurd H (by simp)
     ·rw [if_neg c5] at H
      exact absurd H (by simp)
    ·rw [if_neg c4] at H
     have c4b0 := decide_eq_false c4; clear c4; obtain rfl := Option.some.inj H
     go_wp2
     repeat (go_quiet (fail); try go_wp2)
     go_ret
     exact ⟨zF, by repeat (first | exact Drawn0.refl _ | apply Drawn0.step)⟩
 ·rw [if_neg c3] at H
  have c3b0 : ((l0.length : Int) == (l1.length : Int)) = false := beq_eq_false_iff_ne.mpr c3; have c3b1 : ((l0.length : Int) != (l1.length : Int)) = true := bne_iff_ne.mpr c3
  have c3b2 : (l0.length == l1.length) = false := by first | simpa using c3 | (simp at c3 ⊢; omega)
  obtain rfl := Option.some.inj H
  go_enter Try.func112, Try.ntmps112
  go_wp2
  repeat (go_quiet (fail); try go_wp2)
  go_ret
  exact ⟨zF, by repeat (first | exact Drawn0.refl _ | apply Drawn0.step)⟩

end
end Go.Proofs.Ytimjblgepbhoaaa.PStays

