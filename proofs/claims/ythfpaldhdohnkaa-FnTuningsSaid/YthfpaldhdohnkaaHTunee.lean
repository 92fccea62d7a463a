import Derived.Test.YthfpaldhdohnkaaHTune0
import Derived.Test.YthfpaldhdohnkaaHTuneb
import Derived.Test.YthfpaldhdohnkaaHTunec
namespace Go.Proofs.Ythfpaldhdohnkaa.PTune
noncomputable section
open Go.RowKit Go.Proofs.YthfpaldhdohnkaaW.PrintWords Go.Proofs.YthfpaldhdohnkaaW.PrintLast Go.Proofs.YthfpaldhdohnkaaW.PrintMore
attribute [local go_sem] max2_int min2_int max_two min_two max_three min_three max_four min_four   -- for this text's walks alone
set_option linter.unusedVariables false
set_option linter.unusedSimpArgs false
set_option maxHeartbeats 8000000
set_option maxRecDepth 100000

def impl_FirstLoose.l0 : Nat → List Int → Int → Int → Option (Int × Int)
 | 0, _, _, _ => none
 | k + 1, x17, x18, x19 => if x19 < x18 then (if 0 ≤ x19 then (if x19 < (x17.length : Int) then (if (rd x17 x19) ≤ 0 then (some (x19, 0)) else (impl_FirstLoose.l0 k x17 x18 (wrap64 (x19 + 1)))) else (none)) else (none)) else (some (0, 3))
def impl_FirstLoose.f (k : Nat) (l0_0 : List Int) (l0_1 : List (List Int)) (l1 : List Int) : Option (Int × Int) := (impl_turnsCode.f k l0_0 l0_1 l1).bind fun t233 => (if t233 = 0 then ((impl_tensionsAfter.f k l0_0 l0_1 l1).bind fun t234 => (impl_FirstLoose.l0 k t234 (t234.length : Int) 0)) else (some (0, t233)))
theorem impl_FirstLoose.calls (k : Nat) (A0_0 : Option Addr) (c0_0 : Nat) (l0_0 : List Int) (A0_1 : Option Addr) (c0_1 : Nat) (l0_1 : List (List Int)) (A1 : Option Addr) (c1 : Nat) (l1 : List Int) (r1 : Int) (r2 : Int) (w : World) (hr0_0 : Kd.C (Kd.int .i64) w A0_0 l0_0.length l0_0) (hc0_0 : l0_0.length ≤ c0_0) (hr0_1 : Kd.C (Kd.slice 2 (Kd.int .i64)) w A0_1 l0_1.length l0_1) (hc0_1 : l0_1.length ≤ c0_1) (hr1 : Kd.C (Kd.int .i64) w A1 l1.length l1) (hc1 : l1.length ≤ c1) (h : impl_FirstLoose.f k l0_0 l0_1 l1 = some (r1, r2)) :
  Calls Try.prog 21 #[.agg #[.slice A0_0 l0_0.length c0_0, .slice A0_1 l0_1.length c0_1], .slice A1 l1.length c1] w fun e w' => e = .returned (.tuple #[.int .i64 r1, .int .i64 r2]) ∧ Below w.heap.size w w' := by
 have hu27 := Try.underlying27
 have HR0_0 := zQ hr0_0
 have HC0_0 := zQ hc0_0
 clear hr0_0 hc0_0
 have HR0_1 := zQ hr0_1
 have HC0_1 := zQ hc0_1
 clear hr0_1 hc0_1
 have HR1 := zQ hr1
 have HC1 := zQ hc1
 clear hr1 hc1
 have HB := zQ (Below.refl w.heap.size w)
 have H := h; unfold impl_FirstLoose.f at H
 clear h
 replace H := zob H; obtain ⟨t233, A3, H⟩ := H
 by_cases c4 : t233 = 0
 ·rw [if_pos c4] at H
  have c4b0 : (t233 == 0) = true := beq_iff_eq.mpr c4; have c4b1 : (t233 != 0) = false := bne_eq_false_iff_eq.mpr c4; clear c4; replace H := zob H; obtain ⟨t234, A5, H⟩ := H; have H' := zQ H; clear H
  go_enter Try.func21, Try.ntmps21
  go_wp2_with (first | ((with_reducible refine zd 2 ?_); refine zbx (N := 2) (cs := #[.slice A0_0 l0_0.length c0_0, .slice A0_1 l0_1.length c0_1]) (t := 27) ?_; intro gb232 hg w6 hbox hb; have BK232 := zQ (hbox); have GW232 := zgz hg HB.out; have GE232 := GW232; replace HB := zbs HB.out hb; clear hb hbox hg; obtain ⟨hcz7_0, hcz7_1, hfz7_0, hfz7_1⟩ := zy2 BK232.out) | ((with_reducible refine zgc 49 ?_); refine zgo (some 11) Try.func49 #[.agg #[.slice A0_0 l0_0.length c0_0, .slice A0_1 l0_1.length c0_1], .slice A1 l1.length c1] ?_; (with_reducible refine (impl_turnsCode.calls k _ _ l0_0 _ _ l0_1 _ _ l1 t233 _ (zC HR0_0.out HB.out) HC0_0.out (zC HR0_1.out HB.out) HC0_1.out (zC HR1.out HB.out) HC1.out A3.out).mono ?_); rintro e w8 ⟨rfl, hb⟩; refine ⟨_, rfl, ?_⟩; replace BK232 := zbl BK232.out hb; replace HB := zbs2 HB.out GE232.out hb; (try clear hb); obtain ⟨hcz9_0, hcz9_1, hfz9_0, hfz9_1⟩ := zy2 BK232.out) | ((with_reducible refine zgc 50 ?_); refine zgo (some 17) Try.func50 #[.agg #[.slice A0_0 l0_0.length c0_0, .slice A0_1 l0_1.length c0_1], .slice A1 l1.length c1] ?_; (with_reducible refine (impl_tensionsAfter.calls k _ _ l0_0 _ _ l0_1 _ _ l1 t234 _ (zC HR0_0.out HB.out) HC0_0.out (zC HR0_1.out HB.out) HC0_1.out (zC HR1.out HB.out) HC1.out A5.out).mono ?_); rintro e w10 ⟨v235, rfl, ho0, hb⟩; refine ⟨_, rfl, ?_⟩; have HO236 := zQ (Kd.R_lower ho0 (below_size (zB2 HB.out GE232.out))); replace BK232 := zbl BK232.out hb; replace HB := zbs2 HB.out GE232.out hb; (try clear hb); (try clear ho0); obtain ⟨Ao11, co11, eo11⟩ := Kd.R_slice HO236.out; subst eo11))
  go_loopg [19] k (fun kq v19 w' => ∃ (x19_1 : Int), v19 = .int .i64 x19_1 ∧ Aside0 (impl_FirstLoose.l0 kq t234 (t234.length : Int) x19_1 = some (r1, r2)) ∧ Aside0 (kq ≤ k) ∧ Aside0 (Kd.R (Kd.int .i64) 2 w' w.heap.size (fun _ => True) (.slice Ao11 t234.length co11) t234) ∧ Aside0 (w'.heap[gb232]? = some (.cells #[(.slice A0_0 l0_0.length c0_0), (.slice A0_1 l0_1.length c0_1)] 27 (0, 0))) ∧ Aside0 (Below w.heap.size w w'))
  case atStart => exact ⟨(0), (zF), H', ⟨Nat.le_refl _⟩, ⟨zR HO236.out⟩, ⟨zb BK232.out⟩, ⟨zB2 HB.out GE232.out⟩⟩
  case round =>
   clear H'; (try clear c1); (try clear c2); (try clear p2); (try clear c4); (try clear c4b0); (try clear c4b1); (try clear c5); (try clear hcz7_0 hcz7_1 hfz7_0 hfz7_1); (try clear hcz9_0 hcz9_1 hfz9_0 hfz9_1); obtain ⟨x19_1, rfl, HA, HK1, HO_17, BK232, HB⟩ := hrel
   cases gk with
   | zero => exact absurd HA.out (by simp [impl_FirstLoose.l0])
   | succ k1 =>
    have H := HA.out; clear HA
    simp only [impl_FirstLoose.l0] at H
    by_cases c12 : x19_1 < (t234.length : Int)
    ·rw [if_pos c12] at H
     have c12b0 := decide_eq_true c12; clear c12
     by_cases c13 : 0 ≤ x19_1
     ·rw [if_pos c13] at H
      have c13b0 := decide_eq_true c13; clear c13
      by_cases c14 : x19_1 < (t234.length : Int)
      ·rw [if_pos c14] at H
       have c14b0 := decide_eq_true c14; clear c14
       by_cases c15 : (rd t234 x19_1) ≤ 0
       ·rw [if_pos c15] at H
        have c15b0 := decide_eq_true c15; clear c15
        simp only [Option.some.injEq, Prod.mk.injEq] at H
        obtain ⟨rfl, rfl⟩ := H; have p237 : 0 ≤ (x19_1 : Int) := zD; have q237 : x19_1 < (t234.length : Int) := zD; obtain ⟨ad237, e237, hx237_0⟩ := Kd.at_int (Kd.R_reads' HO_17.out).2.2 x19_1 p237 q237
        cases e237
        replace p237 := eq_true p237; replace q237 := eq_true q237
        go_wp2
        go_ret2
        exact ⟨zE, zB2 HB.out GE232.out⟩
       ·rw [if_neg c15] at H
        have c15b0 := decide_eq_false c15; clear c15; have H' := zQ H; clear H; have p237 : 0 ≤ (x19_1 : Int) := zD; have q237 : x19_1 < (t234.length : Int) := zD; obtain ⟨ad237, e237, hx237_0⟩ := Kd.at_int (Kd.R_reads' HO_17.out).2.2 x19_1 p237 q237
        cases e237
        replace p237 := eq_true p237; replace q237 := eq_true q237
        go_wp2
        go_roundg k1
        case measure => have := HK1.out; omega
        case rel => exact ⟨(wrap64 (x19_1 + 1)), (zF), H', ⟨by have := HK1.out; omega⟩, ⟨zR HO_17.out⟩, ⟨zb BK232.out⟩, ⟨zB2 HB.out GE232.out⟩⟩
      ·rw [if_neg c14] at H
       exact absurd H (by simp)
     ·rw [if_neg c13] at H
      exact absurd H (by simp)
    ·rw [if_neg c12] at H
     have c12b0 := decide_eq_false c12; clear c12
     simp only [Option.some.injEq, Prod.mk.injEq] at H
     obtain ⟨rfl, rfl⟩ := H
     go_wp2
     go_ret2
     exact ⟨zE, zB2 HB.out GE232.out⟩
 ·rw [if_neg c4] at H
  have c4b0 : (t233 == 0) = false := beq_eq_false_iff_ne.mpr c4; have c4b1 : (t233 != 0) = true := bne_iff_ne.mpr c4
  simp only [Option.some.injEq, Prod.mk.injEq] at H
  obtain ⟨rfl, rfl⟩ := H
  go_enter Try.func21, Try.ntmps21
  go_wp2_with (first | ((with_reducible refine zd 2 ?_); refine zbx (N := 2) (cs := #[.slice A0_0 l0_0.length c0_0, .slice A0_1 l0_1.length c0_1]) (t := 27) ?_; intro gb232 hg w16 hbox hb; have BK232 := zQ (hbox); have GW232 := zgz hg HB.out; have GE232 := GW232; replace HB := zbs HB.out hb; clear hb hbox hg; obtain ⟨hcz17_0, hcz17_1, hfz17_0, hfz17_1⟩ := zy2 BK232.out) | ((with_reducible refine zgc 49 ?_); refine zgo (some 11) Try.func49 #[.agg #[.slice A0_0 l0_0.length c0_0, .slice A0_1 l0_1.length c0_1], .slice A1 l1.length c1] ?_; (with_reducible refine (impl_turnsCode.calls k _ _ l0_0 _ _ l0_1 _ _ l1 t233 _ (zC HR0_0.out HB.out) HC0_0.out (zC HR0_1.out HB.out) HC0_1.out (zC HR1.out HB.out) HC1.out A3.out).mono ?_); rintro e w18 ⟨rfl, hb⟩; refine ⟨_, rfl, ?_⟩; replace BK232 := zbl BK232.out hb; replace HB := zbs2 HB.out GE232.out hb; (try clear hb)))
  go_ret2
  exact ⟨zE, zB2 HB.out GE232.out⟩

def laws_a2Same.l0 : Nat → List Int → List Int → Int → Option (Bool)
 | 0, _, _, _ => none
 | k + 1, x0, x1, x5 => if x5 < (x0.length : Int) then (if 0 ≤ x5 then (if x5 < (x1.length : Int) then (if (rd x0 x5) = (rd x1 x5) then (laws_a2Same.l0 k x0 x1 (wrap64 (x5 + 1))) else (some false)) else (none)) else (none)) else (some true)
def laws_a2Same.f (k : Nat) (l0 : List Int) (l1 : List Int) : Option (Bool) := if (l0.length : Int) = (l1.length : Int) then (laws_a2Same.l0 k l0 l1 0) else (some false)
theorem laws_a2Same.calls (k : Nat) (A0 : Option Addr) (c0 : Nat) (l0 : List Int) (A1 : Option Addr) (c1 : Nat) (l1 : List Int) (r : Bool) (w : World) (hr0 : Kd.C (Kd.int .i64) w A0 l0.length l0) (hc0 : l0.length ≤ c0) (hr1 : Kd.C (Kd.int .i64) w A1 l1.length l1) (hc1 : l1.length ≤ c1) (h : laws_a2Same.f k l0 l1 = some r) :
  Calls Try.prog 22 #[.slice A0 l0.length c0, .slice A1 l1.length c1] w fun e w' => e = .returned (.bool r) ∧ Drawn0 w w' := by
 have HR0 := zQ hr0
 have HC0 := zQ hc0
 clear hr0 hc0
 have HR1 := zQ hr1
 have HC1 := zQ hc1
 clear hr1 hc1
 have H := h; unfold laws_a2Same.f at H
 clear h
 by_cases c3 : (l0.length : Int) = (l1.length : Int)
 ·rw [if_pos c3] at H
  have c3b0 : ((l0.length : Int) == (l1.length : Int)) = true := beq_iff_eq.mpr c3; have c3b1 : ((l0.length : Int) != (l1.length : Int)) = false := bne_eq_false_iff_eq.mpr c3
  have c3b2 : (l0.length == l1.length) = true := by first | simpa using c3 | (simp at c3 ⊢; omega)
  clear c3; have H' := zQ H; clear H
  go_enter Try.func22, Try.ntmps22
  go_wp2
  repeat (go_quiet (fail); try go_wp2)
  go_loopg [5] k (fun kq v5 w' => ∃ (x5_1 : Int), v5 = .int .i64 x5_1 ∧ Aside0 (laws_a2Same.l0 kq l0 l1 x5_1 = some r) ∧ Aside0 (kq ≤ k) ∧ Drawn0 w w')
  case atStart => exact ⟨(0), (zF), H', ⟨Nat.le_refl _⟩, by repeat (first | exact Drawn0.refl _ | apply Drawn0.step)⟩
  case round =>
   clear H'; (try clear c1); (try clear c2); (try clear p2); (try clear c3); (try clear c3b0); (try clear c3b1); (try clear c3b2); obtain ⟨x5_1, rfl, HA, HK1, ⟨m1, rfl⟩⟩ := hrel
   cases gk with
   | zero => exact absurd HA.out (by simp [laws_a2Same.l0])
   | succ k1 =>
    have H := HA.out; clear HA
    simp only [laws_a2Same.l0] at H
    by_cases c4 : x5_1 < (l0.length : Int)
    ·rw [if_pos c4] at H
     have c4b0 := decide_eq_true c4; clear c4
     by_cases c5 : 0 ≤ x5_1
     ·rw [if_pos c5] at H
      have c5b0 := decide_eq_true c5; clear c5
      by_cases c6 : x5_1 < (l1.length : Int)
      ·rw [if_pos c6] at H
       have c6b0 := decide_eq_true c6; clear c6
       by_cases c7 : (rd l0 x5_1) = (rd l1 x5_1)
       ·rw [if_pos c7] at H
        have c7b0 : ((rd l0 x5_1) == (rd l1 x5_1)) = true := beq_iff_eq.mpr c7; have c7b1 : ((rd l0 x5_1) != (rd l1 x5_1)) = false := bne_eq_false_iff_eq.mpr c7; clear c7; have H' := zQ H; clear H; have p238 : 0 ≤ (x5_1 : Int) := zD; have q238 : x5_1 < (l0.length : Int) := zD; obtain ⟨ad238, e238, hx238_0⟩ := Kd.at_int HR0.out x5_1 p238 q238
        cases e238
        replace p238 := eq_true p238; replace q238 := eq_true q238; have p239 : 0 ≤ (x5_1 : Int) := zD; have q239 : x5_1 < (l1.length : Int) := zD; obtain ⟨ad239, e239, hx239_0⟩ := Kd.at_int HR1.out x5_1 p239 q239
        cases e239
        replace p239 := eq_true p239; replace q239 := eq_true q239
        go_wp2
        repeat (go_quiet (fail); try go_wp2)
        go_roundg k1
        case measure => have := HK1.out; omega
        case rel => exact ⟨(wrap64 (x5_1 + 1)), (zF), H', ⟨by have := HK1.out; omega⟩, by repeat (first | exact Drawn0.refl _ | apply Drawn0.step)⟩
       ·rw [if_neg c7] at H
        have c7b0 : ((rd l0 x5_1) == (rd l1 x5_1)) = false := beq_eq_false_iff_ne.mpr c7; have c7b1 : ((rd l0 x5_1) != (rd l1 x5_1)) = true := bne_iff_ne.mpr c7; obtain rfl := Option.some.inj H; have p238 : 0 ≤ (x5_1 : Int) := zD; have q238 : x5_1 < (l0.length : Int) := zD; obtain ⟨ad238, e238, hx238_0⟩ := Kd.at_int HR0.out x5_1 p238 q238
        cases e238
        replace p238 := eq_true p238; replace q238 := eq_true q238; have p239 : 0 ≤ (x5_1 : Int) := zD; have q239 : x5_1 < (l1.length : Int) := zD; obtain ⟨ad239, e239, hx239_0⟩ := Kd.at_int HR1.out x5_1 p239 q239
        cases e239
        replace p239 := eq_true p239; replace q239 := eq_true q239
        go_wp2
        repeat (go_quiet (fail); try go_wp2)
        go_ret
        exact ⟨zF, by repeat (first | exact Drawn0.refl _ | apply Drawn0.step)⟩
      ·rw [if_neg c6] at H
       exact absurd H (by simp)
     ·rw [if_neg c5] at H
      exact absurd H (by simp)
    ·rw [if_neg c4] at H
     have c4b0 := decide_eq_false c4; clear c4; obtain rfl := Option.some.inj H
     go_wp2
     repeat (go_quiet (fail); try go_wp2)
     go_ret
     exact ⟨zF, by repeat (first | exact Drawn0.refl _ | apply Drawn0.step)⟩
 ·rw [if_neg c3] at H
  have c3b0 : ((l0.length : Int) == (l1.length : Int)) = false := beq_eq_false_iff_ne.mpr c3; have c3b1 : ((l0.length : Int) != (l1.length : Int)) = true := bne_iff_ne.mpr c3
  have c3b2 : (l0.length == l1.length) = false := by first | simpa using c3 | (simp at c3 ⊢; omega)
  obtain rfl := Option.some.inj H
  go_enter Try.func22, Try.ntmps22
  go_wp2
  repeat (go_quiet (fail); try go_wp2)
  go_ret
  exact ⟨zF, by repeat (first | exact Drawn0.refl _ | apply Drawn0.step)⟩

structure FillW (w0 : World) (N : Nat) (cl : Value) (gn gc gt gf gr n cp : Nat) (ts : List Int) (w : World) : Prop where
 bn : w.heap[gn]? = some (.cells #[.int .i64 (n : Int)] 3 (0, 0))
 bc : w.heap[gc]? = some (.cells #[cl] 63 (0, 0))
 bt : w.heap[gt]? = some (.cells #[.slice (some ⟨gr, 0, none⟩) n cp] 24 (0, 0))
 bf : w.heap[gf]? = some (.cells #[.func (.func 76) #[] #[.pointer (some ⟨gn, 0, none⟩), .pointer (some ⟨gc, 0, none⟩), .pointer (some ⟨gt, 0, none⟩), .pointer (some ⟨gf, 0, none⟩)]] 80 (0, 0))
 len : ts.length = n
 row : Kd.R (Kd.int .i64) 2 w w0.heap.size (fun k => k = gr) (.slice (some ⟨gr, 0, none⟩) n cp) ts
 bel : Below w0.heap.size w0 w
 big : N ≤ w.heap.size
def fills {S : Type} (step : S → List Int → S) : Nat → S → List Int → S
 | 0, s, pre => step s pre
 | m + 1, s, pre => (List.range 13).foldl (fun s (j : Nat) => fills step m s (pre ++ [(j : Int) - 6])) s
theorem foldl_range {S : Type} (f : S → Nat → S) (s : S) (j : Nat) : (List.range (j + 1)).foldl f s = f ((List.range j).foldl f s) j := by rw [List.range_succ, List.foldl_append]; rfl
theorem FillW.step {w0 w w1 : World} {N : Nat} {cl : Value} {gn gc gt gf gr n cp : Nat} {ts : List Int} (h : FillW w0 N cl gn gc gt gf gr n cp ts w) (hn : gn ≠ gr ∧ gc ≠ gr ∧ gt ≠ gr ∧ gf ≠ gr) {i : Nat} {x : Int} (hb : w0.heap.size ≤ gr)
  (hw : w1 = w.setCell ⟨gr, i, none⟩ (.int .i64 x)) : FillW w0 N cl gn gc gt gf gr n cp (ts.set i x) w1 ∧ Kept w w1 (fun k => k = gr) := by
 subst hw
 have hk : Kept w (w.setCell ⟨gr, i, none⟩ (.int .i64 x)) (fun k => k = gr) := Kept.setCell (S := fun k => k = gr) (p := ⟨gr, i, none⟩) (Kept.refl w _) (.inl rfl) _
 refine ⟨⟨blk_kept h.bn hk hn.1, blk_kept h.bc hk hn.2.1, blk_kept h.bt hk hn.2.2.1, blk_kept h.bf hk hn.2.2.2, by rw [List.length_set]; exact h.len, ?_, below_set h.bel hb, Nat.le_trans h.big hk.1⟩, hk⟩
 have := (Kd.R_putg h.row (i : Int) x).1
 rwa [Int.toNat_natCast] at this
theorem take_set_next {ts : List Int} {i : Nat} (h : i < ts.length) (x : Int) : (ts.set i x).take (i + 1) = ts.take i ++ [x] := by
 rw [List.take_succ_eq_append_getElem (by rw [List.length_set]; exact h)]
 have e : List.take i (ts.set i x) = List.take i ts := by
  apply List.ext_getElem
  ·simp
  ·intro q h1 h2
   rw [List.getElem_take, List.getElem_take, List.getElem_set_ne]; rw [List.length_take] at h2
   omega
 rw [e]
 simp
theorem take_take_eq {a b : List Int} {i : Nat} (h : a.take (i + 1) = b.take (i + 1)) : a.take i = b.take i := by
 have := congrArg (List.take i) h
 rwa [List.take_take, List.take_take, Nat.min_eq_left (by omega)] at this
theorem FillW.keep {w0 w w1 : World} {M : Nat} {cl : Value} {gn gc gt gf gr n cp N : Nat} {ts : List Int} (h : FillW w0 M cl gn gc gt gf gr n cp ts w) (hn : N ≤ gn ∧ N ≤ gc ∧ N ≤ gt ∧ N ≤ gf ∧ N ≤ gr) (hb : Below w0.heap.size w0 w1) (hk : Kept w w1 (fun k => k < N)) : FillW w0 M cl gn gc gt gf gr n cp ts w1 :=
 ⟨blk_kept h.bn hk (fun h_ => by omega), blk_kept h.bc hk (fun h_ => by omega), blk_kept h.bt hk (fun h_ => by omega), blk_kept h.bf hk (fun h_ => by omega), h.len, Kd.R_kept h.row hk (fun k h1 h2 => by omega), hb, Nat.le_trans h.big hk.1⟩
theorem R_some {α : Type} {d : Kd α} {e : Nat} {W : World} {base : Nat} {ok : Nat → Prop} {A : Option Addr} {n c : Nat} {xs : List α} (h : d.R e W base ok (.slice A n c) xs) (h1 : 0 < n) : ∃ g, A = some ⟨g, 0, none⟩ := by
 obtain ⟨h0, inner, ho, hr⟩ := h
 rcases ho.2 with ⟨hv, h2⟩ | ⟨g, cap', cur, hv, _⟩
 ·injection hv with _ hn _; omega
 ·injection hv with ha _ _; exact ⟨g, ha⟩
open Classical in
noncomputable def theOf {α : Type} (z : α) (g : Nat → Option α) : α := if h : ∃ r, ∃ k, g k = some r then h.choose else z
theorem leO_le {α : Type} {g : Nat → Option α} (hm : ∀ k, LeO (g k) (g (k + 1))) {r : α} {k : Nat} (h : g k = some r) : ∀ d, g (k + d) = some r
 | 0 => h
 | d + 1 => hm (k + d) r (leO_le hm h d)
theorem theOf_eq {α : Type} {z : α} {g : Nat → Option α} (hm : ∀ k, LeO (g k) (g (k + 1))) {r : α} (h : ∃ k, g k = some r) : theOf z g = r := by
 unfold theOf
 rw [dif_pos ⟨r, h⟩]
 obtain ⟨k', h'⟩ := (⟨r, h⟩ : ∃ r, ∃ k, g k = some r).choose_spec
 obtain ⟨k, h⟩ := h
 have e1 := leO_le hm h k'
 have e2 := leO_le hm h' k
 rw [Nat.add_comm] at e2
 rw [e2] at e1
 exact Option.some.inj e1
theorem fill_callsN {S : Type} (step : S → List Int → S) (J : S → World → Prop) (w0 : World) (N : Nat) (q0 q1 q2 q3 q4 : Nat) (gn gc gt gf gr n cp : Nat) (hn6 : n ≤ 1048576)
  (hne : gn ≠ gr ∧ gc ≠ gr ∧ gt ≠ gr ∧ gf ≠ gr) (hb : w0.heap.size ≤ gr)
  (hJ : ∀ s w w', J s w → Kept w w' (fun k => k = gr) → J s w')
  (hJd : ∀ s w m, J s w → J s (w.drewN m))
  (hcall : ∀ s ts w, FillW w0 N (.func (.func 56) #[] #[.pointer (some ⟨q0, 0, none⟩), .pointer (some ⟨q1, 0, none⟩), .pointer (some ⟨q2, 0, none⟩), .pointer (some ⟨q3, 0, none⟩), .pointer (some ⟨q4, 0, none⟩)]) gn gc gt gf gr n cp ts w → J s w → Calls Try.prog 56 #[.slice (some ⟨gr, 0, none⟩) n cp, .pointer (some ⟨q0, 0, none⟩), .pointer (some ⟨q1, 0, none⟩), .pointer (some ⟨q2, 0, none⟩), .pointer (some ⟨q3, 0, none⟩), .pointer (some ⟨q4, 0, none⟩)] w fun e w' => e = .returned (.tuple #[]) ∧ FillW w0 N (.func (.func 56) #[] #[.pointer (some ⟨q0, 0, none⟩), .pointer (some ⟨q1, 0, none⟩), .pointer (some ⟨q2, 0, none⟩), .pointer (some ⟨q3, 0, none⟩), .pointer (some ⟨q4, 0, none⟩)]) gn gc gt gf gr n cp ts w' ∧ J (step s ts) w') :
  ∀ (m i : Nat) (s : S) (ts : List Int) (w : World), n - i = m → i ≤ n → FillW w0 N (.func (.func 56) #[] #[.pointer (some ⟨q0, 0, none⟩), .pointer (some ⟨q1, 0, none⟩), .pointer (some ⟨q2, 0, none⟩), .pointer (some ⟨q3, 0, none⟩), .pointer (some ⟨q4, 0, none⟩)]) gn gc gt gf gr n cp ts w → J s w →
  Calls Try.prog 76 #[.int .i64 (i : Int), .pointer (some ⟨gn, 0, none⟩), .pointer (some ⟨gc, 0, none⟩), .pointer (some ⟨gt, 0, none⟩), .pointer (some ⟨gf, 0, none⟩)] w fun e w' =>
   e = .returned (.tuple #[]) ∧ ∃ ts', FillW w0 N (.func (.func 56) #[] #[.pointer (some ⟨q0, 0, none⟩), .pointer (some ⟨q1, 0, none⟩), .pointer (some ⟨q2, 0, none⟩), .pointer (some ⟨q3, 0, none⟩), .pointer (some ⟨q4, 0, none⟩)]) gn gc gt gf gr n cp ts' w' ∧ ts'.take i = ts.take i ∧ J (fills step m s (ts.take i)) w' := by
 intro m
 induction m with
 | zero =>
  intro i s ts w h1 h2 hF hs
  obtain rfl : i = n := by omega
  have hc := hcall s ts w hF hs; have cn : w.cell? ⟨gn, 0, none⟩ = some (.int .i64 (i : Int)) := (blk_cell hF.bn 0).trans rfl; have cc : w.cell? ⟨gc, 0, none⟩ = some (.func (.func 56) #[] #[.pointer (some ⟨q0, 0, none⟩), .pointer (some ⟨q1, 0, none⟩), .pointer (some ⟨q2, 0, none⟩), .pointer (some ⟨q3, 0, none⟩), .pointer (some ⟨q4, 0, none⟩)]) := (blk_cell hF.bc 0).trans rfl; have ct : w.cell? ⟨gt, 0, none⟩ = some (.slice (some ⟨gr, 0, none⟩) i cp) := (blk_cell hF.bt 0).trans rfl; have HF := zQ hF; have hee : ((i : Int) == (i : Int)) = true := beq_self_eq_true _; have HC := zQ hc; clear hc hF hcall hJ hJd
  have htl : ts.take i = ts := by rw [← HF.out.len]; exact List.take_length
  go_enter Try.func76, Try.ntmps76
  go_wp2_with (first | (go_at_call 56; refine (HC.out).mono ?_; rintro e w1 ⟨rfl, hF1, hJ1⟩))
  first | go_end0 | (simp only [Exit.inBlock, Exit.then]; refine bodyPost_ret (results_none rfl _ _ _) rfl ?_) | refine bodyPost_ret (results_none rfl _ _ _) rfl ?_
  exact ⟨by first | rfl | (simp; done), ts, hF1, rfl, by rw [htl]; exact hJ1⟩
 | succ m ih =>
  intro i s ts w h1 h2 hF hs
  have hlt : i < n := by omega
  have HF := zQ hF; have HS := zQ hs; have IH := zQ ih; have HJ := zQ hJ; have HJD := zQ hJd; have cn : w.cell? ⟨gn, 0, none⟩ = some (.int .i64 (n : Int)) := (blk_cell hF.bn 0).trans rfl
  have hee : ((i : Int) == (n : Int)) = false := by rw [beq_eq_false_iff_ne]; omega
  clear hF hs ih hJ hJd hcall
  go_enter Try.func76, Try.ntmps76
  go_wp2
  go_loopw [6] (fun v6 wr => ∃ (j : Nat) (ts' : List Int), v6 = .int .i64 ((j : Int) - 6) ∧ j ≤ 13 ∧ FillW w0 N (.func (.func 56) #[] #[.pointer (some ⟨q0, 0, none⟩), .pointer (some ⟨q1, 0, none⟩), .pointer (some ⟨q2, 0, none⟩), .pointer (some ⟨q3, 0, none⟩), .pointer (some ⟨q4, 0, none⟩)]) gn gc gt gf gr n cp ts' wr ∧ ts'.take i = ts.take i ∧ J ((List.range j).foldl (fun s (j : Nat) => fills step m s (ts.take i ++ [(j : Int) - 6])) s) wr) (fun v6 _ => (7 - intOf v6).toNat)
  case atStart => exact ⟨0, ts, rfl, by omega, HF.out, rfl, HS.out⟩
  case round =>
   obtain ⟨j, ts', rfl, hj, hF', htk, hs'⟩ := hrel
   by_cases hc : j < 13
   ·have hcb : decide ((j : Int) - 6 ≤ 6) = true := decide_eq_true (by omega)
    have ct : wr.cell? ⟨gt, 0, none⟩ = some (.slice (some ⟨gr, 0, none⟩) n cp) := (blk_cell hF'.bt 0).trans rfl; obtain ⟨hx0, hf0⟩ := Kd.R_celln 0 hF'.row (i : Int) (by omega) (by omega); rw [Int.toNat_natCast] at hx0 hf0; have p5 : (0 ≤ (i : Int)) = True := eq_true (by omega); have q5 : ((i : Int) < (n : Int)) = True := eq_true (by omega); have HF' := zQ hF'; have HS' := zQ hs'
    have htl : i < ts'.length := by rw [hF'.len]; exact hlt
    clear hF' hs'
    go_wp2_with (first
     | ((with_reducible refine gate_store (t := 2) (p := 20) rfl ?_); refine store_event (t := 2) (p := 20) (v := ?vo_w8) (w1 := (wr.setCell ⟨gr, i, none⟩ (.int .i64 ((j : Int) - 6)))) ?hg ?ho ?hn ?hr ?_; (case ho => rfl); (case hg => rfl); (case hn => rfl); (case hr => first | (go_simp; done) | (go_simp; rfl)); intro w8 hw; have hst := FillW.step HF'.out hne hb hw; have HF8 := zQ hst.1; have HS8 := zQ (HJ.out _ _ _ HS'.out hst.2); have cf : w8.cell? ⟨gf, 0, none⟩ = some (.func (.func 76) #[] #[.pointer (some ⟨gn, 0, none⟩), .pointer (some ⟨gc, 0, none⟩), .pointer (some ⟨gt, 0, none⟩), .pointer (some ⟨gf, 0, none⟩)]) := (blk_cell HF8.out.bf 0).trans rfl; clear hst hw)
     | (go_at_call 76; refine calls_of_args (args' := #[.int .i64 ((i + 1 : Nat) : Int), .pointer (some ⟨gn, 0, none⟩), .pointer (some ⟨gc, 0, none⟩), .pointer (some ⟨gt, 0, none⟩), .pointer (some ⟨gf, 0, none⟩)]) (by first | rfl | simp) ?_; refine (IH.out (i + 1) _ _ _ (by omega) (by omega) HF8.out HS8.out).mono ?_; rintro e w9 ⟨rfl, ts9, hF9, ht9, hs9⟩))
    go_roundw
    case rel =>
     have ht9' : ts9.take (i + 1) = ts.take i ++ [(j : Int) - 6] := by rw [ht9, take_set_next htl, htk]
     refine ⟨j + 1, ts9, by first | rfl | (simp; omega) | (congr 1; omega), by omega, hF9, ?_, ?_⟩
     ·have := congrArg (List.take i) ht9'
      rw [List.take_take, Nat.min_eq_left (by omega), List.take_append_of_le_length (by rw [List.length_take]; have := HF.out.len; omega), List.take_take, Nat.min_self] at this
      exact this
     ·rw [foldl_range]
      have e : (ts'.set i ((j : Int) - 6)).take (i + 1) = ts.take i ++ [(j : Int) - 6] := by rw [take_set_next htl, htk]
      rw [e] at hs9
      exact hs9
    case measure => simp [intOf]; omega
   ·have hcb : decide ((j : Int) - 6 ≤ 6) = false := decide_eq_false (by omega)
    obtain rfl : j = 13 := by omega
    go_wp2
    first | go_end0 | (simp only [Exit.inBlock, Exit.then]; refine bodyPost_ret (results_none rfl _ _ _) rfl ?_) | refine bodyPost_ret (results_none rfl _ _ _) rfl ?_
    exact ⟨by first | rfl | (simp; done), ts', hF', htk, hs'⟩
theorem eachTurns_callsN {S : Type} (step : S → List Int → S) (J : Nat → S → World → Prop) (w0 wE : World) (q0 q1 q2 q3 q4 : Nat) (n : Nat) (hn1 : 1 ≤ n) (hn6 : n ≤ 1048576)
  (hB : Below w0.heap.size w0 wE)
  (hJ : ∀ N s w w' g, wE.heap.size ≤ g → g < N → J N s w → Kept w w' (fun k => k = g) → J N s w')
  (hJb : ∀ N s w w', J N s w → Below w.heap.size w w' → J N s w')
  (hJd : ∀ N s w m, J N s w → J N s (w.drewN m))
  (hcall : ∀ N s ts w gr cp, wE.heap.size ≤ gr → gr < N → N ≤ w.heap.size → ts.length = n → Below w0.heap.size w0 w → Kd.R (Kd.int .i64) 2 w w0.heap.size (fun k => k = gr) (.slice (some ⟨gr, 0, none⟩) n cp) ts → J N s w → Calls Try.prog 56 #[.slice (some ⟨gr, 0, none⟩) n cp, .pointer (some ⟨q0, 0, none⟩), .pointer (some ⟨q1, 0, none⟩), .pointer (some ⟨q2, 0, none⟩), .pointer (some ⟨q3, 0, none⟩), .pointer (some ⟨q4, 0, none⟩)] w fun e w' => e = .returned (.tuple #[]) ∧ J N (step s ts) w' ∧ Below w0.heap.size w0 w' ∧ Kept w w' (fun k => k < wE.heap.size))
  (s0 : S) (hs0 : ∀ N, J N s0 wE) :
  Calls Try.prog 55 #[.int .i64 (n : Int), .func (.func 56) #[] #[.pointer (some ⟨q0, 0, none⟩), .pointer (some ⟨q1, 0, none⟩), .pointer (some ⟨q2, 0, none⟩), .pointer (some ⟨q3, 0, none⟩), .pointer (some ⟨q4, 0, none⟩)]] wE fun e w' => e = .returned (.tuple #[]) ∧ (∃ N, J N (fills step n s0 []) w') ∧ Below w0.heap.size w0 w' := by
 have HB := zQ hB
 have HS := zQ (fun (N : Nat) (_ : wE.heap.size ≤ N) => hs0 N)
 have HJB := zQ hJb
 have HJ := zQ hJ
 have HC := zQ hcall
 have hu24 := Try.underlying24
 have c0n : decide (0 ≤ (n : Int)) = true := decide_eq_true (by omega)
 clear hB hs0 hJ hJb hcall
 go_enter Try.func55, Try.ntmps55
 go_wp2_with (first
  | ((with_reducible refine zd 2 ?_); refine zbx (N := 2) (cs := #[.int .i64 (n : Int)]) (t := 3) ?_; intro g1 hg1 w1 hb1 hl1; have BN := zQ hb1; have HB1 := zQ (below_step HB.out hl1); have HS1 := zQ (fun (N : Nat) (hN : w1.heap.size ≤ N) => HJB.out _ _ _ _ (HS.out N (Nat.le_trans hl1.size hN)) hl1); have G1 := zQ (show wE.heap.size ≤ g1 from by rw [hg1]; exact Nat.le_refl _); have cn1 : w1.cell? ⟨g1, 0, none⟩ = some (.int .i64 (n : Int)) := (blk_cell hb1 0).trans rfl; clear hb1 hl1 hg1)
  | ((with_reducible refine zd 3 ?_); refine zbx (N := 3) (cs := #[.func (.func 56) #[] #[.pointer (some ⟨q0, 0, none⟩), .pointer (some ⟨q1, 0, none⟩), .pointer (some ⟨q2, 0, none⟩), .pointer (some ⟨q3, 0, none⟩), .pointer (some ⟨q4, 0, none⟩)]]) (t := 63) ?_; intro g2 hg2 w2 hb2 hl2; have BN2 := zQ (blk_below (g := g1) BN.out hl2); have BC2 := zQ hb2; have HB2 := zQ (below_step HB1.out hl2); have HS2 := zQ (fun (N : Nat) (hN : w2.heap.size ≤ N) => HJB.out _ _ _ _ (HS1.out N (Nat.le_trans hl2.size hN)) hl2); have G2 := zQ (show g1 < g2 from by rw [hg2]; exact blk_lt BN.out); have cn2 : w2.cell? ⟨g1, 0, none⟩ = some (.int .i64 (n : Int)) := (blk_cell BN2.out 0).trans rfl; clear hb2 hl2 hg2)
  | ((with_reducible refine zd 7 ?_); refine Kd.R_make (Kd.int .i64) _ 2 rfl (N := 7) rfl 24 _ _ rfl (n : Int) rfl rfl Try.underlying24 (.int .i64 0) 8 (by kernel_rfl) rfl (by decide) (by omega) 0 (ok := fun _ => True) (okp := fun _ => True) rfl (fun _ hk => hk) trivial (by omega) (by rw [Int.toNat_natCast]; omega) (Below.refl _ _) (Nat.le_refl _) ?_; intro v3 w3 ho3 hl3 hg_ hnew_; clear hg_ hnew_; rw [Int.toNat_natCast] at ho3; obtain ⟨A3, cp, ev3⟩ := Kd.R_slice ho3; rw [List.length_replicate] at ev3; subst ev3; obtain ⟨gr, eg3⟩ := R_some ho3 (by omega); subst eg3; have BN3 := zQ (blk_below (g := g1) BN2.out hl3); have BC3 := zQ (blk_below (g := g2) BC2.out hl3); have HB3 := zQ (below_step HB2.out hl3); have HS3 := zQ (fun (N : Nat) (hN : w3.heap.size ≤ N) => HJB.out _ _ _ _ (HS2.out N (Nat.le_trans hl3.size hN)) hl3); have GR := zQ (show g2 < gr from Nat.lt_of_lt_of_le (blk_lt BC2.out) (Kd.R_base ho3 gr rfl)); have LR := zQ (show gr < w3.heap.size from Kd.R_lt ho3 gr rfl); have HR3 := zQ (Kd.R_lower (Kd.R_mono (ok' := fun k => k = gr) (Kd.R_tight rfl ho3) (fun k hk => by simpa [Value.ownBlock] using hk)) (below_size HB2.out)); clear hl3 ho3)
  | ((with_reducible refine zd 4 ?_); refine zbx (N := 4) (cs := #[.slice none 0 0]) (t := 24) ?_; intro g4 hg4 w4 hb4 hl4; have BN4 := zQ (blk_below (g := g1) BN3.out hl4); have BC4 := zQ (blk_below (g := g2) BC3.out hl4); have BT4 := zQ hb4; have HB4 := zQ (below_step HB3.out hl4); have HS4 := zQ (fun (N : Nat) (hN : w4.heap.size ≤ N) => HJB.out _ _ _ _ (HS3.out N (Nat.le_trans hl4.size hN)) hl4); have HR4 := zQ (Kd.R_below HR3.out hl4); have G4 := zQ (show gr < g4 from by rw [hg4]; exact LR.out); have ct4 : w4.cell? ⟨g4, 0, none⟩ = some (.slice none 0 0) := (blk_cell hb4 0).trans rfl; have ft4 := zfz hb4 0; clear hb4 hl4 hg4)
  | ((with_reducible refine gate_store (t := 24) (p := 4) rfl ?_); refine store_event (t := 24) (p := 4) (v := ?vo_w5) (w1 := (w4.setCell ⟨g4, 0, none⟩ (.slice (some ⟨gr, 0, none⟩) n cp))) ?hg ?ho ?hn ?hr ?_; (case ho => rfl); (case hg => rfl); (case hn => rfl); (case hr => first | (go_simp; done) | (go_simp; rfl)); intro w5 hw5; have hk5 : Kept w4 w5 (fun k => k = g4) := (by rw [hw5]; exact Kept.setCell (S := fun k => k = g4) (p := ⟨g4, 0, none⟩) (Kept.refl _ _) (.inl rfl) _); have BN5 := zQ (blk_kept BN4.out hk5 (fun h_ => by have := G2.out; have := GR.out; have := G4.out; omega)); have BC5 := zQ (blk_kept BC4.out hk5 (fun h_ => by have := GR.out; have := G4.out; omega)); have BT5 := zQ (show w5.heap[g4]? = some (.cells #[.slice (some ⟨gr, 0, none⟩) n cp] 24 (0, 0)) from by rw [hw5]; exact blk_put (cs := #[.slice none 0 0]) BT4.out 0 _ rfl); have HB5 := zQ (show Below w0.heap.size w0 w5 from by rw [hw5]; exact below_set HB4.out (Nat.le_trans (below_size HB.out) (by have := G1.out; have := G2.out; have := GR.out; have := G4.out; show _ ≤ g4; omega))); have HS5 := zQ (fun (N : Nat) (hN : w5.heap.size ≤ N) => HJ.out _ _ _ _ g4 (by have := G1.out; have := G2.out; have := GR.out; have := G4.out; omega) (Nat.lt_of_lt_of_le (Nat.lt_of_lt_of_le (blk_lt BT4.out) hk5.1) hN) (HS4.out N (Nat.le_trans hk5.1 hN)) hk5); have HR5 := zQ (Kd.R_kept HR4.out hk5 (fun k h_ h2_ => by have := G4.out; omega)); clear hk5 hw5 ct4 ft4)
  | ((with_reducible refine zd 5 ?_); refine zbx (N := 5) (cs := #[.nilFunc]) (t := 80) ?_; intro g6 hg6 w6 hb6 hl6; have BN6 := zQ (blk_below (g := g1) BN5.out hl6); have BC6 := zQ (blk_below (g := g2) BC5.out hl6); have BT6 := zQ (blk_below (g := g4) BT5.out hl6); have BF6 := zQ hb6; have HB6 := zQ (below_step HB5.out hl6); have HS6 := zQ (fun (N : Nat) (hN : w6.heap.size ≤ N) => HJB.out _ _ _ _ (HS5.out N (Nat.le_trans hl6.size hN)) hl6); have HR6 := zQ (Kd.R_below HR5.out hl6); have G6 := zQ (show g4 < g6 from by rw [hg6]; exact blk_lt BT5.out); have ct6 : w6.cell? ⟨g6, 0, none⟩ = some .nilFunc := (blk_cell hb6 0).trans rfl; have ft6 := zfz hb6 0; clear hb6 hl6 hg6)
  | ((with_reducible refine gate_store (t := 80) (p := 5) rfl ?_); refine store_event (t := 80) (p := 5) (v := ?vo_w7) (w1 := (w6.setCell ⟨g6, 0, none⟩ (.func (.func 76) #[] #[.pointer (some ⟨g1, 0, none⟩), .pointer (some ⟨g2, 0, none⟩), .pointer (some ⟨g4, 0, none⟩), .pointer (some ⟨g6, 0, none⟩)]))) ?hg ?ho ?hn ?hr ?_; (case ho => rfl); (case hg => rfl); (case hn => rfl); (case hr => first | (go_simp; done) | (go_simp; rfl)); intro w7 hw7; have hk7 : Kept w6 w7 (fun k => k = g6) := (by rw [hw7]; exact Kept.setCell (S := fun k => k = g6) (p := ⟨g6, 0, none⟩) (Kept.refl _ _) (.inl rfl) _); have hgs : wE.heap.size ≤ g1 ∧ g1 < g2 ∧ g2 < gr ∧ gr < g4 ∧ g4 < g6 := ⟨G1.out, G2.out, GR.out, G4.out, G6.out⟩; have hsz := below_size HB.out; have BF7 : w7.heap[g6]? = some (.cells #[.func (.func 76) #[] #[.pointer (some ⟨g1, 0, none⟩), .pointer (some ⟨g2, 0, none⟩), .pointer (some ⟨g4, 0, none⟩), .pointer (some ⟨g6, 0, none⟩)]] 80 (0, 0)) := (by rw [hw7]; exact blk_put (cs := #[.nilFunc]) BF6.out 0 _ rfl); have HF7 := zQ (show FillW w0 w7.heap.size (.func (.func 56) #[] #[.pointer (some ⟨q0, 0, none⟩), .pointer (some ⟨q1, 0, none⟩), .pointer (some ⟨q2, 0, none⟩), .pointer (some ⟨q3, 0, none⟩), .pointer (some ⟨q4, 0, none⟩)]) g1 g2 g4 g6 gr n cp (List.replicate n 0) w7 from ⟨blk_kept BN6.out hk7 (fun h_ => by omega), blk_kept BC6.out hk7 (fun h_ => by omega), blk_kept BT6.out hk7 (fun h_ => by omega), BF7, List.length_replicate, Kd.R_kept HR6.out hk7 (fun k h_ h2_ => by omega), by rw [hw7]; exact below_set HB6.out (by show _ ≤ g6; omega), Nat.le_refl _⟩); have L7 := zQ (show g6 < w7.heap.size from blk_lt BF7); have HS7 := zQ (HJ.out w7.heap.size _ _ _ g6 (by omega) (blk_lt BF7) (HS6.out _ hk7.1) hk7); have cf7 : w7.cell? ⟨g6, 0, none⟩ = some (.func (.func 76) #[] #[.pointer (some ⟨g1, 0, none⟩), .pointer (some ⟨g2, 0, none⟩), .pointer (some ⟨g4, 0, none⟩), .pointer (some ⟨g6, 0, none⟩)]) := (blk_cell BF7 0).trans rfl; have HG := zQ hgs; have HZ := zQ hsz; clear hk7 hw7 ct6 ft6 BF7 hgs hsz)
  | (go_at_call 76; refine (fill_callsN step (J w7.heap.size) w0 w7.heap.size q0 q1 q2 q3 q4 g1 g2 g4 g6 gr n cp hn6 (by have := HG.out; omega) (by have := HG.out; have := HZ.out; omega) (fun s w w' h_ k_ => HJ.out _ s w w' gr (by have := HG.out; omega) (by have := HG.out; have := L7.out; omega) h_ k_) (hJd _) (fun s ts w hF_ hs_ => (HC.out _ s ts w gr cp (by have := HG.out; omega) (by have := HG.out; have := L7.out; omega) hF_.big hF_.len hF_.bel hF_.row hs_).mono (fun e w' h_ => ⟨h_.1, FillW.keep hF_ (by have := HG.out; omega) h_.2.2.1 h_.2.2.2, h_.2.1⟩)) n 0 s0 (List.replicate n 0) _ (by omega) (by omega) HF7.out HS7.out).mono ?_; rintro e w8 ⟨rfl, ts8, hF8, _, hs8⟩))
 first | go_end0 | (simp only [Exit.inBlock, Exit.then]; refine bodyPost_ret (results_none rfl _ _ _) rfl ?_) | refine bodyPost_ret (results_none rfl _ _ _) rfl ?_
 exact ⟨by first | rfl | (simp; done), ⟨_, hs8⟩, hF8.bel⟩
structure NdJ (w0 : World) (q0 q1 q2 q3 q4 : Nat) (A0 : Option Addr) (n0 c0 : Nat) (A1 : Option Addr) (n1 c1 : Nat) (Al : Option Addr) (nl cl : Nat) (Ah : Option Addr) (nh ch : Nat) (N : Nat) (s : Option (List Int × Int)) (w : World) : Prop where
 b0 : w.heap[q0]? = some (.cells #[.slice A0 n0 c0, .slice A1 n1 c1] 27 (0, 0))
 bl : w.heap[q1]? = some (.cells #[.slice Al nl cl] 24 (0, 0))
 bh : w.heap[q2]? = some (.cells #[.slice Ah nh ch] 24 (0, 0))
 rest : ∃ vb least, w.heap[q3]? = some (.cells #[vb] 24 (0, 0)) ∧ w.heap[q4]? = some (.cells #[.int .i64 least] 2 (0, 0)) ∧ (match s with | none => vb = .slice none 0 0 ∧ least = 0 | some p => least = p.2 ∧ 0 < p.1.length ∧ Kd.R (Kd.int .i64) 2 w w0.heap.size (fun k => N ≤ k) vb p.1)
theorem NdJ.kept {w0 w w' : World} {q0 q1 q2 q3 q4 : Nat} {A0 : Option Addr} {n0 c0 : Nat} {A1 : Option Addr} {n1 c1 : Nat} {Al : Option Addr} {nl cl : Nat} {Ah : Option Addr} {nh ch : Nat} {N : Nat} {s : Option (List Int × Int)} {S : Nat → Prop} (h : NdJ w0 q0 q1 q2 q3 q4 A0 n0 c0 A1 n1 c1 Al nl cl Ah nh ch N s w) (hk : Kept w w' S) (h0 : ¬ S q0) (h1 : ¬ S q1) (h2 : ¬ S q2) (h3 : ¬ S q3) (h4 : ¬ S q4) (hN : ∀ k, N ≤ k → ¬ S k) : NdJ w0 q0 q1 q2 q3 q4 A0 n0 c0 A1 n1 c1 Al nl cl Ah nh ch N s w' := by
 obtain ⟨vb, least, e1, e2, e3⟩ := h.rest
 refine ⟨blk_kept h.b0 hk h0, blk_kept h.bl hk h1, blk_kept h.bh hk h2, vb, least, blk_kept e1 hk h3, blk_kept e2 hk h4, ?_⟩
 cases s with
 | none => exact e3
 | some p => exact ⟨e3.1, e3.2.1, Kd.R_kept e3.2.2 hk hN⟩
def inB (a lo hi : List Int) : Nat → Nat → Bool
 | 0, _ => true
 | m + 1, q => (decide (lo.getD q 0 ≤ a.getD q 0) && decide (a.getD q 0 ≤ hi.getD q 0)) && inB a lo hi m (q + 1)
def stepB (s : Option (List Int × Int)) (tn : List Int) (ok : Bool) (sum : Int) : Option (List Int × Int) :=
 if ok = true ∧ (∀ p, s = some p → sum < p.2) then some (tn, sum) else s
attribute [local go_sem] Go.Lib.run_eql_slice_nil
theorem need1_calls (ts : List Int) (es : List (List Int)) (lo hi : List Int) (w0 w : World) (A0 A1 Al Ah : Option Addr) (c0 c1 cl ch : Nat) (hr0 : Kd.C (Kd.int .i64) w0 A0 ts.length ts) (hc0 : ts.length ≤ c0) (hr1 : Kd.C (Kd.slice 2 (Kd.int .i64)) w0 A1 es.length es) (hc1 : es.length ≤ c1) (hrl : Kd.C (Kd.int .i64) w0 Al lo.length lo) (hrh : Kd.C (Kd.int .i64) w0 Ah hi.length hi)
  (q0 q1 q2 q3 q4 z : Nat) (hz : w0.heap.size ≤ z) (hq : w0.heap.size ≤ q3 ∧ w0.heap.size ≤ q4 ∧ q0 < q3 ∧ q1 < q3 ∧ q2 < q3 ∧ q3 < q4 ∧ q4 < z) (N : Nat) (s : Option (List Int × Int)) (tn : List Int) (gr cp : Nat) (hgr : z ≤ gr) (hgN : gr < N) (hNw : N ≤ w.heap.size) (hB : Below w0.heap.size w0 w)
  (hR : Kd.R (Kd.int .i64) 2 w w0.heap.size (fun k => k = gr) (.slice (some ⟨gr, 0, none⟩) tn.length cp) tn) (hJ : NdJ w0 q0 q1 q2 q3 q4 A0 ts.length c0 A1 es.length c1 Al lo.length cl Ah hi.length ch N s w) (hn0 : 0 < tn.length) (hn6 : tn.length ≤ 1048576)
  (a : List Int) (sum : Int) (ka kl : Nat) (ha : impl_tensionsAfter.f ka ts es tn = some a) (hsum : impl_sizeOfTurns.f kl tn = some sum) (hal : a.length = lo.length) (hah : a.length = hi.length) (ha6 : a.length ≤ 1048576) :
  Calls Try.prog 56 #[.slice (some ⟨gr, 0, none⟩) tn.length cp, .pointer (some ⟨q0, 0, none⟩), .pointer (some ⟨q1, 0, none⟩), .pointer (some ⟨q2, 0, none⟩), .pointer (some ⟨q3, 0, none⟩), .pointer (some ⟨q4, 0, none⟩)] w fun e w' =>
   e = .returned (.tuple #[]) ∧ NdJ w0 q0 q1 q2 q3 q4 A0 ts.length c0 A1 es.length c1 Al lo.length cl Ah hi.length ch N (stepB s tn (inB a lo hi a.length 0) sum) w' ∧ Below w0.heap.size w0 w' ∧ Kept w w' (fun k => k < z) := by
 have hu24 := Try.underlying24
 have hu27 := Try.underlying27
 obtain ⟨vb, least, e1, e2, e3⟩ := hJ.rest
 have HJ := zQ hJ
 have B0 := zQ hJ.b0
 have BL := zQ hJ.bl
 have BH := zQ hJ.bh
 have B1 := zQ e1
 have B2 := zQ e2
 have E3 := zQ e3
 have HB := zQ hB
 have HR := zQ hR
 have HR0 := zQ hr0
 have HR1 := zQ hr1
 have HRL := zQ hrl
 have HRH := zQ hrh
 have HA := zQ ha
 have HS := zQ hsum
 have HN := zQ hNw
 have HQ := zQ hq
 have HAL := zQ hal
 have HAH := zQ hah
 have HA6 := zQ ha6
 have HCP := zQ (Kd.R_reads' hR)
 obtain ⟨OK, hOK⟩ : ∃ b, inB a lo hi a.length 0 = b := ⟨_, rfl⟩
 rw [hOK]
 have hcases : (OK = false ∧ stepB s tn OK sum = s) ∨ (OK = true ∧ s = none ∧ vb = .slice none 0 0 ∧ stepB s tn OK sum = some (tn, sum)) ∨ (∃ gb nb cb, OK = true ∧ vb = .slice (some ⟨gb, 0, none⟩) nb cb ∧ decide (sum < least) = true ∧ stepB s tn OK sum = some (tn, sum)) ∨ (∃ gb nb cb, OK = true ∧ vb = .slice (some ⟨gb, 0, none⟩) nb cb ∧ decide (sum < least) = false ∧ stepB s tn OK sum = s) := by
  have E := E3.out
  cases OK with
  | false => exact .inl ⟨rfl, if_neg (fun h_ => by have := h_.1; cases this)⟩
  | true =>
   cases s with
   | none => exact .inr (.inl ⟨rfl, rfl, E.1, if_pos ⟨rfl, fun p hp => by simp at hp⟩⟩)
   | some p =>
    obtain ⟨A5, c5, ev5⟩ := Kd.R_slice E.2.2; have E2 := E.2.2; rw [ev5] at E2; obtain ⟨gb, eg⟩ := R_some E2 E.2.1; rw [eg] at ev5
    by_cases h2 : sum < p.2
    ·exact .inr (.inr (.inl ⟨gb, _, c5, rfl, ev5, decide_eq_true (by rw [E.1]; exact h2), if_pos ⟨rfl, fun q hq => by injection hq with hq; rw [← hq]; exact h2⟩⟩))
    ·exact .inr (.inr (.inr ⟨gb, _, c5, rfl, ev5, decide_eq_false (by rw [E.1]; exact h2), if_neg (fun h_ => h2 (h_.2 p rfl))⟩))
 have cz0 : w.cell? ⟨q0, 0, none⟩ = some (.slice A0 ts.length c0) := (blk_cell B0.out 0).trans rfl
 have cz1 : w.cell? ⟨q0, 1, none⟩ = some (.slice A1 es.length c1) := (blk_cell B0.out 1).trans rfl
 have fz0 := zfz B0.out 0
 have fz1 := zfz B0.out 1
 have HOK := zQ hOK
 clear e3 hJ e1 e2 hB hR hr0 hr1 hrl hrh ha hsum hNw hq hal hah hOK
 have hnew : ∀ w5 w6 w7 v5, Below w.heap.size w w5 → Kd.R (Kd.int .i64) 2 w5 w.heap.size (fun k => N ≤ k) v5 tn → w6 = w5.setCell ⟨q3, 0, none⟩ v5 → w7 = w6.setCell ⟨q4, 0, none⟩ (.int .i64 sum) → NdJ w0 q0 q1 q2 q3 q4 A0 ts.length c0 A1 es.length c1 Al lo.length cl Ah hi.length ch N (some (tn, sum)) w7 ∧ Below w0.heap.size w0 w7 ∧ Kept w w7 (fun k => k < z) := by
  intro w5 w6 w7 v5 h5 hr e6 e7
  have hQ := HQ.out
  have k6 : Kept w5 w6 (fun k => k = q3) := by rw [e6]; exact Kept.setCell (S := fun k => k = q3) (p := ⟨q3, 0, none⟩) (Kept.refl _ _) (.inl rfl) _
  have k7 : Kept w6 w7 (fun k => k = q4) := by rw [e7]; exact Kept.setCell (S := fun k => k = q4) (p := ⟨q4, 0, none⟩) (Kept.refl _ _) (.inl rfl) _
  have b16 : w6.heap[q3]? = some (.cells #[v5] 24 (0, 0)) := by rw [e6]; exact blk_put (cs := #[vb]) (blk_below B1.out h5) 0 _ rfl
  have b26 : w6.heap[q4]? = some (.cells #[.int .i64 least] 2 (0, 0)) := blk_kept (blk_below B2.out h5) k6 (by omega)
  refine ⟨⟨blk_kept (blk_kept (blk_below B0.out h5) k6 (by omega)) k7 (by omega), blk_kept (blk_kept (blk_below BL.out h5) k6 (by omega)) k7 (by omega), blk_kept (blk_kept (blk_below BH.out h5) k6 (by omega)) k7 (by omega), v5, sum, blk_kept b16 k7 (by omega), by rw [e7]; exact blk_put (cs := #[.int .i64 least]) b26 0 _ rfl, rfl, hn0, Kd.R_kept (Kd.R_kept (Kd.R_lower hr (below_size HB.out)) k6 (fun k h1 h2 => by omega)) k7 (fun k h1 h2 => by omega)⟩, ?_, ?_⟩
  ·rw [e7, e6]
   exact below_set (below_set (below_step HB.out h5) (by show _ ≤ q3; omega)) (by show _ ≤ q4; omega)
  ·rw [e7, e6]
   exact Kept.setCell (p := ⟨q4, 0, none⟩) (Kept.setCell (p := ⟨q3, 0, none⟩) (Kept.of_below h5 _) (.inl (by show q3 < z; omega)) _) (.inl (by show q4 < z; omega)) _
 have HNEW := zQ hnew
 clear hnew
 have HLN := zQ hn0
 have HLM := zQ hn6
 rcases hcases with ⟨rfl, hst⟩ | ⟨rfl, hs, rfl, hst⟩ | ⟨gb, nb, cb, rfl, rfl, k2, hst⟩ | ⟨gb, nb, cb, rfl, rfl, k2, hst⟩
 all_goals
  have HST := zQ hst; clear hst
  go_enter Try.func56, Try.ntmps56
  go_wp2_with (first
   | (go_at_call 50; refine (impl_tensionsAfter.calls ka A0 c0 ts A1 c1 es _ cp tn a _ (Kd.C_below HR0.out HB.out) hc0 (Kd.C_below HR1.out HB.out) hc1 HCP.out.2.2 HCP.out.2.1 HA.out).mono ?_; rintro e w1 ⟨v1, rfl, ho1, hb1⟩; have HW1 := zQ hb1; obtain ⟨A2, c2_, ev1⟩ := Kd.R_slice ho1; subst ev1; have HV := zQ (Kd.R_reads' ho1); have cl0 : w1.cell? ⟨q1, 0, none⟩ = some (.slice Al lo.length cl) := (blk_cell (blk_below BL.out hb1) 0).trans rfl; have ch0 : w1.cell? ⟨q2, 0, none⟩ = some (.slice Ah hi.length ch) := (blk_cell (blk_below BH.out hb1) 0).trans rfl; have HL1 := zQ (Kd.C_below (Kd.C_below HRL.out HB.out) hb1); have HH1 := zQ (Kd.C_below (Kd.C_below HRH.out HB.out) hb1); clear ho1 hb1))
  go_loopw [14] (fun v14 wr => ∃ (q : Nat), v14 = .int .i64 (q : Int) ∧ q ≤ a.length ∧ Aside0 (inB a lo hi (a.length - q) q = inB a lo hi a.length 0) ∧ Drawn0 w1 wr) (fun v14 _ => ((a.length : Int) - intOf v14).toNat)
  case atStart => exact ⟨0, by first | rfl | (simp; done), by omega, ⟨by rw [Nat.sub_zero]⟩, Drawn0.refl _⟩
  case round =>
   obtain ⟨q, rfl, hq, HIN, ⟨m1, rfl⟩⟩ := hrel
   by_cases hc : q < a.length
   ·have hcb : decide ((q : Int) < (a.length : Int)) = true := decide_eq_true (by omega)
    have hin := HIN.out; rw [show a.length - q = (a.length - (q + 1)) + 1 from by omega] at hin; have hin2 : ((decide (lo.getD q 0 ≤ a.getD q 0) && decide (a.getD q 0 ≤ hi.getD q 0)) && inB a lo hi (a.length - (q + 1)) (q + 1)) = inB a lo hi a.length 0 := hin; have hx : ∃ x, rd a (q : Int) = x ∧ a.getD q 0 = x := ⟨_, rfl, by show _ = a.getD (Int.toNat (q : Int)) 0; rw [Int.toNat_natCast]⟩; have hxl : ∃ x, rd lo (q : Int) = x ∧ lo.getD q 0 = x := ⟨_, rfl, by show _ = lo.getD (Int.toNat (q : Int)) 0; rw [Int.toNat_natCast]⟩; have hxh : ∃ x, rd hi (q : Int) = x ∧ hi.getD q 0 = x := ⟨_, rfl, by show _ = hi.getD (Int.toNat (q : Int)) 0; rw [Int.toNat_natCast]⟩; obtain ⟨x, hx1, hx2⟩ := hx; obtain ⟨xl, hxl1, hxl2⟩ := hxl; obtain ⟨xh, hxh1, hxh2⟩ := hxh; obtain ⟨ad1, ea1, hc1_⟩ := Kd.at_int HV.out.2.2 (q : Int) (by omega) (by omega); obtain ⟨ad2, ea2, hc2_⟩ := Kd.at_int HL1.out (q : Int) (by omega) (by have := HAL.out; omega); obtain ⟨ad3, ea3, hc3_⟩ := Kd.at_int HH1.out (q : Int) (by omega) (by have := HAH.out; omega); rw [hx1, Int.toNat_natCast] at hc1_; rw [hxl1, Int.toNat_natCast] at hc2_; rw [hxh1, Int.toNat_natCast] at hc3_; rw [hx2, hxl2, hxh2] at hin2; subst ea1 ea2 ea3; have p5 : (0 ≤ (q : Int)) = True := eq_true (by omega); have q5 : ((q : Int) < (a.length : Int)) = True := eq_true (by omega); have q6 : ((q : Int) < (lo.length : Int)) = True := eq_true (by have := HAL.out; omega); have q7 : ((q : Int) < (hi.length : Int)) = True := eq_true (by have := HAH.out; omega)
    have HIN2 := zQ hin2; clear hin hin2 hx1 hx2 hxl1 hxl2 hxh1 hxh2
    by_cases hwi : xl ≤ x ∧ x ≤ xh
    ·have A9 := zQ (show impl_within.f x xl xh = some true from by unfold impl_within.f; rw [if_pos hwi.1, decide_eq_true hwi.2])
     have HIN3 := zQ (show inB a lo hi (a.length - (q + 1)) (q + 1) = inB a lo hi a.length 0 from by rw [← HIN2.out, decide_eq_true hwi.1, decide_eq_true hwi.2]; rfl); clear hwi
     go_wp2
     repeat (go_quiet ((go_at_call 57; (with_reducible refine (impl_within.calls x xl xh true _ A9.out).mono ?_); rintro e w' ⟨rfl, ⟨nd, rfl⟩⟩; (try first | exact ⟨rfl, _, World.drewN_drewN _ _ _⟩ | exact ⟨rfl, _, Eq.trans (World.drewN_drewN _ _ _) (congrArg (World.drewN _) (Nat.add_assoc _ _ _))⟩))); try go_wp2)
     go_roundw
     case rel => exact ⟨q + 1, by first | rfl | (simp; omega) | (congr 1; omega), by omega, HIN3, by repeat (first | exact Drawn0.refl _ | apply Drawn0.step)⟩
     case measure => simp [intOf]; omega
    ·have hf : (decide (xl ≤ x) && decide (x ≤ xh)) = false := by
      cases hq_ : (decide (xl ≤ x) && decide (x ≤ xh)) with
      | false => rfl
      | true => simp only [Bool.and_eq_true, decide_eq_true_eq] at hq_; exact absurd hq_ hwi
     have HF := zQ (show inB a lo hi a.length 0 = false from by rw [← HIN2.out, hf]; rfl)
     first | (exact absurd (HF.out.symm.trans HOK.out) (by decide)) | skip
     all_goals
      have A9 := zQ (show impl_within.f x xl xh = some false from by
       unfold impl_within.f
       by_cases g1 : x ≥ xl
       ·rw [if_pos g1, decide_eq_false (fun g2 => hwi ⟨g1, g2⟩)]
       ·rw [if_neg g1])
      clear hwi hf
      go_wp2
      repeat (go_quiet ((go_at_call 57; (with_reducible refine (impl_within.calls x xl xh false _ A9.out).mono ?_); rintro e w' ⟨rfl, ⟨nd, rfl⟩⟩; (try first | exact ⟨rfl, _, World.drewN_drewN _ _ _⟩ | exact ⟨rfl, _, Eq.trans (World.drewN_drewN _ _ _) (congrArg (World.drewN _) (Nat.add_assoc _ _ _))⟩))); try go_wp2)
      first | go_end0 | (simp only [Exit.inBlock, Exit.then]; refine bodyPost_ret (results_none rfl _ _ _) rfl ?_) | refine bodyPost_ret (results_none rfl _ _ _) rfl ?_
      rw [HST.out]
      first
       | exact ⟨by first | rfl | (simp; done), NdJ.kept HJ.out (Kept.drewN (Kept.of_below HW1.out (fun _ => False)) _) id id id id id (fun _ _ => id), pw_below_drewN (below_step HB.out HW1.out) _, Kept.drewN (Kept.of_below HW1.out _) _⟩
       | (simp only [World.drewN_drewN]; exact ⟨by first | rfl | (simp; done), NdJ.kept HJ.out (Kept.drewN (Kept.of_below HW1.out (fun _ => False)) _) id id id id id (fun _ _ => id), pw_below_drewN (below_step HB.out HW1.out) _, Kept.drewN (Kept.of_below HW1.out _) _⟩)
       | exact ⟨by first | rfl | (simp; done), HNEW.out _ _ _ _ HW5.out HO5.out HE6.out (by first | exact HE7.out | rfl)⟩
   ·have hcb : decide ((q : Int) < (a.length : Int)) = false := decide_eq_false (by omega)
    obtain rfl : q = a.length := by omega
    have HT := zQ (show inB a lo hi a.length 0 = true from by rw [← HIN.out, Nat.sub_self]; rfl)
    first | (exact absurd (HT.out.symm.trans HOK.out) (by decide)) | skip
    all_goals
     have HWd := zQ (pw_below_drewN HW1.out m1); clear cz0 cz1 fz0 fz1 cl0 ch0
     go_wp2_with (first
      | (go_at_call 51; go_loud (refine (impl_sizeOfTurns.calls kl _ cp tn sum _ (Kd.C_below HCP.out.2.2 HWd.out) HCP.out.2.1 HS.out).mono ?_); rintro e w3 ⟨rfl, hb3⟩; have HW3 := zQ (below_step HWd.out hb3); have cx1 := (blk_cell (blk_below B1.out HW3.out) 0).trans rfl; have cx2 := (blk_cell (blk_below B2.out HW3.out) 0).trans rfl; clear hb3; have HLE := zQ (Nat.le_trans HN.out (below_size HW3.out)))
      | ((with_reducible refine zd 40 ?_); refine Kd.R_lit (Kd.int .i64) _ 2 ?hg (N := 40) ?hd (xs := ([] : List Int)) (inner := []) (ok := fun k => N ≤ k) (okp := fun k => N ≤ k) ?hr ?hp (fun _ hk => hk) HLE.out (Below.refl _ _) (Nat.le_refl _) (by simp) ?_; (case hd => rfl); (case hg => rfl); (case hr => first | (go_simp; done) | (go_simp; rfl)); (case hp => exact (Reps.none _ _)); intro v4 w4 ho4 hb4 hg_ hnew_; clear hg_ hnew_; have HO4 := zQ (Kd.R_lower ho4 (below_size HW3.out)); have HW4 := zQ (below_step HW3.out hb4); clear ho4 hb4 cx1 cx2)
      | ((with_reducible refine gate_builtin (b := .append) (xs := #[.tmp 40, .tmp 41]) rfl ?_); at_builtin; refine Kd.R_append_rows (Kd.int .i64) (w0 := w) w.heap.size rfl (.tmp 40) (.tmp 41) 24 2 (.int .i64 0) 8 rfl Try.underlying24 info2 rfl (by decide) (by omega) v4 [] tn _ _ _ (fun k => N ≤ k) (fun _ => False) rfl rfl HO4.out ?aR (fun _ _ h => h) (fun _ h => h.elim) ?aF HW4.out (below_size HW4.out) ?aL ?_; (case aR => exact (Kd.C_below HCP.out.2.2 HW4.out)); (case aF => exact (fun k hk => Nat.le_trans HN.out (Nat.le_trans (below_size HW4.out) hk))); (case aL => have := HLM.out; simp; omega); intro v5 w5 ho hb hg hat; clear hg hat; rw [List.nil_append] at ho; obtain ⟨A5, c5, ev5⟩ := Kd.R_slice ho; subst ev5; obtain ⟨g5, eg5⟩ := R_some ho HLN.out; subst eg5; have HO5 := zQ ho; have HW5 := zQ hb; have cy1 := (blk_cell (blk_below B1.out HW5.out) 0).trans rfl; have fy1 := zfz (blk_below B1.out HW5.out) 0; clear ho hb)
      | ((with_reducible refine gate_store (t := 24) (p := 4) rfl ?_); refine store_event (t := 24) (p := 4) (v := ?vo_w6) (w1 := (w5.setCell ⟨q3, 0, none⟩ (.slice (some ⟨g5, 0, none⟩) tn.length c5))) ?hg ?ho ?hn ?hr ?_; (case ho => rfl); (case hg => rfl); (case hn => rfl); (case hr => first | (go_simp; done) | (go_simp; rfl)); intro w6 hw6; have HE6 := zQ hw6; have b2_ := blk_kept (blk_below B2.out HW5.out) (show Kept w5 w6 (fun k => k = q3) from by rw [hw6]; exact Kept.setCell (S := fun k => k = q3) (p := ⟨q3, 0, none⟩) (Kept.refl _ _) (.inl rfl) _) (by have := HQ.out; omega); have cy2 := (blk_cell b2_ 0).trans rfl; have fy2 := zfz b2_ 0; clear hw6 cy1 fy1 b2_)
      | ((with_reducible refine gate_store (t := 2) (p := 5) rfl ?_); refine store_event (t := 2) (p := 5) (v := ?vo_w7) (w1 := (w6.setCell ⟨q4, 0, none⟩ (.int .i64 sum))) ?hg ?ho ?hn ?hr ?_; (case ho => rfl); (case hg => rfl); (case hn => rfl); (case hr => first | (go_simp; done) | (go_simp; rfl)); intro w7 hw7; have HE7 := zQ hw7; clear hw7 cy2 fy2))
     first | go_end0 | (simp only [Exit.inBlock, Exit.then]; refine bodyPost_ret (results_none rfl _ _ _) rfl ?_) | refine bodyPost_ret (results_none rfl _ _ _) rfl ?_
     rw [HST.out]
     first
      | exact ⟨by first | rfl | (simp; done), NdJ.kept HJ.out (Kept.drewN (Kept.of_below HW1.out (fun _ => False)) _) id id id id id (fun _ _ => id), pw_below_drewN (below_step HB.out HW1.out) _, Kept.drewN (Kept.of_below HW1.out _) _⟩
      | (simp only [World.drewN_drewN]; exact ⟨by first | rfl | (simp; done), NdJ.kept HJ.out (Kept.drewN (Kept.of_below HW1.out (fun _ => False)) _) id id id id id (fun _ _ => id), pw_below_drewN (below_step HB.out HW1.out) _, Kept.drewN (Kept.of_below HW1.out _) _⟩)
      | exact ⟨by first | rfl | (simp; done), NdJ.kept HJ.out (Kept.of_below HW3.out (fun _ => False)) id id id id id (fun _ _ => id), below_step HB.out HW3.out, Kept.of_below HW3.out _⟩
      | exact ⟨by first | rfl | (simp; done), HNEW.out _ _ _ _ HW5.out HO5.out HE6.out (by first | exact HE7.out | rfl)⟩
noncomputable def aftN (ts : List Int) (es : List (List Int)) (tn : List Int) : List Int := theOf [] (fun k => impl_tensionsAfter.f k ts es tn)
noncomputable def stepN (ts : List Int) (es : List (List Int)) (lo hi : List Int) (s : Option (List Int × Int)) (tn : List Int) : Option (List Int × Int) :=
 stepB s tn (inB (aftN ts es tn) lo hi (aftN ts es tn).length 0) (theOf 0 (fun k => impl_sizeOfTurns.f k tn))
def NdOk (ts : List Int) (es : List (List Int)) (lo hi : List Int) : Prop :=
 1 ≤ ts.length ∧ ts.length ≤ 1048576 ∧ lo.length = ts.length ∧ hi.length = ts.length ∧ ∀ tn : List Int, tn.length = ts.length → ∃ a c, (∃ k, impl_tensionsAfter.f k ts es tn = some a) ∧ a.length = ts.length ∧ (∃ k, impl_sizeOfTurns.f k tn = some c)
theorem stepN_eq {ts : List Int} {es : List (List Int)} {lo hi : List Int} {s : Option (List Int × Int)} {tn a : List Int} {c : Int} (h1 : ∃ k, impl_tensionsAfter.f k ts es tn = some a) (h2 : ∃ k, impl_sizeOfTurns.f k tn = some c) : stepN ts es lo hi s tn = stepB s tn (inB a lo hi a.length 0) c := by
 unfold stepN aftN
 rw [theOf_eq (fun k => impl_tensionsAfter.mono _ _ _ k) h1, theOf_eq (fun k => impl_sizeOfTurns.mono _ k) h2]
open Classical in
noncomputable def impl_TurnsNeeded.f (k : Nat) (l0_0 : List Int) (l0_1 : List (List Int)) (l1 l2 : List Int) : Option (List Int × Int) :=
 (impl_ValidTuning.f k l0_0 l0_1).bind fun v => if v = true then ((impl_areIn.f k l1 (l0_0.length : Int) 0 1000000).bind fun b1 => if b1 = true then ((impl_areIn.f k l2 (l0_0.length : Int) 0 1000000).bind fun b2 => if b2 = true then (if NdOk l0_0 l0_1 l1 l2 then (match fills (stepN l0_0 l0_1 l1 l2) l0_0.length none [] with | none => some ([], 3) | some p => some (p.1, 0)) else none) else some ([], 2)) else some ([], 2)) else some ([], 1)
theorem impl_TurnsNeeded.cases {k : Nat} {ts : List Int} {es : List (List Int)} {lo hi r1 : List Int} {r2 : Int} (h : impl_TurnsNeeded.f k ts es lo hi = some (r1, r2)) : ∃ v, impl_ValidTuning.f k ts es = some v ∧
  ((v = false ∧ r1 = [] ∧ r2 = 1) ∨ (v = true ∧ ∃ b1, impl_areIn.f k lo (ts.length : Int) 0 1000000 = some b1 ∧ ((b1 = false ∧ r1 = [] ∧ r2 = 2) ∨ (b1 = true ∧ ∃ b2, impl_areIn.f k hi (ts.length : Int) 0 1000000 = some b2 ∧ ((b2 = false ∧ r1 = [] ∧ r2 = 2) ∨ (b2 = true ∧ NdOk ts es lo hi ∧ ((fills (stepN ts es lo hi) ts.length none [] = none ∧ r1 = [] ∧ r2 = 3) ∨ (∃ p2, fills (stepN ts es lo hi) ts.length none [] = some (r1, p2) ∧ r2 = 0))))))) ) := by
 unfold impl_TurnsNeeded.f at h
 obtain ⟨v, hv, H⟩ := Option.bind_eq_some_iff.mp h
 refine ⟨v, hv, ?_⟩
 cases v with
 | false => simp at H; exact .inl ⟨rfl, by rw [← H.1], H.2.symm⟩
 | true =>
  rw [if_pos rfl] at H
  refine .inr ⟨rfl, ?_⟩
  obtain ⟨b1, h1, H⟩ := Option.bind_eq_some_iff.mp H
  refine ⟨b1, h1, ?_⟩
  cases b1 with
  | false => simp at H; exact .inl ⟨rfl, by rw [← H.1], H.2.symm⟩
  | true =>
   rw [if_pos rfl] at H
   refine .inr ⟨rfl, ?_⟩
   obtain ⟨b2, h2, H⟩ := Option.bind_eq_some_iff.mp H
   refine ⟨b2, h2, ?_⟩
   cases b2 with
   | false => simp at H; exact .inl ⟨rfl, by rw [← H.1], H.2.symm⟩
   | true =>
    rw [if_pos rfl] at H
    refine .inr ⟨rfl, ?_⟩
    by_cases ho : NdOk ts es lo hi
    ·rw [if_pos ho] at H
     refine ⟨ho, ?_⟩
     cases hf : fills (stepN ts es lo hi) ts.length none [] with
     | none => rw [hf] at H; simp at H; exact .inl ⟨rfl, by rw [← H.1], H.2.symm⟩
     | some p => rw [hf] at H; simp at H; exact .inr ⟨p.2, by rw [← H.1], H.2.symm⟩
    ·rw [if_neg ho] at H; simp at H
attribute [local go_sem] Go.Lib.run_eql_slice_nil
theorem impl_TurnsNeeded.calls (k : Nat) (A0_0 : Option Addr) (c0_0 : Nat) (l0_0 : List Int) (A0_1 : Option Addr) (c0_1 : Nat) (l0_1 : List (List Int)) (A1 : Option Addr) (c1 : Nat) (l1 : List Int) (A2 : Option Addr) (c2 : Nat) (l2 : List Int) (r1 : List Int) (r2 : Int) (w : World) (hr0_0 : Kd.C (Kd.int .i64) w A0_0 l0_0.length l0_0) (hc0_0 : l0_0.length ≤ c0_0) (hr0_1 : Kd.C (Kd.slice 2 (Kd.int .i64)) w A0_1 l0_1.length l0_1) (hc0_1 : l0_1.length ≤ c0_1) (hr1 : Kd.C (Kd.int .i64) w A1 l1.length l1) (hc1 : l1.length ≤ c1) (hr2 : Kd.C (Kd.int .i64) w A2 l2.length l2) (hc2 : l2.length ≤ c2) (h : impl_TurnsNeeded.f k l0_0 l0_1 l1 l2 = some (r1, r2)) :
  Calls Try.prog 23 #[.agg #[.slice A0_0 l0_0.length c0_0, .slice A0_1 l0_1.length c0_1], .slice A1 l1.length c1, .slice A2 l2.length c2] w fun e w' => ∃ v0_ : Value, e = .returned (.tuple #[v0_, .int .i64 r2]) ∧ Kd.R (Kd.int .i64) 2 w' w.heap.size (fun _ => True) v0_ r1 ∧ Below w.heap.size w w' := by
 have hu24 := Try.underlying24
 have hu27 := Try.underlying27
 have HR0 := zQ hr0_0
 have HR1 := zQ hr0_1
 have HRL := zQ hr1
 have HRH := zQ hr2
 clear hr0_0 hr0_1 hr1 hr2
 obtain ⟨v, hv, hcases⟩ := impl_TurnsNeeded.cases h
 clear h
 have HV := zQ hv
 clear hv
 have hkind : (v = false ∧ r1 = [] ∧ r2 = 1) ∨ (v = true ∧ impl_areIn.f k l1 (l0_0.length : Int) 0 1000000 = some false ∧ r1 = [] ∧ r2 = 2) ∨ (v = true ∧ impl_areIn.f k l1 (l0_0.length : Int) 0 1000000 = some true ∧ impl_areIn.f k l2 (l0_0.length : Int) 0 1000000 = some false ∧ r1 = [] ∧ r2 = 2) ∨ (v = true ∧ impl_areIn.f k l1 (l0_0.length : Int) 0 1000000 = some true ∧ impl_areIn.f k l2 (l0_0.length : Int) 0 1000000 = some true ∧ NdOk l0_0 l0_1 l1 l2 ∧ fills (stepN l0_0 l0_1 l1 l2) l0_0.length none [] = none ∧ r1 = [] ∧ r2 = 3) ∨ (∃ p2, v = true ∧ impl_areIn.f k l1 (l0_0.length : Int) 0 1000000 = some true ∧ impl_areIn.f k l2 (l0_0.length : Int) 0 1000000 = some true ∧ NdOk l0_0 l0_1 l1 l2 ∧ fills (stepN l0_0 l0_1 l1 l2) l0_0.length none [] = some (r1, p2) ∧ r2 = 0) := by
  rcases hcases with h_ | ⟨rfl, b1, h1, ⟨rfl, h_⟩ | ⟨rfl, b2, h2, ⟨rfl, h_⟩ | ⟨rfl, ho, h_ | ⟨p2, h_⟩⟩⟩⟩
  ·exact .inl h_
  ·exact .inr (.inl ⟨rfl, h1, h_⟩)
  ·exact .inr (.inr (.inl ⟨rfl, h1, h2, h_⟩))
  ·exact .inr (.inr (.inr (.inl ⟨rfl, h1, h2, ho, h_⟩)))
  ·exact .inr (.inr (.inr (.inr ⟨p2, rfl, h1, h2, ho, h_⟩)))
 clear hcases
 rcases hkind with ⟨rfl, rfl, rfl⟩ | ⟨rfl, i1, rfl, rfl⟩ | ⟨rfl, i1, i2, rfl, rfl⟩ | ⟨rfl, i1, i2, ho, hF, rfl, rfl⟩ | ⟨p2, rfl, i1, i2, ho, hF, rfl⟩
 ·skip
  go_enter Try.func23, Try.ntmps23
  go_wp2_with (first
   | ((with_reducible refine zd 3 ?_); refine zbx (N := 3) (cs := #[.slice A0_0 l0_0.length c0_0, .slice A0_1 l0_1.length c0_1]) (t := 27) ?_; intro g1 hg1 w1 hb1 hl1; have HB1 := zQ hl1; have BX1 := zQ hb1; have G1 := zQ (show w.heap.size ≤ g1 from by rw [hg1]; exact Nat.le_refl _); clear hb1 hl1 hg1)
   | ((with_reducible refine zd 4 ?_); refine zbx (N := 4) (cs := #[.slice A1 l1.length c1]) (t := 24) ?_; intro gl hg2 w2 hb2 hl2; have HB2 := zQ (below_step HB1.out hl2); have BX2 := zQ (blk_below BX1.out hl2); have BL2 := zQ hb2; have G2 := zQ (show g1 < gl from by rw [hg2]; exact blk_lt BX1.out); clear hb2 hl2 hg2)
   | ((with_reducible refine zd 5 ?_); refine zbx (N := 5) (cs := #[.slice A2 l2.length c2]) (t := 24) ?_; intro gh hg3 w3 hb3 hl3; have HB3 := zQ (below_step HB2.out hl3); have BX3 := zQ (blk_below BX2.out hl3); have BL3 := zQ (blk_below BL2.out hl3); have BH3 := zQ hb3; have G3 := zQ (show gl < gh from by rw [hg3]; exact blk_lt BL2.out); have cz0 : w3.cell? ⟨g1, 0, none⟩ = some (.slice A0_0 l0_0.length c0_0) := (blk_cell BX3.out 0).trans rfl; have cz1 : w3.cell? ⟨g1, 1, none⟩ = some (.slice A0_1 l0_1.length c0_1) := (blk_cell BX3.out 1).trans rfl; have fz0 := zfz BX3.out 0; have fz1 := zfz BX3.out 1; clear hb3 hl3 hg3)
   | (go_at_call 27; refine (impl_ValidTuning.calls k A0_0 c0_0 l0_0 A0_1 c0_1 l0_1 false _ (Kd.C_below HR0.out HB3.out) hc0_0 (Kd.C_below HR1.out HB3.out) hc0_1 HV.out).mono ?_; rintro e w4 ⟨rfl, hb4⟩; have HB4 := zQ (below_step HB3.out hb4); have BX4 := zQ (blk_below BX3.out hb4); have BL4 := zQ (blk_below BL3.out hb4); have BH4 := zQ (blk_below BH3.out hb4); clear cz0 cz1 fz0 fz1; have cz0 : w4.cell? ⟨g1, 0, none⟩ = some (.slice A0_0 l0_0.length c0_0) := (blk_cell BX4.out 0).trans rfl; have fz0 := zfz BX4.out 0; have cl0 : w4.cell? ⟨gl, 0, none⟩ = some (.slice A1 l1.length c1) := (blk_cell BL4.out 0).trans rfl; have ch0 : w4.cell? ⟨gh, 0, none⟩ = some (.slice A2 l2.length c2) := (blk_cell BH4.out 0).trans rfl; clear hb4))
  repeat (go_quiet (fail); try go_wp2)
  go_ret2
  exact ⟨_, by first | rfl | (simp; done), Kd.R_nil _ _ _ _ _, by repeat (first | (with_reducible first | exact HB4.out | apply pw_below_drewN | apply below_drew1) | exact HB4.out)⟩
 ·have I1 := zQ i1
  clear i1
  go_enter Try.func23, Try.ntmps23
  go_wp2_with (first
   | ((with_reducible refine zd 3 ?_); refine zbx (N := 3) (cs := #[.slice A0_0 l0_0.length c0_0, .slice A0_1 l0_1.length c0_1]) (t := 27) ?_; intro g1 hg1 w1 hb1 hl1; have HB1 := zQ hl1; have BX1 := zQ hb1; have G1 := zQ (show w.heap.size ≤ g1 from by rw [hg1]; exact Nat.le_refl _); clear hb1 hl1 hg1)
   | ((with_reducible refine zd 4 ?_); refine zbx (N := 4) (cs := #[.slice A1 l1.length c1]) (t := 24) ?_; intro gl hg2 w2 hb2 hl2; have HB2 := zQ (below_step HB1.out hl2); have BX2 := zQ (blk_below BX1.out hl2); have BL2 := zQ hb2; have G2 := zQ (show g1 < gl from by rw [hg2]; exact blk_lt BX1.out); clear hb2 hl2 hg2)
   | ((with_reducible refine zd 5 ?_); refine zbx (N := 5) (cs := #[.slice A2 l2.length c2]) (t := 24) ?_; intro gh hg3 w3 hb3 hl3; have HB3 := zQ (below_step HB2.out hl3); have BX3 := zQ (blk_below BX2.out hl3); have BL3 := zQ (blk_below BL2.out hl3); have BH3 := zQ hb3; have G3 := zQ (show gl < gh from by rw [hg3]; exact blk_lt BL2.out); have cz0 : w3.cell? ⟨g1, 0, none⟩ = some (.slice A0_0 l0_0.length c0_0) := (blk_cell BX3.out 0).trans rfl; have cz1 : w3.cell? ⟨g1, 1, none⟩ = some (.slice A0_1 l0_1.length c0_1) := (blk_cell BX3.out 1).trans rfl; have fz0 := zfz BX3.out 0; have fz1 := zfz BX3.out 1; clear hb3 hl3 hg3)
   | (go_at_call 27; refine (impl_ValidTuning.calls k A0_0 c0_0 l0_0 A0_1 c0_1 l0_1 true _ (Kd.C_below HR0.out HB3.out) hc0_0 (Kd.C_below HR1.out HB3.out) hc0_1 HV.out).mono ?_; rintro e w4 ⟨rfl, hb4⟩; have HB4 := zQ (below_step HB3.out hb4); have BX4 := zQ (blk_below BX3.out hb4); have BL4 := zQ (blk_below BL3.out hb4); have BH4 := zQ (blk_below BH3.out hb4); clear cz0 cz1 fz0 fz1; have cz0 : w4.cell? ⟨g1, 0, none⟩ = some (.slice A0_0 l0_0.length c0_0) := (blk_cell BX4.out 0).trans rfl; have fz0 := zfz BX4.out 0; have cl0 : w4.cell? ⟨gl, 0, none⟩ = some (.slice A1 l1.length c1) := (blk_cell BL4.out 0).trans rfl; have ch0 : w4.cell? ⟨gh, 0, none⟩ = some (.slice A2 l2.length c2) := (blk_cell BH4.out 0).trans rfl; clear hb4)
   | (go_at_call 54; (with_reducible refine (impl_areIn.calls k A1 c1 l1 (l0_0.length : Int) 0 1000000 false _ ?hC ?hL I1.out).mono ?_); (case hC => exact Kd.C_below HRL.out HB4.out); (case hL => exact hc1); rintro e wd1 ⟨rfl, nd1, rfl⟩; have HD1 := zQ (pw_below_drewN (Below.refl w4.heap.size w4) nd1)))
  repeat (go_quiet (fail); try go_wp2)
  go_ret2
  exact ⟨_, by first | rfl | (simp; done), Kd.R_nil _ _ _ _ _, by repeat (first | (with_reducible first | exact HB4.out | apply pw_below_drewN | apply below_drew1) | exact HB4.out)⟩
 ·have I1 := zQ i1
  have I2 := zQ i2; clear i1 i2
  go_enter Try.func23, Try.ntmps23
  go_wp2_with (first
   | ((with_reducible refine zd 3 ?_); refine zbx (N := 3) (cs := #[.slice A0_0 l0_0.length c0_0, .slice A0_1 l0_1.length c0_1]) (t := 27) ?_; intro g1 hg1 w1 hb1 hl1; have HB1 := zQ hl1; have BX1 := zQ hb1; have G1 := zQ (show w.heap.size ≤ g1 from by rw [hg1]; exact Nat.le_refl _); clear hb1 hl1 hg1)
   | ((with_reducible refine zd 4 ?_); refine zbx (N := 4) (cs := #[.slice A1 l1.length c1]) (t := 24) ?_; intro gl hg2 w2 hb2 hl2; have HB2 := zQ (below_step HB1.out hl2); have BX2 := zQ (blk_below BX1.out hl2); have BL2 := zQ hb2; have G2 := zQ (show g1 < gl from by rw [hg2]; exact blk_lt BX1.out); clear hb2 hl2 hg2)
   | ((with_reducible refine zd 5 ?_); refine zbx (N := 5) (cs := #[.slice A2 l2.length c2]) (t := 24) ?_; intro gh hg3 w3 hb3 hl3; have HB3 := zQ (below_step HB2.out hl3); have BX3 := zQ (blk_below BX2.out hl3); have BL3 := zQ (blk_below BL2.out hl3); have BH3 := zQ hb3; have G3 := zQ (show gl < gh from by rw [hg3]; exact blk_lt BL2.out); have cz0 : w3.cell? ⟨g1, 0, none⟩ = some (.slice A0_0 l0_0.length c0_0) := (blk_cell BX3.out 0).trans rfl; have cz1 : w3.cell? ⟨g1, 1, none⟩ = some (.slice A0_1 l0_1.length c0_1) := (blk_cell BX3.out 1).trans rfl; have fz0 := zfz BX3.out 0; have fz1 := zfz BX3.out 1; clear hb3 hl3 hg3)
   | (go_at_call 27; refine (impl_ValidTuning.calls k A0_0 c0_0 l0_0 A0_1 c0_1 l0_1 true _ (Kd.C_below HR0.out HB3.out) hc0_0 (Kd.C_below HR1.out HB3.out) hc0_1 HV.out).mono ?_; rintro e w4 ⟨rfl, hb4⟩; have HB4 := zQ (below_step HB3.out hb4); have BX4 := zQ (blk_below BX3.out hb4); have BL4 := zQ (blk_below BL3.out hb4); have BH4 := zQ (blk_below BH3.out hb4); clear cz0 cz1 fz0 fz1; have cz0 : w4.cell? ⟨g1, 0, none⟩ = some (.slice A0_0 l0_0.length c0_0) := (blk_cell BX4.out 0).trans rfl; have fz0 := zfz BX4.out 0; have cl0 : w4.cell? ⟨gl, 0, none⟩ = some (.slice A1 l1.length c1) := (blk_cell BL4.out 0).trans rfl; have ch0 : w4.cell? ⟨gh, 0, none⟩ = some (.slice A2 l2.length c2) := (blk_cell BH4.out 0).trans rfl; clear hb4)
   | (go_at_call 54; (with_reducible refine (impl_areIn.calls k A1 c1 l1 (l0_0.length : Int) 0 1000000 true _ ?hC ?hL I1.out).mono ?_); (case hC => exact Kd.C_below HRL.out HB4.out); (case hL => exact hc1); rintro e wd1 ⟨rfl, nd1, rfl⟩; have HD1 := zQ (pw_below_drewN (Below.refl w4.heap.size w4) nd1))
   | (go_at_call 54; (with_reducible refine (impl_areIn.calls k A2 c2 l2 (l0_0.length : Int) 0 1000000 false _ ?hC ?hL I2.out).mono ?_); (case hC => exact Kd.C_below HRH.out (below_step HB4.out HD1.out)); (case hL => exact hc2); rintro e wd2 ⟨rfl, nd2, rfl⟩; have HD2 := zQ (pw_below_drewN HD1.out nd2)))
  repeat (go_quiet (fail); try go_wp2)
  go_ret2
  exact ⟨_, by first | rfl | (simp; done), Kd.R_nil _ _ _ _ _, by repeat (first | (with_reducible first | exact HB4.out | apply pw_below_drewN | apply below_drew1) | exact HB4.out)⟩
 ·skip
  have I1 := zQ i1; have I2 := zQ i2; have HOK := zQ ho; have HF := zQ hF; clear i1 i2 ho hF
  have hcl : ∀ g1 gl gh g2 g3 z N (s : Option (List Int × Int)) (tn : List Int) (wc : World) (gr cp : Nat), (w.heap.size ≤ g1 ∧ g1 < gl ∧ gl < gh ∧ gh < g2 ∧ g2 < g3 ∧ g3 < z) → z ≤ gr → gr < N → N ≤ wc.heap.size → tn.length = l0_0.length → Below w.heap.size w wc → Kd.R (Kd.int .i64) 2 wc w.heap.size (fun k => k = gr) (.slice (some ⟨gr, 0, none⟩) l0_0.length cp) tn → NdJ w g1 gl gh g2 g3 A0_0 l0_0.length c0_0 A0_1 l0_1.length c0_1 A1 l1.length c1 A2 l2.length c2 N s wc →
    Calls Try.prog 56 #[.slice (some ⟨gr, 0, none⟩) l0_0.length cp, .pointer (some ⟨g1, 0, none⟩), .pointer (some ⟨gl, 0, none⟩), .pointer (some ⟨gh, 0, none⟩), .pointer (some ⟨g2, 0, none⟩), .pointer (some ⟨g3, 0, none⟩)] wc fun e w' => e = .returned (.tuple #[]) ∧ NdJ w g1 gl gh g2 g3 A0_0 l0_0.length c0_0 A0_1 l0_1.length c0_1 A1 l1.length c1 A2 l2.length c2 N (stepN l0_0 l0_1 l1 l2 s tn) w' ∧ Below w.heap.size w w' ∧ Kept wc w' (fun k => k < z) := by
   intro g1 gl gh g2 g3 z N s tn wc gr cp hg h1 h2 h3 h4 h5 h6 hj
   obtain ⟨a, c, ⟨ka, e1⟩, e2, ⟨kl, e3⟩⟩ := HOK.out.2.2.2.2 tn h4; have hst : stepN l0_0 l0_1 l1 l2 s tn = stepB s tn (inB a l1 l2 a.length 0) c := stepN_eq ⟨ka, e1⟩ ⟨kl, e3⟩; rw [hst]; have hc := need1_calls l0_0 l0_1 l1 l2 w wc A0_0 A0_1 A1 A2 c0_0 c0_1 c1 c2 HR0.out hc0_0 HR1.out hc0_1 HRL.out HRH.out g1 gl gh g2 g3 z (by omega) (by omega) N s tn gr cp h1 h2 h3 h5 (by rw [h4]; exact h6) hj (by have := HOK.out.1; omega) (by have := HOK.out.2.1; omega) a c ka kl e1 e3 (by rw [e2]; exact HOK.out.2.2.1.symm) (by rw [e2]; exact HOK.out.2.2.2.1.symm) (by rw [e2]; exact HOK.out.2.1); rw [h4] at hc
   exact hc
  have HCL := zQ hcl; clear hcl
  go_enter Try.func23, Try.ntmps23
  go_wp2_with (first
   | ((with_reducible refine zd 3 ?_); refine zbx (N := 3) (cs := #[.slice A0_0 l0_0.length c0_0, .slice A0_1 l0_1.length c0_1]) (t := 27) ?_; intro g1 hg1 w1 hb1 hl1; have HB1 := zQ hl1; have BX1 := zQ hb1; have G1 := zQ (show w.heap.size ≤ g1 from by rw [hg1]; exact Nat.le_refl _); clear hb1 hl1 hg1)
   | ((with_reducible refine zd 4 ?_); refine zbx (N := 4) (cs := #[.slice A1 l1.length c1]) (t := 24) ?_; intro gl hg2 w2 hb2 hl2; have HB2 := zQ (below_step HB1.out hl2); have BX2 := zQ (blk_below BX1.out hl2); have BL2 := zQ hb2; have G2 := zQ (show g1 < gl from by rw [hg2]; exact blk_lt BX1.out); clear hb2 hl2 hg2)
   | ((with_reducible refine zd 5 ?_); refine zbx (N := 5) (cs := #[.slice A2 l2.length c2]) (t := 24) ?_; intro gh hg3 w3 hb3 hl3; have HB3 := zQ (below_step HB2.out hl3); have BX3 := zQ (blk_below BX2.out hl3); have BL3 := zQ (blk_below BL2.out hl3); have BH3 := zQ hb3; have G3 := zQ (show gl < gh from by rw [hg3]; exact blk_lt BL2.out); have cz0 : w3.cell? ⟨g1, 0, none⟩ = some (.slice A0_0 l0_0.length c0_0) := (blk_cell BX3.out 0).trans rfl; have cz1 : w3.cell? ⟨g1, 1, none⟩ = some (.slice A0_1 l0_1.length c0_1) := (blk_cell BX3.out 1).trans rfl; have fz0 := zfz BX3.out 0; have fz1 := zfz BX3.out 1; clear hb3 hl3 hg3)
   | (go_at_call 27; refine (impl_ValidTuning.calls k A0_0 c0_0 l0_0 A0_1 c0_1 l0_1 true _ (Kd.C_below HR0.out HB3.out) hc0_0 (Kd.C_below HR1.out HB3.out) hc0_1 HV.out).mono ?_; rintro e w4 ⟨rfl, hb4⟩; have HB4 := zQ (below_step HB3.out hb4); have BX4 := zQ (blk_below BX3.out hb4); have BL4 := zQ (blk_below BL3.out hb4); have BH4 := zQ (blk_below BH3.out hb4); clear cz0 cz1 fz0 fz1; have cz0 : w4.cell? ⟨g1, 0, none⟩ = some (.slice A0_0 l0_0.length c0_0) := (blk_cell BX4.out 0).trans rfl; have fz0 := zfz BX4.out 0; have cl0 : w4.cell? ⟨gl, 0, none⟩ = some (.slice A1 l1.length c1) := (blk_cell BL4.out 0).trans rfl; have ch0 : w4.cell? ⟨gh, 0, none⟩ = some (.slice A2 l2.length c2) := (blk_cell BH4.out 0).trans rfl; clear hb4)
   | (go_at_call 54; (with_reducible refine (impl_areIn.calls k A1 c1 l1 (l0_0.length : Int) 0 1000000 true _ ?hC ?hL I1.out).mono ?_); (case hC => exact Kd.C_below HRL.out HB4.out); (case hL => exact hc1); rintro e wd1 ⟨rfl, nd1, rfl⟩; have HD1 := zQ (pw_below_drewN (Below.refl w4.heap.size w4) nd1))
   | (go_at_call 54; (with_reducible refine (impl_areIn.calls k A2 c2 l2 (l0_0.length : Int) 0 1000000 true _ ?hC ?hL I2.out).mono ?_); (case hC => exact Kd.C_below HRH.out (below_step HB4.out HD1.out)); (case hL => exact hc2); rintro e wd2 ⟨rfl, nd2, rfl⟩; have HD2 := zQ (pw_below_drewN HD1.out nd2))
   | ((with_reducible refine zd 9 ?_); refine zbx (N := 9) (cs := #[.slice none 0 0]) (t := 24) ?_; intro g2 hg5 w5 hb5 hl5; have HS5 := zQ (below_step (pw_below_drewN (Below.refl w4.heap.size w4) _) hl5); have HB5 := zQ (below_step HB4.out HS5.out); have BX5 := zQ (blk_below BX4.out HS5.out); have BL5 := zQ (blk_below BL4.out HS5.out); have BH5 := zQ (blk_below BH4.out HS5.out); have BY5 := zQ hb5; have G4 := zQ (show gh < g2 from by rw [hg5]; exact blk_lt BH4.out); clear hb5 hl5 hg5 cz0 fz0 cl0 ch0)
   | ((with_reducible refine zd 10 ?_); refine zbx (N := 10) (cs := #[.int .i64 0]) (t := 2) ?_; intro g3 hg6 w6 hb6 hl6; have HB6 := zQ (below_step HB5.out hl6); have BX6 := zQ (blk_below BX5.out hl6); have BL6 := zQ (blk_below BL5.out hl6); have BH6 := zQ (blk_below BH5.out hl6); have BY6 := zQ (blk_below BY5.out hl6); have BZ6 := zQ hb6; have G5 := zQ (show g2 < g3 from by rw [hg6]; exact blk_lt BY5.out); have cw := (blk_cell hb6 0).trans rfl; have fw := zfz hb6 0; clear hb6 hl6 hg6)
   | ((with_reducible refine gate_store (t := 2) (p := 10) rfl ?_); refine store_event (t := 2) (p := 10) (v := ?vo_w7) (w1 := (w6.setCell ⟨g3, 0, none⟩ (.int .i64 0))) ?hg ?ho ?hn ?hr ?_; (case ho => rfl); (case hg => rfl); (case hn => rfl); (case hr => first | (go_simp; done) | (go_simp; rfl)); intro w7 hw7; have hk7 : Kept w6 w7 (fun k => k = g3) := (by rw [hw7]; exact Kept.setCell (S := fun k => k = g3) (p := ⟨g3, 0, none⟩) (Kept.refl _ _) (.inl rfl) _); have BZ7 := zQ (show w7.heap[g3]? = some (.cells #[.int .i64 0] 2 (0, 0)) from by rw [hw7]; exact blk_put (cs := #[.int .i64 0]) BZ6.out 0 _ rfl); have HG := zQ (⟨G1.out, G2.out, G3.out, G4.out, G5.out, blk_lt BZ7.out⟩ : w.heap.size ≤ g1 ∧ g1 < gl ∧ gl < gh ∧ gh < g2 ∧ g2 < g3 ∧ g3 < w7.heap.size); have BX7 := zQ (blk_kept BX6.out hk7 (by have := HG.out; omega)); have BL7 := zQ (blk_kept BL6.out hk7 (by have := HG.out; omega)); have BH7 := zQ (blk_kept BH6.out hk7 (by have := HG.out; omega)); have BY7 := zQ (blk_kept BY6.out hk7 (by have := HG.out; omega)); have HB7 := zQ (show Below w.heap.size w w7 from by rw [hw7]; exact below_set HB6.out (by have := HG.out; show _ ≤ g3; omega)); clear hk7 hw7 cw fw)
   | (go_at_call 55; refine (eachTurns_callsN (stepN l0_0 l0_1 l1 l2) (NdJ w g1 gl gh g2 g3 A0_0 l0_0.length c0_0 A0_1 l0_1.length c0_1 A1 l1.length c1 A2 l2.length c2) w _ g1 gl gh g2 g3 l0_0.length HOK.out.1 HOK.out.2.1 HB7.out (fun N s w w' g h1 h2 hj hk => NdJ.kept hj hk (by have := HG.out; omega) (by have := HG.out; omega) (by have := HG.out; omega) (by have := HG.out; omega) (by have := HG.out; omega) (fun k h_ => by omega)) (fun N s w w' hj hb => NdJ.kept hj (Kept.of_below hb (fun _ => False)) id id id id id (fun _ _ => id)) (fun N s w m hj => NdJ.kept hj (Kept.drewN (Kept.refl _ (fun _ => False)) m) id id id id id (fun _ _ => id)) (fun N s tn wc gr cp h1 h2 h3 h4 h5 h6 hj => HCL.out _ _ _ _ _ _ N s tn wc gr cp HG.out h1 h2 h3 h4 h5 h6 hj) none (fun N => ⟨BX7.out, BL7.out, BH7.out, .slice none 0 0, 0, BY7.out, BZ7.out, rfl, rfl⟩)).mono ?_; rintro e w8 ⟨rfl, ⟨M, hj8⟩, hb8⟩; rw [HF.out] at hj8; obtain ⟨vb, least, b1_, b2_, e3⟩ := hj8.rest; have HB8 := zQ hb8; clear hj8 hb8; (first | (obtain ⟨rfl, rfl⟩ := e3; have cv1 : w8.cell? ⟨g2, 0, none⟩ = some (.slice none 0 0) := (blk_cell b1_ 0).trans rfl) | (obtain ⟨rfl, hlen, hrr⟩ := e3; obtain ⟨A9, c9, ev9⟩ := Kd.R_slice hrr; subst ev9; obtain ⟨g9, eg9⟩ := R_some hrr hlen; subst eg9; have HR9 := zQ hrr; clear hrr hlen; have cv1 : w8.cell? ⟨g2, 0, none⟩ = some (.slice (some ⟨g9, 0, none⟩) r1.length c9) := (blk_cell b1_ 0).trans rfl)); clear b1_ b2_))
  repeat (go_quiet (fail); try go_wp2)
  go_ret2
  exact ⟨_, by first | rfl | (simp; done), Kd.R_nil _ _ _ _ _, by repeat (first | (with_reducible first | exact HB8.out | apply pw_below_drewN | apply below_drew1) | exact HB8.out)⟩
 ·skip
  have I1 := zQ i1; have I2 := zQ i2; have HOK := zQ ho; have HF := zQ hF; clear i1 i2 ho hF
  have hcl : ∀ g1 gl gh g2 g3 z N (s : Option (List Int × Int)) (tn : List Int) (wc : World) (gr cp : Nat), (w.heap.size ≤ g1 ∧ g1 < gl ∧ gl < gh ∧ gh < g2 ∧ g2 < g3 ∧ g3 < z) → z ≤ gr → gr < N → N ≤ wc.heap.size → tn.length = l0_0.length → Below w.heap.size w wc → Kd.R (Kd.int .i64) 2 wc w.heap.size (fun k => k = gr) (.slice (some ⟨gr, 0, none⟩) l0_0.length cp) tn → NdJ w g1 gl gh g2 g3 A0_0 l0_0.length c0_0 A0_1 l0_1.length c0_1 A1 l1.length c1 A2 l2.length c2 N s wc →
    Calls Try.prog 56 #[.slice (some ⟨gr, 0, none⟩) l0_0.length cp, .pointer (some ⟨g1, 0, none⟩), .pointer (some ⟨gl, 0, none⟩), .pointer (some ⟨gh, 0, none⟩), .pointer (some ⟨g2, 0, none⟩), .pointer (some ⟨g3, 0, none⟩)] wc fun e w' => e = .returned (.tuple #[]) ∧ NdJ w g1 gl gh g2 g3 A0_0 l0_0.length c0_0 A0_1 l0_1.length c0_1 A1 l1.length c1 A2 l2.length c2 N (stepN l0_0 l0_1 l1 l2 s tn) w' ∧ Below w.heap.size w w' ∧ Kept wc w' (fun k => k < z) := by
   intro g1 gl gh g2 g3 z N s tn wc gr cp hg h1 h2 h3 h4 h5 h6 hj
   obtain ⟨a, c, ⟨ka, e1⟩, e2, ⟨kl, e3⟩⟩ := HOK.out.2.2.2.2 tn h4; have hst : stepN l0_0 l0_1 l1 l2 s tn = stepB s tn (inB a l1 l2 a.length 0) c := stepN_eq ⟨ka, e1⟩ ⟨kl, e3⟩; rw [hst]; have hc := need1_calls l0_0 l0_1 l1 l2 w wc A0_0 A0_1 A1 A2 c0_0 c0_1 c1 c2 HR0.out hc0_0 HR1.out hc0_1 HRL.out HRH.out g1 gl gh g2 g3 z (by omega) (by omega) N s tn gr cp h1 h2 h3 h5 (by rw [h4]; exact h6) hj (by have := HOK.out.1; omega) (by have := HOK.out.2.1; omega) a c ka kl e1 e3 (by rw [e2]; exact HOK.out.2.2.1.symm) (by rw [e2]; exact HOK.out.2.2.2.1.symm) (by rw [e2]; exact HOK.out.2.1); rw [h4] at hc
   exact hc
  have HCL := zQ hcl; clear hcl
  go_enter Try.func23, Try.ntmps23
  go_wp2_with (first
   | ((with_reducible refine zd 3 ?_); refine zbx (N := 3) (cs := #[.slice A0_0 l0_0.length c0_0, .slice A0_1 l0_1.length c0_1]) (t := 27) ?_; intro g1 hg1 w1 hb1 hl1; have HB1 := zQ hl1; have BX1 := zQ hb1; have G1 := zQ (show w.heap.size ≤ g1 from by rw [hg1]; exact Nat.le_refl _); clear hb1 hl1 hg1)
   | ((with_reducible refine zd 4 ?_); refine zbx (N := 4) (cs := #[.slice A1 l1.length c1]) (t := 24) ?_; intro gl hg2 w2 hb2 hl2; have HB2 := zQ (below_step HB1.out hl2); have BX2 := zQ (blk_below BX1.out hl2); have BL2 := zQ hb2; have G2 := zQ (show g1 < gl from by rw [hg2]; exact blk_lt BX1.out); clear hb2 hl2 hg2)
   | ((with_reducible refine zd 5 ?_); refine zbx (N := 5) (cs := #[.slice A2 l2.length c2]) (t := 24) ?_; intro gh hg3 w3 hb3 hl3; have HB3 := zQ (below_step HB2.out hl3); have BX3 := zQ (blk_below BX2.out hl3); have BL3 := zQ (blk_below BL2.out hl3); have BH3 := zQ hb3; have G3 := zQ (show gl < gh from by rw [hg3]; exact blk_lt BL2.out); have cz0 : w3.cell? ⟨g1, 0, none⟩ = some (.slice A0_0 l0_0.length c0_0) := (blk_cell BX3.out 0).trans rfl; have cz1 : w3.cell? ⟨g1, 1, none⟩ = some (.slice A0_1 l0_1.length c0_1) := (blk_cell BX3.out 1).trans rfl; have fz0 := zfz BX3.out 0; have fz1 := zfz BX3.out 1; clear hb3 hl3 hg3)
   | (go_at_call 27; refine (impl_ValidTuning.calls k A0_0 c0_0 l0_0 A0_1 c0_1 l0_1 true _ (Kd.C_below HR0.out HB3.out) hc0_0 (Kd.C_below HR1.out HB3.out) hc0_1 HV.out).mono ?_; rintro e w4 ⟨rfl, hb4⟩; have HB4 := zQ (below_step HB3.out hb4); have BX4 := zQ (blk_below BX3.out hb4); have BL4 := zQ (blk_below BL3.out hb4); have BH4 := zQ (blk_below BH3.out hb4); clear cz0 cz1 fz0 fz1; have cz0 : w4.cell? ⟨g1, 0, none⟩ = some (.slice A0_0 l0_0.length c0_0) := (blk_cell BX4.out 0).trans rfl; have fz0 := zfz BX4.out 0; have cl0 : w4.cell? ⟨gl, 0, none⟩ = some (.slice A1 l1.length c1) := (blk_cell BL4.out 0).trans rfl; have ch0 : w4.cell? ⟨gh, 0, none⟩ = some (.slice A2 l2.length c2) := (blk_cell BH4.out 0).trans rfl; clear hb4)
   | (go_at_call 54; (with_reducible refine (impl_areIn.calls k A1 c1 l1 (l0_0.length : Int) 0 1000000 true _ ?hC ?hL I1.out).mono ?_); (case hC => exact Kd.C_below HRL.out HB4.out); (case hL => exact hc1); rintro e wd1 ⟨rfl, nd1, rfl⟩; have HD1 := zQ (pw_below_drewN (Below.refl w4.heap.size w4) nd1))
   | (go_at_call 54; (with_reducible refine (impl_areIn.calls k A2 c2 l2 (l0_0.length : Int) 0 1000000 true _ ?hC ?hL I2.out).mono ?_); (case hC => exact Kd.C_below HRH.out (below_step HB4.out HD1.out)); (case hL => exact hc2); rintro e wd2 ⟨rfl, nd2, rfl⟩; have HD2 := zQ (pw_below_drewN HD1.out nd2))
   | ((with_reducible refine zd 9 ?_); refine zbx (N := 9) (cs := #[.slice none 0 0]) (t := 24) ?_; intro g2 hg5 w5 hb5 hl5; have HS5 := zQ (below_step (pw_below_drewN (Below.refl w4.heap.size w4) _) hl5); have HB5 := zQ (below_step HB4.out HS5.out); have BX5 := zQ (blk_below BX4.out HS5.out); have BL5 := zQ (blk_below BL4.out HS5.out); have BH5 := zQ (blk_below BH4.out HS5.out); have BY5 := zQ hb5; have G4 := zQ (show gh < g2 from by rw [hg5]; exact blk_lt BH4.out); clear hb5 hl5 hg5 cz0 fz0 cl0 ch0)
   | ((with_reducible refine zd 10 ?_); refine zbx (N := 10) (cs := #[.int .i64 0]) (t := 2) ?_; intro g3 hg6 w6 hb6 hl6; have HB6 := zQ (below_step HB5.out hl6); have BX6 := zQ (blk_below BX5.out hl6); have BL6 := zQ (blk_below BL5.out hl6); have BH6 := zQ (blk_below BH5.out hl6); have BY6 := zQ (blk_below BY5.out hl6); have BZ6 := zQ hb6; have G5 := zQ (show g2 < g3 from by rw [hg6]; exact blk_lt BY5.out); have cw := (blk_cell hb6 0).trans rfl; have fw := zfz hb6 0; clear hb6 hl6 hg6)
   | ((with_reducible refine gate_store (t := 2) (p := 10) rfl ?_); refine store_event (t := 2) (p := 10) (v := ?vo_w7) (w1 := (w6.setCell ⟨g3, 0, none⟩ (.int .i64 0))) ?hg ?ho ?hn ?hr ?_; (case ho => rfl); (case hg => rfl); (case hn => rfl); (case hr => first | (go_simp; done) | (go_simp; rfl)); intro w7 hw7; have hk7 : Kept w6 w7 (fun k => k = g3) := (by rw [hw7]; exact Kept.setCell (S := fun k => k = g3) (p := ⟨g3, 0, none⟩) (Kept.refl _ _) (.inl rfl) _); have BZ7 := zQ (show w7.heap[g3]? = some (.cells #[.int .i64 0] 2 (0, 0)) from by rw [hw7]; exact blk_put (cs := #[.int .i64 0]) BZ6.out 0 _ rfl); have HG := zQ (⟨G1.out, G2.out, G3.out, G4.out, G5.out, blk_lt BZ7.out⟩ : w.heap.size ≤ g1 ∧ g1 < gl ∧ gl < gh ∧ gh < g2 ∧ g2 < g3 ∧ g3 < w7.heap.size); have BX7 := zQ (blk_kept BX6.out hk7 (by have := HG.out; omega)); have BL7 := zQ (blk_kept BL6.out hk7 (by have := HG.out; omega)); have BH7 := zQ (blk_kept BH6.out hk7 (by have := HG.out; omega)); have BY7 := zQ (blk_kept BY6.out hk7 (by have := HG.out; omega)); have HB7 := zQ (show Below w.heap.size w w7 from by rw [hw7]; exact below_set HB6.out (by have := HG.out; show _ ≤ g3; omega)); clear hk7 hw7 cw fw)
   | (go_at_call 55; refine (eachTurns_callsN (stepN l0_0 l0_1 l1 l2) (NdJ w g1 gl gh g2 g3 A0_0 l0_0.length c0_0 A0_1 l0_1.length c0_1 A1 l1.length c1 A2 l2.length c2) w _ g1 gl gh g2 g3 l0_0.length HOK.out.1 HOK.out.2.1 HB7.out (fun N s w w' g h1 h2 hj hk => NdJ.kept hj hk (by have := HG.out; omega) (by have := HG.out; omega) (by have := HG.out; omega) (by have := HG.out; omega) (by have := HG.out; omega) (fun k h_ => by omega)) (fun N s w w' hj hb => NdJ.kept hj (Kept.of_below hb (fun _ => False)) id id id id id (fun _ _ => id)) (fun N s w m hj => NdJ.kept hj (Kept.drewN (Kept.refl _ (fun _ => False)) m) id id id id id (fun _ _ => id)) (fun N s tn wc gr cp h1 h2 h3 h4 h5 h6 hj => HCL.out _ _ _ _ _ _ N s tn wc gr cp HG.out h1 h2 h3 h4 h5 h6 hj) none (fun N => ⟨BX7.out, BL7.out, BH7.out, .slice none 0 0, 0, BY7.out, BZ7.out, rfl, rfl⟩)).mono ?_; rintro e w8 ⟨rfl, ⟨M, hj8⟩, hb8⟩; rw [HF.out] at hj8; obtain ⟨vb, least, b1_, b2_, e3⟩ := hj8.rest; have HB8 := zQ hb8; clear hj8 hb8; (first | (obtain ⟨rfl, rfl⟩ := e3; have cv1 : w8.cell? ⟨g2, 0, none⟩ = some (.slice none 0 0) := (blk_cell b1_ 0).trans rfl) | (obtain ⟨rfl, hlen, hrr⟩ := e3; obtain ⟨A9, c9, ev9⟩ := Kd.R_slice hrr; subst ev9; obtain ⟨g9, eg9⟩ := R_some hrr hlen; subst eg9; have HR9 := zQ hrr; clear hrr hlen; have cv1 : w8.cell? ⟨g2, 0, none⟩ = some (.slice (some ⟨g9, 0, none⟩) r1.length c9) := (blk_cell b1_ 0).trans rfl)); clear b1_ b2_))
  repeat (go_quiet (fail); try go_wp2)
  go_ret2
  exact ⟨_, by first | rfl | (simp; done), by (with_reducible repeat (first | apply Kd.R_drewN | apply Kd.R_drew)); exact Kd.R_mono HR9.out (fun _ _ => trivial), by repeat (first | (with_reducible first | exact HB8.out | apply pw_below_drewN | apply below_drew1) | exact HB8.out)⟩

end
end Go.Proofs.Ythfpaldhdohnkaa.PTune

