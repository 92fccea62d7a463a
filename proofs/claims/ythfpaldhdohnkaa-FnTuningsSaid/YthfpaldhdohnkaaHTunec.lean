import Derived.Test.YthfpaldhdohnkaaHTune0
import Derived.Test.YthfpaldhdohnkaaHTuneb
namespace Go.Proofs.Ythfpaldhdohnkaa.PTune
noncomputable section
open Go.RowKit Go.Proofs.YthfpaldhdohnkaaW.PrintWords Go.Proofs.YthfpaldhdohnkaaW.PrintLast Go.Proofs.YthfpaldhdohnkaaW.PrintMore
attribute [local go_sem] max2_int min2_int max_two min_two max_three min_three max_four min_four   -- for this text's walks alone
set_option linter.unusedVariables false
set_option linter.unusedSimpArgs false
set_option maxHeartbeats 8000000
set_option maxRecDepth 100000

mutual
def impl_tensionsAfter.l0 : Nat → List Int → List Int → List (List Int) → Int → Int → Option (List Int)
 | 0, _, _, _, _, _ => none
 | k + 1, x1, x5, x15, x16, x17 => if x17 < x16 then (if 0 ≤ x17 then (if x17 < (x15.length : Int) then (impl_tensionsAfter.l1 k x1 x5 x17 x15 x16 x17 (rd_L2 x15 x17) ((rd_L2 x15 x17).length : Int) 0) else (none)) else (none)) else (some x5)
def impl_tensionsAfter.l1 : Nat → List Int → List Int → Int → List (List Int) → Int → Int → List Int → Int → Int → Option (List Int)
 | 0, _, _, _, _, _, _, _, _, _ => none
 | k + 1, x1, x5, x6, x15, x16, x17, x22, x23, x24 => if x24 < x23 then (if 0 ≤ x24 then (if x24 < (x22.length : Int) then (if 0 ≤ x6 then (if x6 < (x5.length : Int) then (if x24 < (x1.length : Int) then (impl_tensionsAfter.l1 k x1 (x5.set (x6 : Int).toNat (wrap64 ((rd x5 x6) + (wrap64 ((rd x22 x24) * (rd x1 x24)))))) x6 x15 x16 x17 x22 x23 (wrap64 (x24 + 1))) else (none)) else (none)) else (none)) else (none)) else (none)) else (impl_tensionsAfter.l0 k x1 x5 x15 x16 (wrap64 (x17 + 1)))
end
def impl_tensionsAfter.f (k : Nat) (l0_0 : List Int) (l0_1 : List (List Int)) (l1 : List Int) : Option (List Int) := (some (([] : List Int) : List Int)).bind fun y180 => (if y180.length + l0_0.length < 17592186044416 then (impl_tensionsAfter.l0 k l1 (y180 ++ l0_0) l0_1 (l0_1.length : Int) 0) else (none))
theorem impl_tensionsAfter.mono_l : ∀ k, (∀ y0 y1 y2 y3 y4, LeO (impl_tensionsAfter.l0 k y0 y1 y2 y3 y4) (impl_tensionsAfter.l0 (k + 1) y0 y1 y2 y3 y4)) ∧ (∀ y0 y1 y2 y3 y4 y5 y6 y7 y8, LeO (impl_tensionsAfter.l1 k y0 y1 y2 y3 y4 y5 y6 y7 y8) (impl_tensionsAfter.l1 (k + 1) y0 y1 y2 y3 y4 y5 y6 y7 y8))
 | 0 => ⟨fun _ _ _ _ _ r h => by simp [impl_tensionsAfter.l0] at h, fun _ _ _ _ _ _ _ _ _ r h => by simp [impl_tensionsAfter.l1] at h⟩
 | k + 1 => by
  obtain ⟨ih0, ih1⟩ := impl_tensionsAfter.mono_l k
  refine ⟨?_, ?_⟩
  ·intro y0 y1 y2 y3 y4
   unfold impl_tensionsAfter.l0
   exact zM0
  ·intro y0 y1 y2 y3 y4 y5 y6 y7 y8
   unfold impl_tensionsAfter.l1
   exact zM0
theorem impl_tensionsAfter.mono : ∀ a0 a1 a2 k, LeO (impl_tensionsAfter.f k a0 a1 a2) (impl_tensionsAfter.f (k + 1) a0 a1 a2) := by
 intro a0 a1 a2 k
 obtain ⟨ih0, ih1⟩ := impl_tensionsAfter.mono_l k
 unfold impl_tensionsAfter.f
 exact zM0
def impl_tensionsAfter.T8 : Bool × List (List Nat × List Nat) := (true, [([], []), ([], []), ([0, 1], [0, 1]), ([2], [2]), ([], []), ([], []), ([], []), ([5, 6], [5, 6]), ([7], [7]), ([4, 8], [4, 8]), ([3, 9], [3, 9]), ([0, 1, 0, 1, 2, 3, 4, 5, 6, 7, 8, 9, 10], [0, 1]), ([11, 10, 0, 1, 2, 3, 4, 5, 6, 7, 8, 9, 10], [10, 11])])
def impl_tensionsAfter.B8 : List Nat := [0, 0, 3, 7, 0, 0, 0, 96, 224, 496, 1023, 2047, 4095]
theorem impl_tensionsAfter.tab8 : rtab .any (opsOf Try.f50 8) = impl_tensionsAfter.T8 := by kernel_rfl
theorem impl_tensionsAfter.bits8 : waitsOk impl_tensionsAfter.T8.2 impl_tensionsAfter.B8 = true := by kernel_rfl
theorem impl_tensionsAfter.calls (k : Nat) (A0_0 : Option Addr) (c0_0 : Nat) (l0_0 : List Int) (A0_1 : Option Addr) (c0_1 : Nat) (l0_1 : List (List Int)) (A1 : Option Addr) (c1 : Nat) (l1 : List Int) (r : List Int) (w : World) (hr0_0 : Kd.C (Kd.int .i64) w A0_0 l0_0.length l0_0) (hc0_0 : l0_0.length ≤ c0_0) (hr0_1 : Kd.C (Kd.slice 2 (Kd.int .i64)) w A0_1 l0_1.length l0_1) (hc0_1 : l0_1.length ≤ c0_1) (hr1 : Kd.C (Kd.int .i64) w A1 l1.length l1) (hc1 : l1.length ≤ c1) (h : impl_tensionsAfter.f k l0_0 l0_1 l1 = some r) :
  Calls Try.prog 50 #[.agg #[.slice A0_0 l0_0.length c0_0, .slice A0_1 l0_1.length c0_1], .slice A1 l1.length c1] w fun e w' => ∃ v0_ : Value, e = .returned (v0_) ∧ Kd.R (Kd.int .i64) 2 w' w.heap.size (fun _ => True) v0_ r ∧ Below w.heap.size w w' := by
 have hu27 := Try.underlying27
 have HR0_0 := zQ hr0_0
 have HC0_0 := zQ hc0_0
 clear hr0_0 hc0_0
 have HR0_1 := zQ hr0_1
 have HC0_1 := zQ hc0_1
 clear hr0_1 hc0_1
 have HR1 := zQ hr1
 have HC1 := zQ hc1
 clear hr1 hc1
 have HB := zQ (Below.refl w.heap.size w)
 have H := h; unfold impl_tensionsAfter.f at H
 clear h
 obtain ⟨y180, hy180⟩ : ∃ y_ : List Int, y_ = (([] : List Int)) := ⟨_, rfl⟩
 replace H : (if y180.length + l0_0.length < 17592186044416 then (impl_tensionsAfter.l0 k l1 (y180 ++ l0_0) l0_1 (l0_1.length : Int) 0) else (none)) = some r := zh H
 have Ny180 := zQ hy180
 clear hy180
 by_cases c3 : y180.length + l0_0.length < 17592186044416
 ·rw [if_pos c3] at H
  have LMc3 := zQ c3; clear c3; obtain ⟨y183, hy183⟩ : ∃ y_ : List Int, y_ = (y180 ++ l0_0) := ⟨_, rfl⟩; replace H : (impl_tensionsAfter.l0 k l1 y183 l0_1 (l0_1.length : Int) 0) = some r := zh H; have Ny183 := zQ hy183; clear hy183; have H' := zQ H; clear H
  go_enter Try.func50, Try.ntmps50
  go_wp2_with (first | ((with_reducible refine zd 2 ?_); refine zbx (N := 2) (cs := #[.slice A0_0 l0_0.length c0_0, .slice A0_1 l0_1.length c0_1]) (t := 27) ?_; intro gb179 hg w4 hbox hb; have BK179 := zQ (hbox); have GW179 := zgz hg HB.out; have GE179 := GW179; replace HB := zbs HB.out hb; clear hb hbox hg) | ((with_reducible refine zd 10 ?_); refine Kd.R_lit (Kd.int .i64) _ 2 ?hg (N := 10) ?hd (xs := ([] : List Int)) (inner := []) (ok := fun _ => True) (okp := fun _ => True) ?hr ?hp (fun _ hk => hk) trivial (Below.refl _ _) (Nat.le_refl _) (by simp) ?_; (case hd => rfl); (case hg => rfl); (case hr => first | (go_simp; done) | (go_simp; rfl)); (case hp => exact (Reps.none _ _)); intro v181 w5 ho6 hb hg_ hnew_; clear hg_ hnew_; (first | rw [← Ny180.out] at ho6 | (simp only [Int.reduceToNat] at ho6; rw [← Ny180.out] at ho6)); have HO182 := zQ (Kd.R_lower ho6 (below_size (zB2 HB.out GE179.out))); replace BK179 := zbl BK179.out hb; replace HB := zbs2 HB.out GE179.out hb; clear hb ho6; obtain ⟨hcz7_0, hcz7_1, hfz7_0, hfz7_1⟩ := zy2 BK179.out) | ((with_reducible refine gate_builtin (b := .append) (xs := #[.tmp 10, .tmp 12]) rfl ?_); at_builtin; refine Kd.R_append_rows (Kd.int .i64) (w0 := w) w.heap.size rfl (.tmp 10) (.tmp 12) 24 2 (.int .i64 0) 8 rfl Try.underlying24 info2 rfl (by decide) (by omega) v181 y180 l0_0 _ _ _ (fun _ => True) (fun _ => False) rfl rfl ?aO ?aR (fun _ _ h => h) (fun _ h => h.elim) ?aF ?aB ?aS ?aL ?_; (case aR => exact zC HR0_0.out HB.out); (case aB => exact (zB2 HB.out GE179.out)); (case aF => exact (fun _ _ => trivial)); (case aO => exact (zR HO182.out)); (case aS => exact (below_size (zB2 HB.out GE179.out))); (case aL => have := LMc3.out; omega); intro v184 w8 ho hb hg hat; rw [← Ny183.out] at ho; have HO185 := zQ (ho); replace BK179 := zQ (blk_grown (g := gb179) (o := .cells #[.slice A0_0 l0_0.length c0_0, .slice A0_1 l0_1.length c0_1] 27 (0, 0)) (zb BK179.out) hg (Kd.R_ne HO182.out BK179.out (by decide))); replace HB := zQ (hb); clear HO182 ho hb hg hat; obtain ⟨hcz9_0, hcz9_1, hfz9_0, hfz9_1⟩ := zy2 BK179.out))
  go_loopg [17] k (fun kq v17 w' => ∃ (x5_1 : List Int) (x17_1 : Int), v17 = .int .i64 x17_1 ∧ Aside0 (impl_tensionsAfter.l0 kq l1 x5_1 l0_1 (l0_1.length : Int) x17_1 = some r) ∧ Aside0 (kq ≤ k) ∧ Aside0 (Kd.R (Kd.int .i64) 2 w' w.heap.size (fun _ => True) v184 x5_1) ∧ Aside0 (w'.heap[gb179]? = some (.cells #[(.slice A0_0 l0_0.length c0_0), (.slice A0_1 l0_1.length c0_1)] 27 (0, 0))) ∧ Aside0 (Below w.heap.size w w'))
  case atStart => exact ⟨(y183), (0), (zF), H', ⟨Nat.le_refl _⟩, ⟨zR HO185.out⟩, ⟨zb BK179.out⟩, ⟨zB2 HB.out GE179.out⟩⟩
  case round =>
   clear H'; (try clear c1); (try clear p2); (try clear c3); (try clear c5); (try clear hcz7_0 hcz7_1 hfz7_0 hfz7_1); (try clear hcz9_0 hcz9_1 hfz9_0 hfz9_1); obtain ⟨x5_1, x17_1, rfl, HA, HK1, HO_5, BK179, HB⟩ := hrel
   cases gk with
   | zero => exact absurd HA.out (by simp [impl_tensionsAfter.l0])
   | succ k1 =>
    have H := HA.out; clear HA
    simp only [impl_tensionsAfter.l0] at H
    by_cases c10 : x17_1 < (l0_1.length : Int)
    ·rw [if_pos c10] at H
     have c10b0 := decide_eq_true c10; clear c10
     by_cases c11 : 0 ≤ x17_1
     ·rw [if_pos c11] at H
      have c11b0 := decide_eq_true c11; clear c11
      by_cases c12 : x17_1 < (l0_1.length : Int)
      ·rw [if_pos c12] at H
       have c12b0 := decide_eq_true c12; clear c12; have H' := zQ H; clear H; have p186 : 0 ≤ (x17_1 : Int) := zD; have q186 : x17_1 < (l0_1.length : Int) := zD; obtain ⟨ad186, A186_0, c186_0, e186, hx186_0, hl186_0, hi186_0⟩ := at_L2 HR0_1.out x17_1 p186 q186
       cases e186
       replace hx186_0 := zw HB.out hx186_0; have HR186_0 := zQ hi186_0; have HC186_0 := zQ hl186_0; clear hi186_0 hl186_0; replace p186 := eq_true p186; replace q186 := eq_true q186
       go_wp2
       go_loopg [24] k1 (fun kq v24 w' => ∃ (x5_2 : List Int) (x24_2 : Int), v24 = .int .i64 x24_2 ∧ Aside0 (impl_tensionsAfter.l1 kq l1 x5_2 x17_1 l0_1 (l0_1.length : Int) x17_1 (rd_L2 l0_1 x17_1) ((rd_L2 l0_1 x17_1).length : Int) x24_2 = some r) ∧ Aside0 (kq ≤ k1) ∧ Aside0 (Kd.R (Kd.int .i64) 2 w' w.heap.size (fun _ => True) v184 x5_2) ∧ Aside0 (w'.heap[gb179]? = some (.cells #[(.slice A0_0 l0_0.length c0_0), (.slice (some ad186) l0_1.length c0_1)] 27 (0, 0))) ∧ Aside0 (Below w.heap.size w w'))
       case atStart => exact ⟨(x5_1), (0), (zF), H', ⟨Nat.le_refl _⟩, ⟨zR HO_5.out⟩, ⟨zb BK179.out⟩, ⟨zB2 HB.out GE179.out⟩⟩
       case round =>
        clear H'; (try clear c1); (try clear p1); (try clear q1); (try clear hx1); (try clear p2); (try clear c3); (try clear c5); (try clear c10); (try clear c10b0); (try clear c11); (try clear c11b0); (try clear c12); (try clear c12b0); (try clear hcz7_0 hcz7_1 hfz7_0 hfz7_1); (try clear hcz9_0 hcz9_1 hfz9_0 hfz9_1); (try clear hx186_0); (try clear p186); (try clear p2); (try clear q186); obtain ⟨x5_2, x24_2, rfl, HA, HK2, HO_5, BK179, HB⟩ := hrel
        cases gk with
        | zero => exact absurd HA.out (by simp [impl_tensionsAfter.l1])
        | succ k2 =>
         have H := HA.out; clear HA
         simp only [impl_tensionsAfter.l1] at H
         by_cases c13 : x24_2 < ((rd_L2 l0_1 x17_1).length : Int)
         ·rw [if_pos c13] at H
          have c13b0 := decide_eq_true c13; clear c13
          by_cases c14 : 0 ≤ x24_2
          ·rw [if_pos c14] at H
           have c14b0 := decide_eq_true c14; clear c14
           by_cases c15 : x24_2 < ((rd_L2 l0_1 x17_1).length : Int)
           ·rw [if_pos c15] at H
            have c15b0 := decide_eq_true c15; clear c15
            by_cases c16 : 0 ≤ x17_1
            ·rw [if_pos c16] at H
             have c16b0 := decide_eq_true c16; clear c16
             by_cases c17 : x17_1 < (x5_2.length : Int)
             ·rw [if_pos c17] at H
              have c17b0 := decide_eq_true c17; clear c17
              by_cases c18 : x24_2 < (l1.length : Int)
              ·rw [if_pos c18] at H
               have c18b0 := decide_eq_true c18; clear c18; obtain ⟨y190, hy190⟩ : ∃ y_ : List Int, y_ = (x5_2.set (x17_1 : Int).toNat (wrap64 ((rd x5_2 x17_1) + (wrap64 ((rd (rd_L2 l0_1 x17_1) x24_2) * (rd l1 x24_2)))))) := ⟨_, rfl⟩; replace H : (impl_tensionsAfter.l1 k2 l1 y190 x17_1 l0_1 (l0_1.length : Int) x17_1 (rd_L2 l0_1 x17_1) ((rd_L2 l0_1 x17_1).length : Int) (wrap64 (x24_2 + 1))) = some r := zh H; have Ny190 := zQ hy190; clear hy190; have H' := zQ H; clear H; have p187 : 0 ≤ (x24_2 : Int) := zD; have q187 : x24_2 < ((rd_L2 l0_1 x17_1).length : Int) := zD; obtain ⟨ad187, e187, hx187_0⟩ := Kd.at_int HR186_0.out x24_2 p187 q187
               cases e187
               replace hx187_0 := zw HB.out hx187_0; replace p187 := eq_true p187; replace q187 := eq_true q187
               try go_wp2
               have n0_ := zQ (Kd.R_drew HO_5.out); have n1_ := zQ (blk_drew BK179.out); have n2_ := zQ (below_drew1 HB.out); clear HO_5; clear BK179; clear HB; have HO_5 := n0_; have BK179 := n1_; have HB := n2_; clear n0_ n1_ n2_; obtain ⟨Ao21, co21, eo21⟩ := Kd.R_slice HO_5.out
               (first | subst eo21 | (injection eo21 with f1_ f2_ f3_; have f4_ := f1_.symm; have f5_ := f3_.symm; clear f1_ f2_ f3_; subst f4_; subst f5_))
               have p188 : 0 ≤ (x17_1 : Int) := zD; have q188 : x17_1 < (x5_2.length : Int) := zD; obtain ⟨ad188, e188, hx188_0⟩ := Kd.at_int (Kd.R_reads' HO_5.out).2.2 x17_1 p188 q188
               cases e188
               replace p188 := eq_true p188; replace q188 := eq_true q188; have p189 : 0 ≤ (x24_2 : Int) := zD; have q189 : x24_2 < (l1.length : Int) := zD; obtain ⟨ad189, e189, hx189_0⟩ := Kd.at_int HR1.out x24_2 p189 q189; have hw189_0 := hx189_0
               cases e189
               replace hx189_0 := zw HB.out hx189_0; replace p189 := eq_true p189; replace q189 := eq_true q189; have p19 : 0 ≤ (x17_1 : Int) := zD; have q19 : (x17_1 : Int) < ((x5_2.length : Int) : Int) := zD; obtain ⟨go19, co19, eo19, gb19, gl19, cl19, HG19⟩ := Kd.R_form HO_5.out (by omega)
               (first | cases eo19 | (injection eo19 with ea_ en_ ec_; (first | subst ea_ | (injection ea_ with ea_; subst ea_)); subst ec_; clear en_))
               have GB19 := zQ gb19; have GG19 := zQ HG19; clear gb19 gl19 HG19
               (first | simp only [add_plain] at hx188_0 | skip)
               obtain ⟨hx19_0, hf19_0⟩ := Kd.R_celln 0 HO_5.out (x17_1 : Int) p19 q19; replace p19 := eq_true p19; replace q19 := eq_true q19; have HP22 := Kd.R_putn HO_5.out (x17_1 : Int) (wrap64 ((rd x5_2 x17_1) + (wrap64 ((rd (rd_L2 l0_1 x17_1) x24_2) * (rd l1 x24_2))))); rw [← Ny190.out] at HP22; have HQ22 := zQ HP22; clear HP22
               refine zs (fun w' => w'.cell? ⟨go19, (x17_1).toNat, none⟩ = some (.int .i64 (rd x5_2 x17_1)) ∧ w'.cell? (ad189.add (x24_2).toNat) = some (.int .i64 (rd l1 x24_2))) [12] 13 ⟨hx188_0, ((HB.out.cell (World.block_lt_of_cell? w _ hw189_0)).trans hw189_0)⟩ (fun hHeld => ?_); refine with_tabW impl_tensionsAfter.tab8 impl_tensionsAfter.bits8 (fun HT_ HW_ => ?_)
               generalize wr.drew = w20 at HO_5 BK179 HB GG19 HQ22 hf19_0 hx188_0 hx189_0 hx19_0 hHeld ⊢
               refine zp 0 29 ?_
               refine zp 1 30 ?_
               refine zp 2 31 ?_
               refine zp 4 33 ?_
               refine zp 5 34 ?_
               refine zp 6 35 ?_
               refine zp 7 36 ?_
               refine zt 3 32 hHeld ?_
               refine zt 8 37 hHeld ?_
               refine zp 9 38 ?_
               refine zp 10 39 ?_
               refine zp 11 40 ?_
               refine last_ (i := 12) (N := none) (zm 13 8191) rfl rfl (one_of HT_.out (by kernel_rfl)) (by decide) (fun K hK => ?_)
               refine skip_ (w1 := ?_) (by rfl) rfl ?_ ?_
               rotate_left
               ·go_simp
                rfl
               refine hK.out _ _ ?_
               clear hK K
               refine done_ (done_of HT_.out (by kernel_rfl)) ?_
               try go_wp2
               go_roundg k2
               case measure => have := HK1.out; have := HK2.out; omega
               case rel => exact ⟨(y190), (wrap64 (x24_2 + 1)), (zF), H', ⟨by have := HK1.out; have := HK2.out; omega⟩, ⟨zR HQ22.out⟩, ⟨by refine zb ?_; refine blk_far ?_ (by have h_ := Kd.R_ne HO_5.out BK179.out (by decide); intro e_; exact h_ (by rw [e_]; rfl)) _; refine zb ?_; exact BK179.out⟩, ⟨zB3 HB.out GB19.out GE179.out⟩⟩
              ·rw [if_neg c18] at H
               exact absurd H (by simp)
             ·rw [if_neg c17] at H
              exact absurd H (by simp)
            ·rw [if_neg c16] at H
             exact absurd H (by simp)
           ·rw [if_neg c15] at H
            exact absurd H (by simp)
          ·rw [if_neg c14] at H
           exact absurd H (by simp)
         ·rw [if_neg c13] at H
          have c13b0 := decide_eq_false c13; clear c13; have H' := zQ H; clear H
          go_wp2
          go_roundg k2
          case measure => have := HK1.out; have := HK2.out; omega
          case rel => exact ⟨(x5_2), (wrap64 (x17_1 + 1)), (zF), H', ⟨by have := HK1.out; have := HK2.out; omega⟩, ⟨zR HO_5.out⟩, ⟨zb BK179.out⟩, ⟨zB2 HB.out GE179.out⟩⟩
      ·rw [if_neg c12] at H
       exact absurd H (by simp)
     ·rw [if_neg c11] at H
      exact absurd H (by simp)
    ·rw [if_neg c10] at H
     have c10b0 := decide_eq_false c10; clear c10; obtain rfl := Option.some.inj H
     go_wp2
     go_ret
     exact ⟨_, zE, zR HO_5.out, zB2 HB.out GE179.out⟩
 ·rw [if_neg c3] at H
  exact absurd H (by simp)

def impl_TensionsAfter.f (k : Nat) (l0_0 : List Int) (l0_1 : List (List Int)) (l1 : List Int) : Option (List Int × Int) := (impl_turnsCode.f k l0_0 l0_1 l1).bind fun t192 => (if t192 = 0 then ((impl_tensionsAfter.f k l0_0 l0_1 l1).bind fun t193 => (some (t193, 0))) else (some (([] : List Int), t192)))
theorem impl_TensionsAfter.calls (k : Nat) (A0_0 : Option Addr) (c0_0 : Nat) (l0_0 : List Int) (A0_1 : Option Addr) (c0_1 : Nat) (l0_1 : List (List Int)) (A1 : Option Addr) (c1 : Nat) (l1 : List Int) (r1 : List Int) (r2 : Int) (w : World) (hr0_0 : Kd.C (Kd.int .i64) w A0_0 l0_0.length l0_0) (hc0_0 : l0_0.length ≤ c0_0) (hr0_1 : Kd.C (Kd.slice 2 (Kd.int .i64)) w A0_1 l0_1.length l0_1) (hc0_1 : l0_1.length ≤ c0_1) (hr1 : Kd.C (Kd.int .i64) w A1 l1.length l1) (hc1 : l1.length ≤ c1) (h : impl_TensionsAfter.f k l0_0 l0_1 l1 = some (r1, r2)) :
  Calls Try.prog 17 #[.agg #[.slice A0_0 l0_0.length c0_0, .slice A0_1 l0_1.length c0_1], .slice A1 l1.length c1] w fun e w' => ∃ v0_ : Value, e = .returned (.tuple #[v0_, .int .i64 r2]) ∧ Kd.R (Kd.int .i64) 2 w' w.heap.size (fun _ => True) v0_ r1 ∧ Below w.heap.size w w' := by
 have hu27 := Try.underlying27
 have HR0_0 := zQ hr0_0
 have HC0_0 := zQ hc0_0
 clear hr0_0 hc0_0
 have HR0_1 := zQ hr0_1
 have HC0_1 := zQ hc0_1
 clear hr0_1 hc0_1
 have HR1 := zQ hr1
 have HC1 := zQ hc1
 clear hr1 hc1
 have HB := zQ (Below.refl w.heap.size w)
 have H := h; unfold impl_TensionsAfter.f at H
 clear h
 replace H := zob H; obtain ⟨t192, A3, H⟩ := H
 by_cases c4 : t192 = 0
 ·rw [if_pos c4] at H
  have c4b0 : (t192 == 0) = true := beq_iff_eq.mpr c4; have c4b1 : (t192 != 0) = false := bne_eq_false_iff_eq.mpr c4; clear c4; replace H := zob H; obtain ⟨t193, A5, H⟩ := H
  simp only [Option.some.injEq, Prod.mk.injEq] at H
  obtain ⟨rfl, rfl⟩ := H
  go_enter Try.func17, Try.ntmps17
  go_wp2_with (first | ((with_reducible refine zd 2 ?_); refine zbx (N := 2) (cs := #[.slice A0_0 l0_0.length c0_0, .slice A0_1 l0_1.length c0_1]) (t := 27) ?_; intro gb191 hg w6 hbox hb; have BK191 := zQ (hbox); have GW191 := zgz hg HB.out; have GE191 := GW191; replace HB := zbs HB.out hb; clear hb hbox hg; obtain ⟨hcz7_0, hcz7_1, hfz7_0, hfz7_1⟩ := zy2 BK191.out) | ((with_reducible refine zgc 49 ?_); refine zgo (some 9) Try.func49 #[.agg #[.slice A0_0 l0_0.length c0_0, .slice A0_1 l0_1.length c0_1], .slice A1 l1.length c1] ?_; (with_reducible refine (impl_turnsCode.calls k _ _ l0_0 _ _ l0_1 _ _ l1 t192 _ (zC HR0_0.out HB.out) HC0_0.out (zC HR0_1.out HB.out) HC0_1.out (zC HR1.out HB.out) HC1.out A3.out).mono ?_); rintro e w8 ⟨rfl, hb⟩; refine ⟨_, rfl, ?_⟩; replace BK191 := zbl BK191.out hb; replace HB := zbs2 HB.out GE191.out hb; (try clear hb); obtain ⟨hcz9_0, hcz9_1, hfz9_0, hfz9_1⟩ := zy2 BK191.out) | ((with_reducible refine zgc 50 ?_); refine zgo (some 15) Try.func50 #[.agg #[.slice A0_0 l0_0.length c0_0, .slice A0_1 l0_1.length c0_1], .slice A1 l1.length c1] ?_; (with_reducible refine (impl_tensionsAfter.calls k _ _ l0_0 _ _ l0_1 _ _ l1 t193 _ (zC HR0_0.out HB.out) HC0_0.out (zC HR0_1.out HB.out) HC0_1.out (zC HR1.out HB.out) HC1.out A5.out).mono ?_); rintro e w10 ⟨v194, rfl, ho0, hb⟩; refine ⟨_, rfl, ?_⟩; have HO195 := zQ (Kd.R_lower ho0 (below_size (zB2 HB.out GE191.out))); replace BK191 := zbl BK191.out hb; replace HB := zbs2 HB.out GE191.out hb; (try clear hb); (try clear ho0)))
  go_ret2
  exact ⟨_, zE, zR HO195.out, zB2 HB.out GE191.out⟩
 ·rw [if_neg c4] at H
  have c4b0 : (t192 == 0) = false := beq_eq_false_iff_ne.mpr c4; have c4b1 : (t192 != 0) = true := bne_iff_ne.mpr c4
  simp only [Option.some.injEq, Prod.mk.injEq] at H
  obtain ⟨rfl, rfl⟩ := H
  go_enter Try.func17, Try.ntmps17
  go_wp2_with (first | ((with_reducible refine zd 2 ?_); refine zbx (N := 2) (cs := #[.slice A0_0 l0_0.length c0_0, .slice A0_1 l0_1.length c0_1]) (t := 27) ?_; intro gb191 hg w11 hbox hb; have BK191 := zQ (hbox); have GW191 := zgz hg HB.out; have GE191 := GW191; replace HB := zbs HB.out hb; clear hb hbox hg; obtain ⟨hcz12_0, hcz12_1, hfz12_0, hfz12_1⟩ := zy2 BK191.out) | ((with_reducible refine zgc 49 ?_); refine zgo (some 9) Try.func49 #[.agg #[.slice A0_0 l0_0.length c0_0, .slice A0_1 l0_1.length c0_1], .slice A1 l1.length c1] ?_; (with_reducible refine (impl_turnsCode.calls k _ _ l0_0 _ _ l0_1 _ _ l1 t192 _ (zC HR0_0.out HB.out) HC0_0.out (zC HR0_1.out HB.out) HC0_1.out (zC HR1.out HB.out) HC1.out A3.out).mono ?_); rintro e w13 ⟨rfl, hb⟩; refine ⟨_, rfl, ?_⟩; replace BK191 := zbl BK191.out hb; replace HB := zbs2 HB.out GE191.out hb; (try clear hb)))
  go_ret2
  exact ⟨_, zE, by first | exact Kd.R_nil _ _ _ _ _ | exact Kd.N_nil _ _ _ _ _ | exact Kd.V_nil _ _ _ _ _ | exact Kd.Q_nil _ _ _ _ _ | exact Kd.S_nil _ _ _ _ _, zB2 HB.out GE191.out⟩

def impl_sizeOfTurns.l0 : Nat → Int → List Int → Int → Int → Option (Int)
 | 0, _, _, _, _ => none
 | k + 1, x3, x6, x7, x8 => if x8 < x7 then (if 0 ≤ x8 then (if x8 < (x6.length : Int) then (impl_sizeOfTurns.l0 k (wrap64 (x3 + (mx (rd x6 x8) (wrap64 (-(rd x6 x8)))))) x6 x7 (wrap64 (x8 + 1))) else (none)) else (none)) else (some x3)
def impl_sizeOfTurns.f (k : Nat) (l0 : List Int) : Option (Int) := impl_sizeOfTurns.l0 k 0 l0 (l0.length : Int) 0
theorem impl_sizeOfTurns.mono_l : ∀ k, (∀ y0 y1 y2 y3, LeO (impl_sizeOfTurns.l0 k y0 y1 y2 y3) (impl_sizeOfTurns.l0 (k + 1) y0 y1 y2 y3))
 | 0 => fun _ _ _ _ r h => by simp [impl_sizeOfTurns.l0] at h
 | k + 1 => by
  have ih0 := impl_sizeOfTurns.mono_l k
  ·intro y0 y1 y2 y3
   unfold impl_sizeOfTurns.l0
   exact zM0
theorem impl_sizeOfTurns.mono : ∀ a0 k, LeO (impl_sizeOfTurns.f k a0) (impl_sizeOfTurns.f (k + 1) a0) := by
 intro a0 k
 have ih0 := impl_sizeOfTurns.mono_l k
 unfold impl_sizeOfTurns.f
 exact zM0
theorem impl_sizeOfTurns.calls (k : Nat) (A0 : Option Addr) (c0 : Nat) (l0 : List Int) (r : Int) (w : World) (hr0 : Kd.C (Kd.int .i64) w A0 l0.length l0) (hc0 : l0.length ≤ c0) (h : impl_sizeOfTurns.f k l0 = some r) :
  Calls Try.prog 51 #[.slice A0 l0.length c0] w fun e w' => e = .returned (.int .i64 r) ∧ Below w.heap.size w w' := by
 have HR0 := zQ hr0
 have HC0 := zQ hc0
 clear hr0 hc0
 have HB := zQ (Below.refl w.heap.size w)
 have H : (impl_sizeOfTurns.l0 k 0 l0 (l0.length : Int) 0) = some r := h
 clear h
 have H' := zQ H
 clear H
 go_enter Try.func51, Try.ntmps51
 go_wp2
 go_loopg [3, 8] k (fun kq v3 v8 w' => ∃ (x3_1 : Int) (x8_1 : Int), v3 = .int .i64 x3_1 ∧ v8 = .int .i64 x8_1 ∧ Aside0 (impl_sizeOfTurns.l0 kq x3_1 l0 (l0.length : Int) x8_1 = some r) ∧ Aside0 (kq ≤ k) ∧ Aside0 (Below w.heap.size w w'))
 case atStart => exact ⟨(0), (0), (zF), (zF), H', ⟨Nat.le_refl _⟩, ⟨zB HB.out⟩⟩
 case round =>
  clear H'; obtain ⟨x3_1, x8_1, rfl, rfl, HA, HK1, HB⟩ := hrel
  cases gk with
  | zero => exact absurd HA.out (by simp [impl_sizeOfTurns.l0])
  | succ k1 =>
   have H := HA.out; clear HA
   simp only [impl_sizeOfTurns.l0] at H
   by_cases c2 : x8_1 < (l0.length : Int)
   ·rw [if_pos c2] at H
    have c2b0 := decide_eq_true c2; clear c2
    by_cases c3 : 0 ≤ x8_1
    ·rw [if_pos c3] at H
     have c3b0 := decide_eq_true c3; clear c3
     by_cases c4 : x8_1 < (l0.length : Int)
     ·rw [if_pos c4] at H
      have c4b0 := decide_eq_true c4; clear c4; obtain ⟨ji5, hji5⟩ : ∃ j_ : Int, (mx (rd l0 x8_1) (wrap64 (-(rd l0 x8_1)))) = j_ := ⟨_, rfl⟩
      replace H : (impl_sizeOfTurns.l0 k1 (wrap64 (x3_1 + (ji5))) l0 (l0.length : Int) (wrap64 (x8_1 + 1))) = some r := by first | (rw [hji5] at H; exact H) | (simp only [hji5] at H ⊢; exact H)
      have hji5_ : (if (rd l0 x8_1) < (wrap64 (-(rd l0 x8_1))) then (wrap64 (-(rd l0 x8_1))) else (rd l0 x8_1)) = ji5 := hji5; have H' := zQ H; clear H; have p196 : 0 ≤ (x8_1 : Int) := zD; have q196 : x8_1 < (l0.length : Int) := zD; obtain ⟨ad196, e196, hx196_0⟩ := Kd.at_int HR0.out x8_1 p196 q196
      cases e196
      replace hx196_0 := zw HB.out hx196_0; replace p196 := eq_true p196; replace q196 := eq_true q196
      go_wp2
      go_roundg k1
      case measure => have := HK1.out; omega
      case rel => exact ⟨(wrap64 (x3_1 + (ji5))), (wrap64 (x8_1 + 1)), (by first | rfl | (simp; done) | (simp only [← hji5] <;> (first | rfl | simp)) | (simp [*]; done)), (zF), H', ⟨by have := HK1.out; omega⟩, ⟨zB HB.out⟩⟩
     ·rw [if_neg c4] at H
      exact absurd H (by simp)
    ·rw [if_neg c3] at H
     exact absurd H (by simp)
   ·rw [if_neg c2] at H
    have c2b0 := decide_eq_false c2; clear c2; obtain rfl := Option.some.inj H
    go_wp2
    go_ret
    exact ⟨zE, zB HB.out⟩

def impl_CountTurns.f (k : Nat) (l0_0 : List Int) (l0_1 : List (List Int)) (l1 : List Int) : Option (Int × Int) := (impl_turnsCode.f k l0_0 l0_1 l1).bind fun t198 => (if t198 = 0 then ((impl_sizeOfTurns.f k l1).bind fun t199 => (some (t199, 0))) else (some (0, t198)))
theorem impl_CountTurns.calls (k : Nat) (A0_0 : Option Addr) (c0_0 : Nat) (l0_0 : List Int) (A0_1 : Option Addr) (c0_1 : Nat) (l0_1 : List (List Int)) (A1 : Option Addr) (c1 : Nat) (l1 : List Int) (r1 : Int) (r2 : Int) (w : World) (hr0_0 : Kd.C (Kd.int .i64) w A0_0 l0_0.length l0_0) (hc0_0 : l0_0.length ≤ c0_0) (hr0_1 : Kd.C (Kd.slice 2 (Kd.int .i64)) w A0_1 l0_1.length l0_1) (hc0_1 : l0_1.length ≤ c0_1) (hr1 : Kd.C (Kd.int .i64) w A1 l1.length l1) (hc1 : l1.length ≤ c1) (h : impl_CountTurns.f k l0_0 l0_1 l1 = some (r1, r2)) :
  Calls Try.prog 18 #[.agg #[.slice A0_0 l0_0.length c0_0, .slice A0_1 l0_1.length c0_1], .slice A1 l1.length c1] w fun e w' => e = .returned (.tuple #[.int .i64 r1, .int .i64 r2]) ∧ Below w.heap.size w w' := by
 have hu27 := Try.underlying27
 have HR0_0 := zQ hr0_0
 have HC0_0 := zQ hc0_0
 clear hr0_0 hc0_0
 have HR0_1 := zQ hr0_1
 have HC0_1 := zQ hc0_1
 clear hr0_1 hc0_1
 have HR1 := zQ hr1
 have HC1 := zQ hc1
 clear hr1 hc1
 have HB := zQ (Below.refl w.heap.size w)
 have H := h; unfold impl_CountTurns.f at H
 clear h
 replace H := zob H; obtain ⟨t198, A3, H⟩ := H
 by_cases c4 : t198 = 0
 ·rw [if_pos c4] at H
  have c4b0 : (t198 == 0) = true := beq_iff_eq.mpr c4; have c4b1 : (t198 != 0) = false := bne_eq_false_iff_eq.mpr c4; clear c4; replace H := zob H; obtain ⟨t199, A5, H⟩ := H
  simp only [Option.some.injEq, Prod.mk.injEq] at H
  obtain ⟨rfl, rfl⟩ := H
  go_enter Try.func18, Try.ntmps18
  go_wp2_with (first | ((with_reducible refine zd 2 ?_); refine zbx (N := 2) (cs := #[.slice A0_0 l0_0.length c0_0, .slice A0_1 l0_1.length c0_1]) (t := 27) ?_; intro gb197 hg w6 hbox hb; have BK197 := zQ (hbox); have GW197 := zgz hg HB.out; have GE197 := GW197; replace HB := zbs HB.out hb; clear hb hbox hg; obtain ⟨hcz7_0, hcz7_1, hfz7_0, hfz7_1⟩ := zy2 BK197.out) | ((with_reducible refine zgc 49 ?_); refine zgo (some 9) Try.func49 #[.agg #[.slice A0_0 l0_0.length c0_0, .slice A0_1 l0_1.length c0_1], .slice A1 l1.length c1] ?_; (with_reducible refine (impl_turnsCode.calls k _ _ l0_0 _ _ l0_1 _ _ l1 t198 _ (zC HR0_0.out HB.out) HC0_0.out (zC HR0_1.out HB.out) HC0_1.out (zC HR1.out HB.out) HC1.out A3.out).mono ?_); rintro e w8 ⟨rfl, hb⟩; refine ⟨_, rfl, ?_⟩; replace BK197 := zbl BK197.out hb; replace HB := zbs2 HB.out GE197.out hb; (try clear hb)) | ((with_reducible refine zgc 51 ?_); refine zgo (some 14) Try.func51 #[.slice A1 l1.length c1] ?_; (with_reducible refine (impl_sizeOfTurns.calls k _ _ l1 t199 _ (zC HR1.out HB.out) HC1.out A5.out).mono ?_); rintro e w9 ⟨rfl, hb⟩; refine ⟨_, rfl, ?_⟩; replace BK197 := zbl BK197.out hb; replace HB := zbs2 HB.out GE197.out hb; (try clear hb)))
  go_ret2
  exact ⟨zE, zB2 HB.out GE197.out⟩
 ·rw [if_neg c4] at H
  have c4b0 : (t198 == 0) = false := beq_eq_false_iff_ne.mpr c4; have c4b1 : (t198 != 0) = true := bne_iff_ne.mpr c4
  simp only [Option.some.injEq, Prod.mk.injEq] at H
  obtain ⟨rfl, rfl⟩ := H
  go_enter Try.func18, Try.ntmps18
  go_wp2_with (first | ((with_reducible refine zd 2 ?_); refine zbx (N := 2) (cs := #[.slice A0_0 l0_0.length c0_0, .slice A0_1 l0_1.length c0_1]) (t := 27) ?_; intro gb197 hg w10 hbox hb; have BK197 := zQ (hbox); have GW197 := zgz hg HB.out; have GE197 := GW197; replace HB := zbs HB.out hb; clear hb hbox hg; obtain ⟨hcz11_0, hcz11_1, hfz11_0, hfz11_1⟩ := zy2 BK197.out) | ((with_reducible refine zgc 49 ?_); refine zgo (some 9) Try.func49 #[.agg #[.slice A0_0 l0_0.length c0_0, .slice A0_1 l0_1.length c0_1], .slice A1 l1.length c1] ?_; (with_reducible refine (impl_turnsCode.calls k _ _ l0_0 _ _ l0_1 _ _ l1 t198 _ (zC HR0_0.out HB.out) HC0_0.out (zC HR0_1.out HB.out) HC0_1.out (zC HR1.out HB.out) HC1.out A3.out).mono ?_); rintro e w12 ⟨rfl, hb⟩; refine ⟨_, rfl, ?_⟩; replace BK197 := zbl BK197.out hb; replace HB := zbs2 HB.out GE197.out hb; (try clear hb)))
  go_ret2
  exact ⟨zE, zB2 HB.out GE197.out⟩

def impl_BackTurns.l0 : Nat → List Int → List Int → Int → Int → Option (List Int × Int)
 | 0, _, _, _, _ => none
 | k + 1, x7, x17, x18, x19 => if x19 < x18 then (if 0 ≤ x19 then (if x19 < (x17.length : Int) then (if x7.length < 17592186044416 then (impl_BackTurns.l0 k (x7 ++ [wrap64 (-(rd x17 x19))]) x17 x18 (wrap64 (x19 + 1))) else (none)) else (none)) else (none)) else (some (x7, 0))
def impl_BackTurns.f (k : Nat) (l0_0 : List Int) (l0_1 : List (List Int)) (l1 : List Int) : Option (List Int × Int) := (impl_turnsCode.f k l0_0 l0_1 l1).bind fun t201 => (if t201 = 0 then (impl_BackTurns.l0 k (([] : List Int)) l1 (l1.length : Int) 0) else (some (([] : List Int), t201)))
theorem impl_BackTurns.calls (k : Nat) (A0_0 : Option Addr) (c0_0 : Nat) (l0_0 : List Int) (A0_1 : Option Addr) (c0_1 : Nat) (l0_1 : List (List Int)) (A1 : Option Addr) (c1 : Nat) (l1 : List Int) (r1 : List Int) (r2 : Int) (w : World) (hr0_0 : Kd.C (Kd.int .i64) w A0_0 l0_0.length l0_0) (hc0_0 : l0_0.length ≤ c0_0) (hr0_1 : Kd.C (Kd.slice 2 (Kd.int .i64)) w A0_1 l0_1.length l0_1) (hc0_1 : l0_1.length ≤ c0_1) (hr1 : Kd.C (Kd.int .i64) w A1 l1.length l1) (hc1 : l1.length ≤ c1) (h : impl_BackTurns.f k l0_0 l0_1 l1 = some (r1, r2)) :
  Calls Try.prog 19 #[.agg #[.slice A0_0 l0_0.length c0_0, .slice A0_1 l0_1.length c0_1], .slice A1 l1.length c1] w fun e w' => ∃ v0_ : Value, e = .returned (.tuple #[v0_, .int .i64 r2]) ∧ Kd.R (Kd.int .i64) 2 w' w.heap.size (fun _ => True) v0_ r1 ∧ Below w.heap.size w w' := by
 have hu27 := Try.underlying27
 have HR0_0 := zQ hr0_0
 have HC0_0 := zQ hc0_0
 clear hr0_0 hc0_0
 have HR0_1 := zQ hr0_1
 have HC0_1 := zQ hc0_1
 clear hr0_1 hc0_1
 have HR1 := zQ hr1
 have HC1 := zQ hc1
 clear hr1 hc1
 have HB := zQ (Below.refl w.heap.size w)
 have H := h; unfold impl_BackTurns.f at H
 clear h
 replace H := zob H; obtain ⟨t201, A3, H⟩ := H
 by_cases c4 : t201 = 0
 ·rw [if_pos c4] at H
  have c4b0 : (t201 == 0) = true := beq_iff_eq.mpr c4; have c4b1 : (t201 != 0) = false := bne_eq_false_iff_eq.mpr c4; clear c4; obtain ⟨y202, hy202⟩ : ∃ y_ : List Int, y_ = (([] : List Int)) := ⟨_, rfl⟩; replace H : (impl_BackTurns.l0 k y202 l1 (l1.length : Int) 0) = some (r1, r2) := zh H; have Ny202 := zQ hy202; clear hy202; have H' := zQ H; clear H
  go_enter Try.func19, Try.ntmps19
  go_wp2_with (first | ((with_reducible refine zd 2 ?_); refine zbx (N := 2) (cs := #[.slice A0_0 l0_0.length c0_0, .slice A0_1 l0_1.length c0_1]) (t := 27) ?_; intro gb200 hg w5 hbox hb; have BK200 := zQ (hbox); have GW200 := zgz hg HB.out; have GE200 := GW200; replace HB := zbs HB.out hb; clear hb hbox hg; obtain ⟨hcz6_0, hcz6_1, hfz6_0, hfz6_1⟩ := zy2 BK200.out) | ((with_reducible refine zgc 49 ?_); refine zgo (some 12) Try.func49 #[.agg #[.slice A0_0 l0_0.length c0_0, .slice A0_1 l0_1.length c0_1], .slice A1 l1.length c1] ?_; (with_reducible refine (impl_turnsCode.calls k _ _ l0_0 _ _ l0_1 _ _ l1 t201 _ (zC HR0_0.out HB.out) HC0_0.out (zC HR0_1.out HB.out) HC0_1.out (zC HR1.out HB.out) HC1.out A3.out).mono ?_); rintro e w7 ⟨rfl, hb⟩; refine ⟨_, rfl, ?_⟩; replace BK200 := zbl BK200.out hb; replace HB := zbs2 HB.out GE200.out hb; (try clear hb)) | ((with_reducible refine zd 16 ?_); refine Kd.R_lit (Kd.int .i64) _ 2 ?hg (N := 16) ?hd (xs := ([] : List Int)) (inner := []) (ok := fun _ => True) (okp := fun _ => True) ?hr ?hp (fun _ hk => hk) trivial (Below.refl _ _) (Nat.le_refl _) (by simp) ?_; (case hd => rfl); (case hg => rfl); (case hr => first | (go_simp; done) | (go_simp; rfl)); (case hp => exact (Reps.none _ _)); intro v203 w8 ho9 hb hg_ hnew_; clear hg_ hnew_; (first | rw [← Ny202.out] at ho9 | (simp only [Int.reduceToNat] at ho9; rw [← Ny202.out] at ho9)); have HO204 := zQ (Kd.R_lower ho9 (below_size (zB2 HB.out GE200.out))); replace BK200 := zbl BK200.out hb; replace HB := zbs2 HB.out GE200.out hb; clear hb ho9))
  go_loopg [7, 19] k (fun kq v7 v19 w' => ∃ (x7_1 : List Int) (x19_1 : Int), v19 = .int .i64 x19_1 ∧ Aside0 (impl_BackTurns.l0 kq x7_1 l1 (l1.length : Int) x19_1 = some (r1, r2)) ∧ Aside0 (kq ≤ k) ∧ Aside0 (Kd.R (Kd.int .i64) 2 w' w.heap.size (fun _ => True) v7 x7_1) ∧ Aside0 (w'.heap[gb200]? = some (.cells #[(.slice A0_0 l0_0.length c0_0), (.slice A0_1 l0_1.length c0_1)] 27 (0, 0))) ∧ Aside0 (Below w.heap.size w w'))
  case atStart => exact ⟨(y202), (0), (zF), H', ⟨Nat.le_refl _⟩, ⟨zR HO204.out⟩, ⟨zb BK200.out⟩, ⟨zB2 HB.out GE200.out⟩⟩
  case round =>
   clear H'; (try clear c1); (try clear p2); (try clear c4); (try clear c4b0); (try clear c4b1); (try clear hcz6_0 hcz6_1 hfz6_0 hfz6_1); obtain ⟨x7_1, x19_1, rfl, HA, HK1, HO_7, BK200, HB⟩ := hrel
   cases gk with
   | zero => exact absurd HA.out (by simp [impl_BackTurns.l0])
   | succ k1 =>
    have H := HA.out; clear HA
    simp only [impl_BackTurns.l0] at H
    by_cases c10 : x19_1 < (l1.length : Int)
    ·rw [if_pos c10] at H
     have c10b0 := decide_eq_true c10; clear c10
     by_cases c11 : 0 ≤ x19_1
     ·rw [if_pos c11] at H
      have c11b0 := decide_eq_true c11; clear c11
      by_cases c12 : x19_1 < (l1.length : Int)
      ·rw [if_pos c12] at H
       have c12b0 := decide_eq_true c12; clear c12
       by_cases c13 : x7_1.length < 17592186044416
       ·rw [if_pos c13] at H
        have LMc13 := zQ c13; clear c13; obtain ⟨y206, hy206⟩ : ∃ y_ : List Int, y_ = (x7_1 ++ [wrap64 (-(rd l1 x19_1))]) := ⟨_, rfl⟩; replace H : (impl_BackTurns.l0 k1 y206 l1 (l1.length : Int) (wrap64 (x19_1 + 1))) = some (r1, r2) := zh H; have Ny206 := zQ hy206; clear hy206; have H' := zQ H; clear H; have p205 : 0 ≤ (x19_1 : Int) := zD; have q205 : x19_1 < (l1.length : Int) := zD; obtain ⟨ad205, e205, hx205_0⟩ := Kd.at_int HR1.out x19_1 p205 q205
        cases e205
        replace hx205_0 := zw HB.out hx205_0; replace p205 := eq_true p205; replace q205 := eq_true q205
        go_wp2_with (first | ((with_reducible refine gate_builtin (b := .append) (xs := #[.tmp 23, .tmp 26]) rfl ?_); at_builtin; refine Kd.R_append (Kd.int .i64) (w0 := w) w.heap.size rfl (.tmp 23) (.tmp 26) 24 2 (.int .i64 0) 8 rfl Try.underlying24 info2 rfl (by decide) (by omega) u7 x7_1 (wrap64 (-(rd l1 x19_1))) [.int .i64 (wrap64 (-(rd l1 x19_1)))] (fun _ => True) (fun _ => False) rfl rfl ?aP (fun _ hk => hk.elim) ?aF ?aO ?aB ?aS ?aL ?_; (case aP => exact rfl); (case aB => exact (zB2 HB.out GE200.out)); (case aF => exact (fun _ _ => trivial)); (case aO => exact (zR HO_7.out)); (case aS => exact (below_size (zB2 HB.out GE200.out))); (case aL => have := LMc13.out; omega); intro v207 w14 ho hb hg hat; rw [← Ny206.out] at ho; have HO208 := zQ (ho); replace BK200 := zQ (blk_grown (g := gb200) (o := .cells #[.slice A0_0 l0_0.length c0_0, .slice A0_1 l0_1.length c0_1] 27 (0, 0)) (zb BK200.out) hg (Kd.R_ne HO_7.out BK200.out (by decide))); replace HB := zQ (hb); clear HO_7 ho hb hg hat))
        go_roundg k1
        case measure => have := HK1.out; omega
        case rel => exact ⟨(y206), (wrap64 (x19_1 + 1)), (zF), H', ⟨by have := HK1.out; omega⟩, ⟨zR HO208.out⟩, ⟨zb BK200.out⟩, ⟨zB2 HB.out GE200.out⟩⟩
       ·rw [if_neg c13] at H
        exact absurd H (by simp)
      ·rw [if_neg c12] at H
       exact absurd H (by simp)
     ·rw [if_neg c11] at H
      exact absurd H (by simp)
    ·rw [if_neg c10] at H
     have c10b0 := decide_eq_false c10; clear c10
     simp only [Option.some.injEq, Prod.mk.injEq] at H
     obtain ⟨rfl, rfl⟩ := H
     go_wp2
     go_ret2
     exact ⟨_, zE, zR HO_7.out, zB2 HB.out GE200.out⟩
 ·rw [if_neg c4] at H
  have c4b0 : (t201 == 0) = false := beq_eq_false_iff_ne.mpr c4; have c4b1 : (t201 != 0) = true := bne_iff_ne.mpr c4
  simp only [Option.some.injEq, Prod.mk.injEq] at H
  obtain ⟨rfl, rfl⟩ := H
  go_enter Try.func19, Try.ntmps19
  go_wp2_with (first | ((with_reducible refine zd 2 ?_); refine zbx (N := 2) (cs := #[.slice A0_0 l0_0.length c0_0, .slice A0_1 l0_1.length c0_1]) (t := 27) ?_; intro gb200 hg w15 hbox hb; have BK200 := zQ (hbox); have GW200 := zgz hg HB.out; have GE200 := GW200; replace HB := zbs HB.out hb; clear hb hbox hg; obtain ⟨hcz16_0, hcz16_1, hfz16_0, hfz16_1⟩ := zy2 BK200.out) | ((with_reducible refine zgc 49 ?_); refine zgo (some 12) Try.func49 #[.agg #[.slice A0_0 l0_0.length c0_0, .slice A0_1 l0_1.length c0_1], .slice A1 l1.length c1] ?_; (with_reducible refine (impl_turnsCode.calls k _ _ l0_0 _ _ l0_1 _ _ l1 t201 _ (zC HR0_0.out HB.out) HC0_0.out (zC HR0_1.out HB.out) HC0_1.out (zC HR1.out HB.out) HC1.out A3.out).mono ?_); rintro e w17 ⟨rfl, hb⟩; refine ⟨_, rfl, ?_⟩; replace BK200 := zbl BK200.out hb; replace HB := zbs2 HB.out GE200.out hb; (try clear hb)))
  go_ret2
  exact ⟨_, zE, by first | exact Kd.R_nil _ _ _ _ _ | exact Kd.N_nil _ _ _ _ _ | exact Kd.V_nil _ _ _ _ _ | exact Kd.Q_nil _ _ _ _ _ | exact Kd.S_nil _ _ _ _ _, zB2 HB.out GE200.out⟩

end
end Go.Proofs.Ythfpaldhdohnkaa.PTune

