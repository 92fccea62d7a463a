import Derived.Test.YtimjblgepbhoaaaHStays0
import Derived.Test.YtimjblgepbhoaaaHStaysl
import Derived.Test.YtimjblgepbhoaaaHStaysn
import Derived.Test.YtimjblgepbhoaaaHStaysw
namespace Go.Proofs.Ytimjblgepbhoaaa.PStays
noncomputable section
open Go.RowKit Go.Proofs.YtimjblgepbhoaaaW.PrintWords Go.Proofs.YtimjblgepbhoaaaW.PrintLast Go.Proofs.YtimjblgepbhoaaaW.PrintMore
attribute [local go_sem] max2_int min2_int max_two min_two max_three min_three max_four min_four   -- for this text's walks alone
set_option linter.unusedVariables false
set_option linter.unusedSimpArgs false
set_option maxHeartbeats 8000000
set_option maxRecDepth 100000

def impl_HoldingBars.l0 : Nat → List (S113) → List (List Int) → Int → Int → List (S164) → List (S115) → Option (List Int × Int)
 | 0, _, _, _, _, _, _ => none
 | k + 1, x1, x16, x17, x18, x166000, x166001 => if x18 < x17 then (if 0 ≤ x18 then (if x18 < (x16.length : Int) then ((impl_holdsAlone.f k x166000 x166001 x1 (rd_L10 x16 x18)).bind fun bt174 => (if bt174.2.2 = true then (some (rd_L10 x16 x18, 0)) else (impl_HoldingBars.l0 k x1 x16 x17 (wrap64 (x18 + 1)) x166000 x166001))) else (none)) else (none)) else (some (([] : List Int), 10))
def impl_HoldingBars.f (k : Nat) (l0_0 : List (S164)) (l0_1 : List (S115)) (l1 : List (S113)) : Option (List Int × Int) := (impl_ValidLoads.f k l0_0 l0_1 l1).bind fun t166 => (if t166 = true then ((impl_allBars.f k l0_0 l0_1).bind fun t167 => ((impl_barLists.f k t167).bind fun t170 => (impl_HoldingBars.l0 k l1 t170 (t170.length : Int) 0 l0_0 l0_1))) else (some (([] : List Int), 1)))
theorem impl_HoldingBars.mono_l : ∀ k, (∀ y0 y1 y2 y3 y4 y5, LeO (impl_HoldingBars.l0 k y0 y1 y2 y3 y4 y5) (impl_HoldingBars.l0 (k + 1) y0 y1 y2 y3 y4 y5))
 | 0 => fun _ _ _ _ _ _ r h => by simp [impl_HoldingBars.l0] at h
 | k + 1 => by
  have ih0 := impl_HoldingBars.mono_l k
  ·intro y0 y1 y2 y3 y4 y5
   unfold impl_HoldingBars.l0
   have m0 := @impl_ValidLoads.mono; have m1 := @impl_allBars.mono; have m2 := @impl_barLists.mono; have m3 := @impl_holdsAlone.mono; exact zM0
theorem impl_HoldingBars.mono : ∀ a0 a1 a2 k, LeO (impl_HoldingBars.f k a0 a1 a2) (impl_HoldingBars.f (k + 1) a0 a1 a2) := by
 intro a0 a1 a2 k
 have ih0 := impl_HoldingBars.mono_l k
 unfold impl_HoldingBars.f
 have m0 := @impl_ValidLoads.mono; have m1 := @impl_allBars.mono; have m2 := @impl_barLists.mono; have m3 := @impl_holdsAlone.mono; exact zM0
theorem impl_HoldingBars.calls (k : Nat) (A0_0 : Option Addr) (c0_0 : Nat) (l0_0 : List (S164)) (A0_1 : Option Addr) (c0_1 : Nat) (l0_1 : List (S115)) (A1 : Option Addr) (c1 : Nat) (l1 : List (S113)) (r1 : List Int) (r2 : Int) (w : World) (hr0_0 : Kd.C k164 w A0_0 l0_0.length l0_0) (hc0_0 : l0_0.length ≤ c0_0) (hr0_1 : Kd.C k115 w A0_1 l0_1.length l0_1) (hc0_1 : l0_1.length ≤ c0_1) (hr1 : Kd.C k113 w A1 l1.length l1) (hc1 : l1.length ≤ c1) (h : impl_HoldingBars.f k l0_0 l0_1 l1 = some (r1, r2)) :
  Calls Try.prog 17 #[.agg #[.slice A0_0 l0_0.length c0_0, .slice A0_1 l0_1.length c0_1], .slice A1 l1.length c1] w fun e w' => ∃ v0_ : Value, e = .returned (.tuple #[v0_, .int .i64 r2]) ∧ Kd.R (Kd.int .i64) 2 w' w.heap.size (fun _ => True) v0_ r1 ∧ Below w.heap.size w w' := by
 have hu27 := Try.underlying27
 have hu35 := Try.underlying35
 have HR0_0 := zQ hr0_0
 have HC0_0 := zQ hc0_0
 clear hr0_0 hc0_0
 have HR0_1 := zQ hr0_1
 have HC0_1 := zQ hc0_1
 clear hr0_1 hc0_1
 have HR1 := zQ hr1
 have HC1 := zQ hc1
 clear hr1 hc1
 have HB := zQ (Below.refl w.heap.size w)
 have H : ((impl_ValidLoads.f k l0_0 l0_1 l1).bind fun t166 => (if t166 = true then ((impl_allBars.f k l0_0 l0_1).bind fun t167 => ((impl_barLists.f k t167).bind fun t170 => (impl_HoldingBars.l0 k l1 t170 (t170.length : Int) 0 l0_0 l0_1))) else (some (([] : List Int), 1)))) = some (r1, r2) := h
 clear h
 replace H := zob H; obtain ⟨t166, A3, H⟩ := H
 by_cases c4 : t166 = true
 ·subst c4
  rw [if_pos rfl] at H; replace H := zob H; obtain ⟨t167, A5, H⟩ := H; replace H := zob H; obtain ⟨t170, A6, H⟩ := H; have H' := zQ H; clear H
  go_enter Try.func17, Try.ntmps17
  go_wp2_with (first | ((with_reducible refine zd 2 ?_); refine zbx (N := 2) (cs := #[.slice A0_0 l0_0.length c0_0, .slice A0_1 l0_1.length c0_1]) (t := 27) ?_; intro gb165 hg w7 hbox hb; have BK165 := zQ (hbox); have GW165 := zgz hg HB.out; have GE165 := GW165; replace HB := zbs HB.out hb; clear hb hbox hg; obtain ⟨hcz8_0, hcz8_1, hfz8_0, hfz8_1⟩ := zy2 BK165.out) | ((with_reducible refine zgc 67 ?_); refine zgo (some 12) Try.func67 #[.agg #[.slice A0_0 l0_0.length c0_0, .slice A0_1 l0_1.length c0_1], .slice A1 l1.length c1] ?_; (with_reducible refine (impl_ValidLoads.calls k _ _ l0_0 _ _ l0_1 _ _ l1 true _ (zC HR0_0.out HB.out) HC0_0.out (zC HR0_1.out HB.out) HC0_1.out (zC HR1.out HB.out) HC1.out A3.out).mono ?_); rintro e w9 ⟨rfl, hb⟩; refine ⟨_, rfl, ?_⟩; replace BK165 := zbl BK165.out hb; replace HB := zbs2 HB.out GE165.out hb; (try clear hb); obtain ⟨hcz10_0, hcz10_1, hfz10_0, hfz10_1⟩ := zy2 BK165.out) | ((with_reducible refine zgc 69 ?_); refine zgo (some 15) Try.func69 #[.agg #[.slice A0_0 l0_0.length c0_0, .slice A0_1 l0_1.length c0_1]] ?_; (with_reducible refine (impl_allBars.calls k _ _ l0_0 _ _ l0_1 t167 _ (zC HR0_0.out HB.out) HC0_0.out (zC HR0_1.out HB.out) HC0_1.out A5.out).mono ?_); rintro e w11 ⟨v168, rfl, ho0, hb⟩; refine ⟨_, rfl, ?_⟩; have HO169 := zQ (Kd.R_lower ho0 (below_size (zB2 HB.out GE165.out))); replace BK165 := zbl BK165.out hb; replace HB := zbs2 HB.out GE165.out hb; (try clear hb); (try clear ho0); obtain ⟨Ao12, co12, eo12⟩ := Kd.R_slice HO169.out; subst eo12) | ((with_reducible refine zgc 68 ?_); refine zgo (some 16) Try.func68 #[.slice Ao12 t167.length co12] ?_; (with_reducible refine (impl_barLists.calls k _ _ t167 t170 _ ?side1 ((Kd.R_reads' HO169.out).2.1) A6.out).mono ?_); (case side1 => exact zk (Kd.R_reads' HO169.out).2.2); rintro e w13 ⟨v171, rfl, ho0, hb⟩; refine ⟨_, rfl, ?_⟩; have HO172 := zQ (Kd.S_lower (Kd.S_new' ho0 (Kd.R_lt (zR HO169.out))) (below_size (zB2 HB.out GE165.out))); replace HO169 := zRb HO169.out hb; replace BK165 := zbl BK165.out hb; replace HB := zbs2 HB.out GE165.out hb; (try clear hb); (try clear ho0); obtain ⟨Ao14, co14, eo14⟩ := Kd.S_slice HO172.out; subst eo14))
  go_loopg [18] k (fun kq v18 w' => ∃ (x18_1 : Int), v18 = .int .i64 x18_1 ∧ Aside0 (impl_HoldingBars.l0 kq l1 t170 (t170.length : Int) x18_1 l0_0 l0_1 = some (r1, r2)) ∧ Aside0 (kq ≤ k) ∧ Aside0 (Kd.S (Kd.slice 2 (Kd.int .i64)) 31 w' w.heap.size (fun _ => True) (.slice Ao14 t170.length co14) t170) ∧ Aside0 (w'.heap[gb165]? = some (.cells #[(.slice A0_0 l0_0.length c0_0), (.slice A0_1 l0_1.length c0_1)] 27 (0, 0))) ∧ Aside0 (Below w.heap.size w w'))
  case atStart => exact ⟨(0), (zF), H', ⟨Nat.le_refl _⟩, ⟨by (with_reducible repeat (first | apply Kd.S_alloc | apply Kd.S_drewN | apply Kd.S_drew)); exact Kd.S_mono HO172.out (fun _ hk => trivial)⟩, ⟨zb BK165.out⟩, ⟨zB2 HB.out GE165.out⟩⟩
  case round =>
   clear H'; (try clear c1); (try clear p2); (try clear c4); (try clear c6); (try clear hcz10_0 hcz10_1 hfz10_0 hfz10_1); (try clear hcz8_0 hcz8_1 hfz8_0 hfz8_1); obtain ⟨x18_1, rfl, HA, HK1, HO_16, BK165, HB⟩ := hrel
   cases gk with
   | zero => exact absurd HA.out (by simp [impl_HoldingBars.l0])
   | succ k1 =>
    have H := HA.out; clear HA
    simp only [impl_HoldingBars.l0] at H
    by_cases c15 : x18_1 < (t170.length : Int)
    ·rw [if_pos c15] at H
     have c15b0 := decide_eq_true c15; clear c15
     by_cases c16 : 0 ≤ x18_1
     ·rw [if_pos c16] at H
      have c16b0 := decide_eq_true c16; clear c16
      by_cases c17 : x18_1 < (t170.length : Int)
      ·rw [if_pos c17] at H
       have c17b0 := decide_eq_true c17; clear c17; replace H := zob H; obtain ⟨⟨t174, t177, t178⟩, A18, H⟩ := H
       by_cases c19 : t178 = true
       ·subst c19
        rw [if_pos rfl] at H
        simp only [Option.some.injEq, Prod.mk.injEq] at H
        obtain ⟨rfl, rfl⟩ := H; have p173 : 0 ≤ (x18_1 : Int) := zD; have q173 : x18_1 < (t170.length : Int) := zD; obtain ⟨ad173, A173_0, c173_0, e173, hx173_0, hl173_0, hi173_0⟩ := at_L10 (Kd.S_reads' HO_16.out).2.2 x18_1 p173 q173
        cases e173
        obtain ⟨ce173, hce173, hMe173, hcc173⟩ := Kd.S_get HO_16.out [] x18_1 p173 (by first | exact q173 | exact zD | (have e_ := (Kd.S_reads' HO_16.out).1; omega)); obtain ⟨ve173_0, rfl, ge173_0⟩ := hMe173; have hv173_0 := hcc173 0 _ rfl; rw [Nat.add_zero, show ((Kd.slice 2 (Kd.int .i64))).sz = 1 from rfl, Nat.mul_one] at hv173_0; replace hv173_0 := Option.some.inj (hv173_0.symm.trans hx173_0); rw [hv173_0] at ge173_0; have HL173_0 := zQ (show Kd.R (Kd.int .i64) 2 _ _ _ _ (rd_L10 t170 x18_1) from ge173_0); clear hv173_0 ge173_0; clear hcc173 hce173; have HR173_0 := zQ hi173_0; have HC173_0 := zQ hl173_0; clear hi173_0 hl173_0; replace p173 := eq_true p173; replace q173 := eq_true q173; obtain ⟨hcz20_0, hcz20_1, hfz20_0, hfz20_1⟩ := zy2 BK165.out
        go_wp2_with (first | ((with_reducible refine zgc 70 ?_); refine zgo (some 26) Try.func70 #[.agg #[.slice A0_0 l0_0.length c0_0, .slice A0_1 l0_1.length c0_1], .slice A1 l1.length c1, .slice A173_0 (rd_L10 t170 x18_1).length c173_0] ?_; (with_reducible refine (impl_holdsAlone.calls k1 _ _ l0_0 _ _ l0_1 _ _ l1 _ _ (rd_L10 t170 x18_1) t174 t177 true _ (zC HR0_0.out HB.out) HC0_0.out (zC HR0_1.out HB.out) HC0_1.out (zC HR1.out HB.out) HC1.out ?side7 HC173_0.out A18.out).mono ?_); (case side7 => repeat (first | exact (zk HR173_0.out) | (with_reducible refine Kd.C_alloc ?_ _) | (with_reducible refine Kd.C_drewN ?_ _) | (with_reducible refine Kd.C_drew ?_))); rintro e w21 ⟨v175, rfl, ho0, hb⟩; refine ⟨_, rfl, ?_⟩; have HO176 := zQ (Kd.R_lower (Kd.R_new' ho0 (Kd.R_lt (zR HL173_0.out))) (below_size (zB2 HB.out GE165.out))); replace HO_16 := zQ (Kd.S_elder' (zS HO_16.out) (Kd.R_base ho0) hb); replace HL173_0 := zQ (Kd.R_elder' (zR HL173_0.out) (Kd.R_base ho0) hb); replace BK165 := zbl BK165.out hb; replace HR173_0 := zCb HR173_0.out hb; replace HB := zbs2 HB.out GE165.out hb; (try clear hb); (try clear ho0)) | ((with_reducible refine zd 8 ?_); refine zbx (N := 8) (cs := #[.slice none 0 0, .int .i64 0]) (t := 35) ?_; intro gb179 hg w22 hbox hb; have BK179 := zQ (hbox); have GW179 := zgz2 hg HB.out GE165.out; have GE179 := GW179; have NB165_179 := zn1 hg BK165.out; have NB179_165 := zn2 hg BK165.out; replace HO_16 := zQ (Kd.S_below (zS HO_16.out) hb); replace HL173_0 := zRb HL173_0.out hb; replace HO176 := zRb HO176.out hb; replace BK165 := zbl BK165.out hb; replace HR173_0 := zCb HR173_0.out hb; replace HB := zbs2 HB.out GE165.out hb; clear hb hbox hg; obtain ⟨Ao23, co23, eo23⟩ := Kd.R_slice HO176.out; subst eo23; have hnb24 := NB179_165.out; have hnc24 := NB165_179.out; obtain ⟨hcz25_0, hcz25_1, hfz25_0, hfz25_1⟩ := zy2 BK179.out))
        go_ret2
        exact ⟨_, zE, by (with_reducible repeat (first | apply Kd.R_alloc | apply Kd.R_drewN | apply Kd.R_drew)); exact Kd.R_mono (Kd.R_far (p := ⟨gb179, 1, none⟩) (Kd.R_far (p := ⟨gb179, 0, none⟩) (Kd.R_types HL173_0.out BK179.out (by decide)) (fun _ hk => hk.2) (.slice Ao23 t174.length co23)) (fun _ hk => hk.2) (.int .i64 t177)) (fun _ hk => trivial), zB3 HB.out GE165.out GE179.out⟩
       ·replace c19 := Bool.eq_false_iff.mpr c19
        subst c19
        have H1 : (impl_HoldingBars.l0 k1 l1 t170 (t170.length : Int) (wrap64 (x18_1 + 1)) l0_0 l0_1) = some (r1, r2) := by rw [if_neg (show ¬ (false = true) by decide)] at H; exact H
        clear H; have H := H1; clear H1; have H' := zQ H; clear H; have p173 : 0 ≤ (x18_1 : Int) := zD; have q173 : x18_1 < (t170.length : Int) := zD; obtain ⟨ad173, A173_0, c173_0, e173, hx173_0, hl173_0, hi173_0⟩ := at_L10 (Kd.S_reads' HO_16.out).2.2 x18_1 p173 q173
        cases e173
        obtain ⟨ce173, hce173, hMe173, hcc173⟩ := Kd.S_get HO_16.out [] x18_1 p173 (by first | exact q173 | exact zD | (have e_ := (Kd.S_reads' HO_16.out).1; omega)); obtain ⟨ve173_0, rfl, ge173_0⟩ := hMe173; have hv173_0 := hcc173 0 _ rfl; rw [Nat.add_zero, show ((Kd.slice 2 (Kd.int .i64))).sz = 1 from rfl, Nat.mul_one] at hv173_0; replace hv173_0 := Option.some.inj (hv173_0.symm.trans hx173_0); rw [hv173_0] at ge173_0; have HL173_0 := zQ (show Kd.R (Kd.int .i64) 2 _ _ _ _ (rd_L10 t170 x18_1) from ge173_0); clear hv173_0 ge173_0; clear hcc173 hce173; have HR173_0 := zQ hi173_0; have HC173_0 := zQ hl173_0; clear hi173_0 hl173_0; replace p173 := eq_true p173; replace q173 := eq_true q173; obtain ⟨hcz26_0, hcz26_1, hfz26_0, hfz26_1⟩ := zy2 BK165.out
        go_wp2_with (first | ((with_reducible refine zgc 70 ?_); refine zgo (some 26) Try.func70 #[.agg #[.slice A0_0 l0_0.length c0_0, .slice A0_1 l0_1.length c0_1], .slice A1 l1.length c1, .slice A173_0 (rd_L10 t170 x18_1).length c173_0] ?_; (with_reducible refine (impl_holdsAlone.calls k1 _ _ l0_0 _ _ l0_1 _ _ l1 _ _ (rd_L10 t170 x18_1) t174 t177 false _ (zC HR0_0.out HB.out) HC0_0.out (zC HR0_1.out HB.out) HC0_1.out (zC HR1.out HB.out) HC1.out ?side7 HC173_0.out A18.out).mono ?_); (case side7 => repeat (first | exact (zk HR173_0.out) | (with_reducible refine Kd.C_alloc ?_ _) | (with_reducible refine Kd.C_drewN ?_ _) | (with_reducible refine Kd.C_drew ?_))); rintro e w27 ⟨v175, rfl, ho0, hb⟩; refine ⟨_, rfl, ?_⟩; have HO176 := zQ (Kd.R_lower (Kd.R_new' ho0 (Kd.R_lt (zR HL173_0.out))) (below_size (zB2 HB.out GE165.out))); replace HO_16 := zQ (Kd.S_elder' (zS HO_16.out) (Kd.R_base ho0) hb); replace HL173_0 := zQ (Kd.R_elder' (zR HL173_0.out) (Kd.R_base ho0) hb); replace BK165 := zbl BK165.out hb; replace HR173_0 := zCb HR173_0.out hb; replace HB := zbs2 HB.out GE165.out hb; (try clear hb); (try clear ho0)) | ((with_reducible refine zd 8 ?_); refine zbx (N := 8) (cs := #[.slice none 0 0, .int .i64 0]) (t := 35) ?_; intro gb179 hg w28 hbox hb; have BK179 := zQ (hbox); have GW179 := zgz2 hg HB.out GE165.out; have GE179 := GW179; have NB165_179 := zn1 hg BK165.out; have NB179_165 := zn2 hg BK165.out; replace HO_16 := zQ (Kd.S_below (zS HO_16.out) hb); replace HL173_0 := zRb HL173_0.out hb; replace HO176 := zRb HO176.out hb; replace BK165 := zbl BK165.out hb; replace HR173_0 := zCb HR173_0.out hb; replace HB := zbs2 HB.out GE165.out hb; clear hb hbox hg; obtain ⟨Ao29, co29, eo29⟩ := Kd.R_slice HO176.out; subst eo29; have hnb30 := NB179_165.out; have hnc30 := NB165_179.out; obtain ⟨hcz31_0, hcz31_1, hfz31_0, hfz31_1⟩ := zy2 BK179.out))
        go_roundg k1
        case measure => have := HK1.out; omega
        case rel => exact ⟨(wrap64 (x18_1 + 1)), (zF), H', ⟨by have := HK1.out; omega⟩, ⟨by (with_reducible repeat (first | apply Kd.S_alloc | apply Kd.S_drewN | apply Kd.S_drew)); exact Kd.S_mono (Kd.S_far (p := ⟨gb179, 1, none⟩) (Kd.S_far (p := ⟨gb179, 0, none⟩) (Kd.S_types HO_16.out BK179.out (by decide)) (fun _ hk => hk.2) (.slice Ao29 t174.length co29)) (fun _ hk => hk.2) (.int .i64 t177)) (fun _ hk => trivial)⟩, ⟨by refine zb ?_; refine blk_far ?_ NB165_179.out _; refine zb ?_; refine blk_far ?_ NB165_179.out _; refine zb ?_; exact BK165.out⟩, ⟨zB3 HB.out GE165.out GE179.out⟩⟩
      ·rw [if_neg c17] at H
       exact absurd H (by simp)
     ·rw [if_neg c16] at H
      exact absurd H (by simp)
    ·rw [if_neg c15] at H
     have c15b0 := decide_eq_false c15; clear c15
     simp only [Option.some.injEq, Prod.mk.injEq] at H
     obtain ⟨rfl, rfl⟩ := H
     go_wp2
     go_ret2
     exact ⟨_, zE, by first | exact Kd.R_nil _ _ _ _ _ | exact Kd.N_nil _ _ _ _ _ | exact Kd.V_nil _ _ _ _ _ | exact Kd.Q_nil _ _ _ _ _ | exact Kd.S_nil _ _ _ _ _, zB2 HB.out GE165.out⟩
 ·replace c4 := Bool.eq_false_iff.mpr c4
  subst c4
  have H1 : (some (([] : List Int), 1)) = some (r1, r2) := by rw [if_neg (show ¬ (false = true) by decide)] at H; exact H
  clear H; have H := H1; clear H1
  simp only [Option.some.injEq, Prod.mk.injEq] at H
  obtain ⟨rfl, rfl⟩ := H
  go_enter Try.func17, Try.ntmps17
  go_wp2_with (first | ((with_reducible refine zd 2 ?_); refine zbx (N := 2) (cs := #[.slice A0_0 l0_0.length c0_0, .slice A0_1 l0_1.length c0_1]) (t := 27) ?_; intro gb165 hg w32 hbox hb; have BK165 := zQ (hbox); have GW165 := zgz hg HB.out; have GE165 := GW165; replace HB := zbs HB.out hb; clear hb hbox hg; obtain ⟨hcz33_0, hcz33_1, hfz33_0, hfz33_1⟩ := zy2 BK165.out) | ((with_reducible refine zgc 67 ?_); refine zgo (some 12) Try.func67 #[.agg #[.slice A0_0 l0_0.length c0_0, .slice A0_1 l0_1.length c0_1], .slice A1 l1.length c1] ?_; (with_reducible refine (impl_ValidLoads.calls k _ _ l0_0 _ _ l0_1 _ _ l1 false _ (zC HR0_0.out HB.out) HC0_0.out (zC HR0_1.out HB.out) HC0_1.out (zC HR1.out HB.out) HC1.out A3.out).mono ?_); rintro e w34 ⟨rfl, hb⟩; refine ⟨_, rfl, ?_⟩; replace BK165 := zbl BK165.out hb; replace HB := zbs2 HB.out GE165.out hb; (try clear hb)))
  go_ret2
  exact ⟨_, zE, by first | exact Kd.R_nil _ _ _ _ _ | exact Kd.N_nil _ _ _ _ _ | exact Kd.V_nil _ _ _ _ _ | exact Kd.Q_nil _ _ _ _ _ | exact Kd.S_nil _ _ _ _ _, zB2 HB.out GE165.out⟩

mutual
def spec_l11Fewest.l0 : Nat → List (S113) → List Int → List Int → Bool → Int → List (S164) → List (S115) → Option (List Int × Bool)
 | 0, _, _, _, _, _, _, _ => none
 | k + 1, x1, x6, x7, x8, x9, x1000, x1001 => if 0 ≤ (IntKind.u64.wrap ((x6.length : Int))) then (if x9 < (shl .i64 1 (IntKind.u64.wrap ((x6.length : Int)))) then ((spec_l11Part.f k x6 x9).bind fun t236 => (if x8 = true then ((spec_l11Less.f k t236 x7).bind fun t239 => (spec_l11Fewest.j1 k x1 x6 x7 x8 x9 t236 (!t239) x1000 x1001)) else (spec_l11Fewest.j1 k x1 x6 x7 x8 x9 t236 false x1000 x1001))) else (some (x7, x8))) else (none)
def spec_l11Fewest.j1 : Nat → List (S113) → List Int → List Int → Bool → Int → List Int → Bool → List (S164) → List (S115) → Option (List Int × Bool)
 | 0, _, _, _, _, _, _, _, _, _ => none
 | k + 1, x1, x6, x7, x8, x9, x10, x33, x1000, x1001 => if x33 = true then (spec_l11Fewest.l0 k x1 x6 x7 x8 (wrap64 (x9 + 1)) x1000 x1001) else ((spec_l11Holds.f k x1000 x1001 x1 x10).bind fun bt240 => (if bt240.2.2 = true then (spec_l11Fewest.l0 k x1 x6 x10 true (wrap64 (x9 + 1)) x1000 x1001) else (spec_l11Fewest.l0 k x1 x6 x7 x8 (wrap64 (x9 + 1)) x1000 x1001)))
end
def spec_l11Fewest.f (k : Nat) (l0_0 : List (S164)) (l0_1 : List (S115)) (l1 : List (S113)) : Option (List Int × Bool) := (spec_l11All.f k l0_0 l0_1).bind fun t230 => (spec_l11Fewest.l0 k l1 t230 (([] : List Int)) false 0 l0_0 l0_1)
theorem spec_l11Fewest.mono_l : ∀ k, (∀ y0 y1 y2 y3 y4 y5 y6, LeO (spec_l11Fewest.l0 k y0 y1 y2 y3 y4 y5 y6) (spec_l11Fewest.l0 (k + 1) y0 y1 y2 y3 y4 y5 y6)) ∧ (∀ y0 y1 y2 y3 y4 y5 y6 y7 y8, LeO (spec_l11Fewest.j1 k y0 y1 y2 y3 y4 y5 y6 y7 y8) (spec_l11Fewest.j1 (k + 1) y0 y1 y2 y3 y4 y5 y6 y7 y8))
 | 0 => ⟨fun _ _ _ _ _ _ _ r h => by simp [spec_l11Fewest.l0] at h, fun _ _ _ _ _ _ _ _ _ r h => by simp [spec_l11Fewest.j1] at h⟩
 | k + 1 => by
  obtain ⟨ih0, ih1⟩ := spec_l11Fewest.mono_l k
  refine ⟨?_, ?_⟩
  ·intro y0 y1 y2 y3 y4 y5 y6
   unfold spec_l11Fewest.l0
   have m0 := @spec_l11All.mono; have m1 := @spec_l11Holds.mono; have m2 := @spec_l11Less.mono; have m3 := @spec_l11Part.mono; exact zM0
  ·intro y0 y1 y2 y3 y4 y5 y6 y7 y8
   unfold spec_l11Fewest.j1
   have m0 := @spec_l11All.mono; have m1 := @spec_l11Holds.mono; have m2 := @spec_l11Less.mono; have m3 := @spec_l11Part.mono; exact zM0
theorem spec_l11Fewest.mono : ∀ a0 a1 a2 k, LeO (spec_l11Fewest.f k a0 a1 a2) (spec_l11Fewest.f (k + 1) a0 a1 a2) := by
 intro a0 a1 a2 k
 obtain ⟨ih0, ih1⟩ := spec_l11Fewest.mono_l k
 unfold spec_l11Fewest.f
 have m0 := @spec_l11All.mono; have m1 := @spec_l11Holds.mono; have m2 := @spec_l11Less.mono; have m3 := @spec_l11Part.mono; exact zM0
theorem spec_l11Fewest.calls (k : Nat) (g0 : Nat) (A0_0 : Option Addr) (c0_0 : Nat) (l0_0 : List (S164)) (A0_1 : Option Addr) (c0_1 : Nat) (l0_1 : List (S115)) (A1 : Option Addr) (c1 : Nat) (l1 : List (S113)) (r1 : List Int) (r2 : Bool) (w : World) (hbk0 : w.heap[g0]? = some (.cells #[.slice A0_0 l0_0.length c0_0, .slice A0_1 l0_1.length c0_1] 27 (0, 0))) (hr0_0 : Kd.C k164 w A0_0 l0_0.length l0_0) (hc0_0 : l0_0.length ≤ c0_0) (hr0_1 : Kd.C k115 w A0_1 l0_1.length l0_1) (hc0_1 : l0_1.length ≤ c0_1) (hr1 : Kd.C k113 w A1 l1.length l1) (hc1 : l1.length ≤ c1) (h : spec_l11Fewest.f k l0_0 l0_1 l1 = some (r1, r2)) :
  Calls Try.prog 72 #[.pointer (some ⟨g0, 0, none⟩), .slice A1 l1.length c1] w fun e w' => ∃ v0_ : Value, e = .returned (.tuple #[v0_, .bool r2]) ∧ Kd.R (Kd.int .i64) 2 w' w.heap.size (fun _ => True) v0_ r1 ∧ Below w.heap.size w w' := by
 have hu35 := Try.underlying35
 have HR0_0 := zQ hr0_0
 have HC0_0 := zQ hc0_0
 clear hr0_0 hc0_0
 have HR0_1 := zQ hr0_1
 have HC0_1 := zQ hc0_1
 clear hr0_1 hc0_1
 have HR1 := zQ hr1
 have HC1 := zQ hc1
 clear hr1 hc1
 have BK0 := zQ hbk0
 clear hbk0
 have HB := zQ (Below.refl w.heap.size w)
 have H : ((spec_l11All.f k l0_0 l0_1).bind fun t230 => (spec_l11Fewest.l0 k l1 t230 (([] : List Int)) false 0 l0_0 l0_1)) = some (r1, r2) := h
 clear h
 replace H := zob H; obtain ⟨t230, A3, H⟩ := H
 obtain ⟨y233, hy233⟩ : ∃ y_ : List Int, y_ = (([] : List Int)) := ⟨_, rfl⟩
 replace H : (spec_l11Fewest.l0 k l1 t230 y233 false 0 l0_0 l0_1) = some (r1, r2) := zh H
 have Ny233 := zQ hy233
 clear hy233
 have H' := zQ H
 clear H
 go_enter Try.func72, Try.ntmps72
 go_wp2_with (first | ((with_reducible refine zgc 109 ?_); refine zgo (some 14) Try.func109 #[.pointer (some ⟨g0, 0, none⟩)] ?_; (with_reducible refine (spec_l11All.calls k g0 A0_0 c0_0 l0_0 A0_1 c0_1 l0_1 t230 _ (zb BK0.out) ?side2 HC0_0.out ?side4 HC0_1.out A3.out).mono ?_); (case side2 => repeat (first | exact HR0_0.out | (with_reducible refine Kd.C_alloc ?_ _) | (with_reducible refine Kd.C_drewN ?_ _) | (with_reducible refine Kd.C_drew ?_))); (case side4 => repeat (first | exact HR0_1.out | (with_reducible refine Kd.C_alloc ?_ _) | (with_reducible refine Kd.C_drewN ?_ _) | (with_reducible refine Kd.C_drew ?_))); rintro e w4 ⟨v231, rfl, ho0, hb⟩; refine ⟨_, rfl, ?_⟩; have HO232 := zQ (Kd.R_lower ho0 (below_size (zB HB.out))); replace BK0 := zbl BK0.out hb; replace HB := zbs HB.out hb; (try clear hb); (try clear ho0)) | ((with_reducible refine zd 15 ?_); refine Kd.R_lit (Kd.int .i64) _ 2 ?hg (N := 15) ?hd (xs := ([] : List Int)) (inner := []) (ok := fun _ => True) (okp := fun _ => True) ?hr ?hp (fun _ hk => hk) trivial (Below.refl _ _) (Nat.le_refl _) (by simp) ?_; (case hd => rfl); (case hg => rfl); (case hr => first | (go_simp; done) | (go_simp; rfl)); (case hp => exact (Reps.none _ _)); intro v234 w5 ho6 hb hg_ hnew_; clear hg_ hnew_; (first | rw [← Ny233.out] at ho6 | (simp only [Int.reduceToNat] at ho6; rw [← Ny233.out] at ho6)); have HO235 := zQ (Kd.R_lower (Kd.R_new' ho6 (Kd.R_lt (zR HO232.out))) (below_size (zB HB.out))); replace HO232 := zQ (Kd.R_elder' (zR HO232.out) (Kd.R_base ho6) hb); replace BK0 := zbl BK0.out hb; replace HB := zbs HB.out hb; clear hb ho6))
 go_loopg [7, 8, 9] k (fun kq v7 v8 v9 w' => ∃ (x7_1 : List Int) (x8_1 : Bool) (x9_1 : Int), v8 = .bool x8_1 ∧ v9 = .int .i64 x9_1 ∧ Aside0 (spec_l11Fewest.l0 kq l1 t230 x7_1 x8_1 x9_1 l0_0 l0_1 = some (r1, r2)) ∧ Aside0 (kq ≤ k) ∧ Aside0 (Kd.R (Kd.int .i64) 2 w' w.heap.size (fun k_ => some k_ ≠ (v7 : Value).ownBlock) v231 t230) ∧ Aside0 (Kd.R (Kd.int .i64) 2 w' w.heap.size (fun k_ => some k_ ≠ (v231 : Value).ownBlock) v7 x7_1) ∧ Aside0 (w'.heap[g0]? = some (.cells #[(.slice A0_0 l0_0.length c0_0), (.slice A0_1 l0_1.length c0_1)] 27 (0, 0))) ∧ Aside0 (Below w.heap.size w w'))
 case atStart => exact ⟨(y233), (false), (0), (zF), (zF), H', ⟨Nat.le_refl _⟩, ⟨by (with_reducible repeat (first | apply Kd.R_alloc | apply Kd.R_drewN | apply Kd.R_drew)); exact Kd.R_mono HO232.out (fun _ hk => hk.2)⟩, ⟨by (with_reducible repeat (first | apply Kd.R_alloc | apply Kd.R_drewN | apply Kd.R_drew)); exact Kd.R_mono HO235.out (fun _ hk => hk.2)⟩, ⟨zb BK0.out⟩, ⟨zB HB.out⟩⟩
 case round =>
  clear H'; (try clear c1); (try clear p2); obtain ⟨x7_1, x8_1, x9_1, rfl, rfl, HA, HK1, HO_6, HO_7, BK0, HB⟩ := hrel
  cases gk with
  | zero => exact absurd HA.out (by simp [spec_l11Fewest.l0])
  | succ k1 =>
   have H := HA.out; clear HA
   simp only [spec_l11Fewest.l0] at H
   obtain ⟨ji7, hji7⟩ : ∃ j_ : Int, (IntKind.u64.wrap ((t230.length : Int))) = j_ := ⟨_, rfl⟩
   replace H : (if 0 ≤ (ji7) then (if x9_1 < (shl .i64 1 (ji7)) then ((spec_l11Part.f k1 t230 x9_1).bind fun t236 => (if x8_1 = true then ((spec_l11Less.f k1 t236 x7_1).bind fun t239 => (spec_l11Fewest.j1 k1 l1 t230 x7_1 x8_1 x9_1 t236 (!t239) l0_0 l0_1)) else (spec_l11Fewest.j1 k1 l1 t230 x7_1 x8_1 x9_1 t236 false l0_0 l0_1))) else (some (x7_1, x8_1))) else (none)) = some (r1, r2) := by first | (rw [hji7] at H; exact H) | (simp only [hji7] at H ⊢; exact H)
   by_cases c8 : 0 ≤ (ji7)
   ·rw [if_pos c8] at H
    have c8b0 := eq_true c8; have c8b1 := decide_eq_true c8; clear c8; obtain ⟨ji9, hji9⟩ : ∃ j_ : Int, (shl .i64 1 (ji7)) = j_ := ⟨_, rfl⟩
    replace H : (if x9_1 < (ji9) then ((spec_l11Part.f k1 t230 x9_1).bind fun t236 => (if x8_1 = true then ((spec_l11Less.f k1 t236 x7_1).bind fun t239 => (spec_l11Fewest.j1 k1 l1 t230 x7_1 x8_1 x9_1 t236 (!t239) l0_0 l0_1)) else (spec_l11Fewest.j1 k1 l1 t230 x7_1 x8_1 x9_1 t236 false l0_0 l0_1))) else (some (x7_1, x8_1))) = some (r1, r2) := by first | (rw [hji9] at H; exact H) | (simp only [hji9] at H ⊢; exact H)
    have hji9_ : (IntKind.i64.wrap (1 * 2 ^ min (ji7).toNat 64)) = ji9 := hji9; have hji9z : (ji7) ≤ 64 → (IntKind.i64.wrap (1 * 2 ^ (ji7).toNat)) = ji9 := shl_small hji9
    have hji9u : (IntKind.i64.wrap (2 ^ min (ji7).toNat 64)) = ji9 := by have h_ := hji9_; rw [Int.one_mul] at h_; exact h_
    have hji9v : (ji7) ≤ 64 → (IntKind.i64.wrap (2 ^ (ji7).toNat)) = ji9 := fun hle_ => by have h_ := hji9z hle_; rw [Int.one_mul] at h_; exact h_
    have hji9y : (wrap64 (1 * 2 ^ min (ji7).toNat 64)) = ji9 := (i64_w _).symm.trans hji9_
    have hji9x : (ji7) ≤ 64 → (wrap64 (1 * 2 ^ (ji7).toNat)) = ji9 := fun h_ => (i64_w _).symm.trans (hji9z h_)
    by_cases c10 : x9_1 < (ji9)
    ·rw [if_pos c10] at H
     have c10b0 := decide_eq_true c10; clear c10; replace H := zob H; obtain ⟨t236, A11, H⟩ := H; have HC12 := zQ H; clear H; obtain ⟨Ao13, co13, eo13⟩ := Kd.R_slice HO_6.out; subst eo13
     go_upto_region 8 with (first | ((with_reducible refine zgc 111 ?_); refine zgo (some 26) Try.func111 #[.slice Ao13 t230.length co13, .int .i64 x9_1] ?_; (with_reducible refine (spec_l11Part.calls k1 _ _ t230 x9_1 t236 _ ?side1 ((Kd.R_reads' HO_6.out).2.1) A11.out).mono ?_); (case side1 => exact zk (Kd.R_reads' HO_6.out).2.2); rintro e w14 ⟨v237, rfl, ho0, hb⟩; refine ⟨_, rfl, ?_⟩; have HO238 := zQ (Kd.R_lower (Kd.R_new' (Kd.R_new' ho0 (Kd.R_lt (zR HO_6.out))) (Kd.R_lt (zR HO_7.out))) (below_size (zB HB.out))); replace HO_6 := zQ (Kd.R_elder' (zR HO_6.out) (Kd.R_base ho0) hb); replace HO_7 := zQ (Kd.R_elder' (zR HO_7.out) (Kd.R_base ho0) hb); replace BK0 := zbl BK0.out hb; replace HB := zbs HB.out hb; (try clear hb); (try clear ho0)))
     (try simp only [Act.put, List.setIfInBounds_toArray, List.set_cons_zero, List.set_cons_succ])
     go_cut [33] (fun v33 wc => ∃ (kq : Nat) (x33_11 : Bool), v33 = .bool x33_11 ∧ Aside0 (spec_l11Fewest.j1 kq l1 t230 x7_1 x8_1 x9_1 t236 x33_11 l0_0 l0_1 = some (r1, r2)) ∧ Aside0 (kq ≤ k1) ∧ Aside0 (Kd.R (Kd.int .i64) 2 wc w.heap.size (fun k_ => some k_ ≠ (u7 : Value).ownBlock ∧ some k_ ≠ (v237 : Value).ownBlock) (.slice Ao13 t230.length co13) t230) ∧ Aside0 (Kd.R (Kd.int .i64) 2 wc w.heap.size (fun k_ => some k_ ≠ ((.slice Ao13 t230.length co13) : Value).ownBlock ∧ some k_ ≠ (v237 : Value).ownBlock) u7 x7_1) ∧ Aside0 (Kd.R (Kd.int .i64) 2 wc w.heap.size (fun k_ => some k_ ≠ ((.slice Ao13 t230.length co13) : Value).ownBlock ∧ some k_ ≠ (u7 : Value).ownBlock) v237 t236) ∧ Aside0 (wc.heap[g0]? = some (.cells #[(.slice A0_0 l0_0.length c0_0), (.slice A0_1 l0_1.length c0_1)] 27 (0, 0))) ∧ Aside0 (Below w.heap.size w wc))
     case first =>
      have H := HC12.out; clear HC12
      by_cases c15 : x8_1 = true
      ·subst c15
       rw [if_pos rfl] at H; replace H := zob H; obtain ⟨t239, A16, H⟩ := H; have H' := zQ H; clear H; obtain ⟨Ao17, co17, eo17⟩ := Kd.R_slice HO238.out; subst eo17; obtain ⟨Ao18, co18, eo18⟩ := Kd.R_slice HO_7.out; subst eo18
       go_wp2_with (first | (go_at_call 112; (with_reducible refine (spec_l11Less.calls k1 _ _ t236 _ _ x7_1 t239 _ ?side1 ((Kd.R_reads' HO238.out).2.1) ?side3 ((Kd.R_reads' HO_7.out).2.1) A16.out).mono ?_); (case side1 => exact zk (Kd.R_reads' HO238.out).2.2); (case side3 => exact zk (Kd.R_reads' HO_7.out).2.2); rintro e w' ⟨rfl, ⟨nd, rfl⟩⟩))
       go_meet
       case rel => exact ⟨_, (!t239), (zF), H', ⟨by have := HK1.out; first | omega | exact Nat.le_refl _⟩, ⟨zR HO_6.out⟩, ⟨zR HO_7.out⟩, ⟨by (with_reducible repeat (first | apply Kd.R_alloc | apply Kd.R_drewN | apply Kd.R_drew)); exact Kd.R_mono HO238.out (fun _ hk => ⟨hk.1.2, hk.2⟩)⟩, ⟨zb BK0.out⟩, ⟨zB HB.out⟩⟩
      ·replace c15 := Bool.eq_false_iff.mpr c15
       subst c15
       have H1 : (spec_l11Fewest.j1 k1 l1 t230 x7_1 false x9_1 t236 false l0_0 l0_1) = some (r1, r2) := by rw [if_neg (show ¬ (false = true) by decide)] at H; exact H
       clear H; have H := H1; clear H1; have H' := zQ H; clear H
       go_wp2
       go_meet
       case rel => exact ⟨_, (false), (zF), H', ⟨by have := HK1.out; first | omega | exact Nat.le_refl _⟩, ⟨zR HO_6.out⟩, ⟨zR HO_7.out⟩, ⟨by (with_reducible repeat (first | apply Kd.R_alloc | apply Kd.R_drewN | apply Kd.R_drew)); exact Kd.R_mono HO238.out (fun _ hk => ⟨hk.1.2, hk.2⟩)⟩, ⟨zb BK0.out⟩, ⟨zB HB.out⟩⟩
     case rest =>
      clear HC12; (try clear c1); (try clear p2); (try clear p6); (try clear c7); (try clear c8); (try clear c8b0); (try clear c8b1); (try clear c10); (try clear c10b0); (try clear c11); (try clear c15); (try clear p2); obtain ⟨kq, x33_11, rfl, HA, HJ11, HO_6, HO_7, HO_10, BK0, HB⟩ := hcut
      cases kq with
      | zero => exact absurd HA.out (by simp [spec_l11Fewest.j1])
      | succ kj11 =>
       have H := HA.out; clear HA
       simp only [spec_l11Fewest.j1] at H
       by_cases c19 : x33_11 = true
       ·subst c19
        rw [if_pos rfl] at H; have H' := zQ H; clear H
        go_wp2
        go_roundg kj11
        case measure => have := HK1.out; have := HJ11.out; omega
        case rel => exact ⟨(x7_1), (x8_1), (wrap64 (x9_1 + 1)), (zF), (zF), H', ⟨by have := HK1.out; have := HJ11.out; omega⟩, ⟨by (with_reducible repeat (first | apply Kd.R_alloc | apply Kd.R_drewN | apply Kd.R_drew)); exact Kd.R_mono HO_6.out (fun _ hk => hk.1)⟩, ⟨by (with_reducible repeat (first | apply Kd.R_alloc | apply Kd.R_drewN | apply Kd.R_drew)); exact Kd.R_mono HO_7.out (fun _ hk => hk.1)⟩, ⟨zb BK0.out⟩, ⟨zB HB.out⟩⟩
       ·replace c19 := Bool.eq_false_iff.mpr c19
        subst c19
        have H1 : ((spec_l11Holds.f kj11 l0_0 l0_1 l1 t236).bind fun bt240 => (if bt240.2.2 = true then (spec_l11Fewest.l0 kj11 l1 t230 t236 true (wrap64 (x9_1 + 1)) l0_0 l0_1) else (spec_l11Fewest.l0 kj11 l1 t230 x7_1 x8_1 (wrap64 (x9_1 + 1)) l0_0 l0_1))) = some (r1, r2) := by rw [if_neg (show ¬ (false = true) by decide)] at H; exact H
        clear H; have H := H1; clear H1; replace H := zob H; obtain ⟨⟨t240, t243, t244⟩, A20, H⟩ := H
        by_cases c21 : t244 = true
        ·subst c21
         rw [if_pos rfl] at H; have H' := zQ H; clear H; obtain ⟨Ao22, co22, eo22⟩ := Kd.R_slice HO_10.out; subst eo22
         go_wp2_with (first | ((with_reducible refine zgc 74 ?_); refine zgo (some 38) Try.func74 #[.pointer (some ⟨g0, 0, none⟩), .slice A1 l1.length c1, .slice Ao22 t236.length co22] ?_; (with_reducible refine (spec_l11Holds.calls kj11 g0 A0_0 c0_0 l0_0 A0_1 c0_1 l0_1 _ _ l1 _ _ t236 t240 t243 true _ (zb BK0.out) (zC HR0_0.out HB.out) HC0_0.out (zC HR0_1.out HB.out) HC0_1.out (zC HR1.out HB.out) HC1.out ?side8 ((Kd.R_reads' HO_10.out).2.1) A20.out).mono ?_); (case side8 => exact zk (Kd.R_reads' HO_10.out).2.2); rintro e w23 ⟨v241, rfl, ho0, hb⟩; refine ⟨_, rfl, ?_⟩; have HO242 := zQ (Kd.R_lower (Kd.R_new' (Kd.R_new' (Kd.R_new' ho0 (Kd.R_lt (zR HO_6.out))) (Kd.R_lt (zR HO_7.out))) (Kd.R_lt (zR HO_10.out))) (below_size (zB HB.out))); replace HO_6 := zQ (Kd.R_elder' (zR HO_6.out) (Kd.R_base ho0) hb); replace HO_7 := zQ (Kd.R_elder' (zR HO_7.out) (Kd.R_base ho0) hb); replace HO_10 := zQ (Kd.R_elder' (zR HO_10.out) (Kd.R_base ho0) hb); replace BK0 := zbl BK0.out hb; replace HB := zbs HB.out hb; (try clear hb); (try clear ho0)) | ((with_reducible refine zd 11 ?_); refine zbx (N := 11) (cs := #[.slice none 0 0, .int .i64 0]) (t := 35) ?_; intro gb245 hg w24 hbox hb; have BK245 := zQ (hbox); have GW245 := zgz hg HB.out; have GE245 := GW245; have NB0_245 := zn1 hg BK0.out; have NB245_0 := zn2 hg BK0.out; replace HO_6 := zRb HO_6.out hb; replace HO_7 := zRb HO_7.out hb; replace HO_10 := zRb HO_10.out hb; replace HO242 := zRb HO242.out hb; replace BK0 := zbl BK0.out hb; replace HB := zbs HB.out hb; clear hb hbox hg; obtain ⟨Ao25, co25, eo25⟩ := Kd.R_slice HO242.out; subst eo25; have hnb26 := NB245_0.out; have hnc26 := NB0_245.out; obtain ⟨hcz27_0, hcz27_1, hfz27_0, hfz27_1⟩ := zy2 BK245.out))
         go_roundg kj11
         case measure => have := HK1.out; have := HJ11.out; omega
         case rel => exact ⟨(t236), (true), (wrap64 (x9_1 + 1)), (zF), (zF), H', ⟨by have := HK1.out; have := HJ11.out; omega⟩, ⟨by (with_reducible repeat (first | apply Kd.R_alloc | apply Kd.R_drewN | apply Kd.R_drew)); exact Kd.R_mono (Kd.R_far (p := ⟨gb245, 1, none⟩) (Kd.R_far (p := ⟨gb245, 0, none⟩) (Kd.R_types HO_6.out BK245.out (by decide)) (fun _ hk => hk.2) (.slice Ao25 t240.length co25)) (fun _ hk => hk.2) (.int .i64 t243)) (fun _ hk => hk.1.1.2)⟩, ⟨by (with_reducible repeat (first | apply Kd.R_alloc | apply Kd.R_drewN | apply Kd.R_drew)); exact Kd.R_mono (Kd.R_far (p := ⟨gb245, 1, none⟩) (Kd.R_far (p := ⟨gb245, 0, none⟩) (Kd.R_types HO_10.out BK245.out (by decide)) (fun _ hk => hk.2) (.slice Ao25 t240.length co25)) (fun _ hk => hk.2) (.int .i64 t243)) (fun _ hk => hk.1.1.1)⟩, ⟨by refine zb ?_; refine blk_far ?_ NB0_245.out _; refine zb ?_; refine blk_far ?_ NB0_245.out _; refine zb ?_; exact BK0.out⟩, ⟨zB2 HB.out GE245.out⟩⟩
        ·replace c21 := Bool.eq_false_iff.mpr c21
         subst c21
         have H1 : (spec_l11Fewest.l0 kj11 l1 t230 x7_1 x8_1 (wrap64 (x9_1 + 1)) l0_0 l0_1) = some (r1, r2) := by rw [if_neg (show ¬ (false = true) by decide)] at H; exact H
         clear H; have H := H1; clear H1; have H' := zQ H; clear H; obtain ⟨Ao28, co28, eo28⟩ := Kd.R_slice HO_10.out; subst eo28
         go_wp2_with (first | ((with_reducible refine zgc 74 ?_); refine zgo (some 38) Try.func74 #[.pointer (some ⟨g0, 0, none⟩), .slice A1 l1.length c1, .slice Ao28 t236.length co28] ?_; (with_reducible refine (spec_l11Holds.calls kj11 g0 A0_0 c0_0 l0_0 A0_1 c0_1 l0_1 _ _ l1 _ _ t236 t240 t243 false _ (zb BK0.out) (zC HR0_0.out HB.out) HC0_0.out (zC HR0_1.out HB.out) HC0_1.out (zC HR1.out HB.out) HC1.out ?side8 ((Kd.R_reads' HO_10.out).2.1) A20.out).mono ?_); (case side8 => exact zk (Kd.R_reads' HO_10.out).2.2); rintro e w29 ⟨v241, rfl, ho0, hb⟩; refine ⟨_, rfl, ?_⟩; have HO242 := zQ (Kd.R_lower (Kd.R_new' (Kd.R_new' (Kd.R_new' ho0 (Kd.R_lt (zR HO_6.out))) (Kd.R_lt (zR HO_7.out))) (Kd.R_lt (zR HO_10.out))) (below_size (zB HB.out))); replace HO_6 := zQ (Kd.R_elder' (zR HO_6.out) (Kd.R_base ho0) hb); replace HO_7 := zQ (Kd.R_elder' (zR HO_7.out) (Kd.R_base ho0) hb); replace HO_10 := zQ (Kd.R_elder' (zR HO_10.out) (Kd.R_base ho0) hb); replace BK0 := zbl BK0.out hb; replace HB := zbs HB.out hb; (try clear hb); (try clear ho0)) | ((with_reducible refine zd 11 ?_); refine zbx (N := 11) (cs := #[.slice none 0 0, .int .i64 0]) (t := 35) ?_; intro gb245 hg w30 hbox hb; have BK245 := zQ (hbox); have GW245 := zgz hg HB.out; have GE245 := GW245; have NB0_245 := zn1 hg BK0.out; have NB245_0 := zn2 hg BK0.out; replace HO_6 := zRb HO_6.out hb; replace HO_7 := zRb HO_7.out hb; replace HO_10 := zRb HO_10.out hb; replace HO242 := zRb HO242.out hb; replace BK0 := zbl BK0.out hb; replace HB := zbs HB.out hb; clear hb hbox hg; obtain ⟨Ao31, co31, eo31⟩ := Kd.R_slice HO242.out; subst eo31; have hnb32 := NB245_0.out; have hnc32 := NB0_245.out; obtain ⟨hcz33_0, hcz33_1, hfz33_0, hfz33_1⟩ := zy2 BK245.out))
         go_roundg kj11
         case measure => have := HK1.out; have := HJ11.out; omega
         case rel => exact ⟨(x7_1), (x8_1), (wrap64 (x9_1 + 1)), (zF), (zF), H', ⟨by have := HK1.out; have := HJ11.out; omega⟩, ⟨by (with_reducible repeat (first | apply Kd.R_alloc | apply Kd.R_drewN | apply Kd.R_drew)); exact Kd.R_mono (Kd.R_far (p := ⟨gb245, 1, none⟩) (Kd.R_far (p := ⟨gb245, 0, none⟩) (Kd.R_types HO_6.out BK245.out (by decide)) (fun _ hk => hk.2) (.slice Ao31 t240.length co31)) (fun _ hk => hk.2) (.int .i64 t243)) (fun _ hk => hk.1.1.1)⟩, ⟨by (with_reducible repeat (first | apply Kd.R_alloc | apply Kd.R_drewN | apply Kd.R_drew)); exact Kd.R_mono (Kd.R_far (p := ⟨gb245, 1, none⟩) (Kd.R_far (p := ⟨gb245, 0, none⟩) (Kd.R_types HO_7.out BK245.out (by decide)) (fun _ hk => hk.2) (.slice Ao31 t240.length co31)) (fun _ hk => hk.2) (.int .i64 t243)) (fun _ hk => hk.1.1.1)⟩, ⟨by refine zb ?_; refine blk_far ?_ NB0_245.out _; refine zb ?_; refine blk_far ?_ NB0_245.out _; refine zb ?_; exact BK0.out⟩, ⟨zB2 HB.out GE245.out⟩⟩
    ·rw [if_neg c10] at H
     have c10b0 := decide_eq_false c10; clear c10
     simp only [Option.some.injEq, Prod.mk.injEq] at H
     obtain ⟨rfl, rfl⟩ := H; obtain ⟨Ao34, co34, eo34⟩ := Kd.R_slice HO_6.out; subst eo34
     go_wp2
     go_ret2
     exact ⟨_, by first | rfl | (simp [errW_none, errW_some] <;> rfl) | (simp only [← hji7, ← hji9]; first | rfl | (simp [errW_none, errW_some] <;> rfl)) | (simp [*, errW_none, errW_some] <;> rfl), by (with_reducible repeat (first | apply Kd.R_alloc | apply Kd.R_drewN | apply Kd.R_drew)); exact Kd.R_mono HO_7.out (fun _ hk => trivial), zB HB.out⟩
   ·rw [if_neg c8] at H
    exact absurd H (by simp)

end
end Go.Proofs.Ytimjblgepbhoaaa.PStays

