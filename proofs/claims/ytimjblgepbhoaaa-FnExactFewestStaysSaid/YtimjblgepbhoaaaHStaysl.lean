import Derived.Test.YtimjblgepbhoaaaHStays0
import Derived.Test.YtimjblgepbhoaaaHStaysa
import Derived.Test.YtimjblgepbhoaaaHStaysc
namespace Go.Proofs.Ytimjblgepbhoaaa.PStays
noncomputable section
open Go.RowKit Go.Proofs.YtimjblgepbhoaaaW.PrintWords Go.Proofs.YtimjblgepbhoaaaW.PrintLast Go.Proofs.YtimjblgepbhoaaaW.PrintMore
attribute [local go_sem] max2_int min2_int max_two min_two max_three min_three max_four min_four   -- for this text's walks alone
set_option linter.unusedVariables false
set_option linter.unusedSimpArgs false
set_option maxHeartbeats 8000000
set_option maxRecDepth 100000

def impl_freeKnots.l0 : Nat → List Int → List (S164) → Int → Int → Option (List Int)
 | 0, _, _, _, _ => none
 | k + 1, x3, x8, x9, x10 => if x10 < x9 then (if 0 ≤ x10 then (if x10 < (x8.length : Int) then (if ((rd_T164 x8 x10).f2 = true) then (impl_freeKnots.l0 k x3 x8 x9 (wrap64 (x10 + 1))) else (if x3.length < 17592186044416 then (impl_freeKnots.l0 k (x3 ++ [x10]) x8 x9 (wrap64 (x10 + 1))) else (none))) else (none)) else (none)) else (some x3)
def impl_freeKnots.f (k : Nat) (l0_0 : List (S164)) (l0_1 : List (S115)) : Option (List Int) := impl_freeKnots.l0 k (([] : List Int)) l0_0 (l0_0.length : Int) 0
theorem impl_freeKnots.calls (k : Nat) (A0_0 : Option Addr) (c0_0 : Nat) (l0_0 : List (S164)) (A0_1 : Option Addr) (c0_1 : Nat) (l0_1 : List (S115)) (r : List Int) (w : World) (rA : Kd.C k164 w A0_0 l0_0.length l0_0) (tA : l0_0.length ≤ c0_0) (qA : Kd.C k115 w A0_1 l0_1.length l0_1) (sA : l0_1.length ≤ c0_1) (h : impl_freeKnots.f k l0_0 l0_1 = some r) :
  Calls Try.prog 93 #[.agg #[.slice A0_0 l0_0.length c0_0, .slice A0_1 l0_1.length c0_1]] w fun e w' => ∃ v0_ : Value, e = .returned (v0_) ∧ Kd.R (Kd.int .i64) 2 w' w.heap.size (fun _ => True) v0_ r ∧ Below w.heap.size w w' := by
 have DB := Try.underlying27
 have EB := Try.underlying164
 have BA := zQ rA
 have cB := zQ tA
 clear rA tA
 have ZA := zQ qA
 have bB := zQ sA
 clear qA sA
 have HB := zQ (Below.refl w.heap.size w)
 have H := h; unfold impl_freeKnots.f at H
 clear h
 obtain ⟨BB, gB⟩ : ∃ y_ : List Int, y_ = (([] : List Int)) := ⟨_, rfl⟩
 replace H : (impl_freeKnots.l0 k BB l0_0 (l0_0.length : Int) 0) = some r := zh H
 have mB := zQ gB
 clear gB
 have H' := zQ H
 clear H
 go_enter Try.func93, Try.ntmps93
 go_wp2_with (first | ((with_reducible refine zd 1 ?_); refine zbx (N := 1) (cs := #[.slice A0_0 l0_0.length c0_0, .slice A0_1 l0_1.length c0_1]) (t := 27) ?_; intro jB hg w2 aA hb; have fA := zQ (aA); have RB := zgz hg HB.out; have mA := RB; replace HB := zbs HB.out hb; clear hb aA hg) | ((with_reducible refine zd 6 ?_); refine Kd.R_lit (Kd.int .i64) _ 2 ?hg (N := 6) ?hd (xs := ([] : List Int)) (inner := []) (ok := fun _ => True) (okp := fun _ => True) ?hr ?hp (fun _ hk => hk) trivial (Below.refl _ _) (Nat.le_refl _) (by simp) ?_; (case hd => rfl); (case hg => rfl); (case hr => first | (go_simp; done) | (go_simp; rfl)); (case hp => exact (Reps.none _ _)); intro cD w3 FB hb hg_ hnew_; clear hg_ hnew_; (first | rw [← mB.out] at FB | (simp only [Int.reduceToNat] at FB; rw [← mB.out] at FB)); have PB := zQ (Kd.R_lower FB (below_size (zB2 HB.out mA.out))); replace fA := zbl fA.out hb; replace HB := zbs2 HB.out mA.out hb; clear hb FB; obtain ⟨uB, tB, sB, rB⟩ := zy2 fA.out))
 go_loopg [3, 10] k (fun kq v3 fD w' => ∃ (yA : List Int) (bA : Int), fD = .int .i64 bA ∧ Aside0 (impl_freeKnots.l0 kq yA l0_0 (l0_0.length : Int) bA = some r) ∧ Aside0 (kq ≤ k) ∧ Aside0 (Kd.R (Kd.int .i64) 2 w' w.heap.size (fun _ => True) v3 yA) ∧ Aside0 (w'.heap[jB]? = some (.cells #[(.slice A0_0 l0_0.length c0_0), (.slice A0_1 l0_1.length c0_1)] 27 (0, 0))) ∧ Aside0 (Below w.heap.size w w'))
 case atStart => exact ⟨(BB), (0), (zF), H', ⟨Nat.le_refl _⟩, ⟨zR PB.out⟩, ⟨zb fA.out⟩, ⟨zB2 HB.out mA.out⟩⟩
 case round =>
  clear H'; (try clear p2); (try clear uB tB sB rB); obtain ⟨yA, bA, rfl, HA, wC, zA, fA, HB⟩ := hrel
  cases gk with
  | zero => exact absurd HA.out (by simp [impl_freeKnots.l0])
  | succ k1 =>
   have H := HA.out; clear HA
   simp only [impl_freeKnots.l0] at H
   by_cases c6 : bA < (l0_0.length : Int)
   ·rw [if_pos c6] at H
    have DC := decide_eq_true c6; clear c6
    by_cases c7 : 0 ≤ bA
    ·rw [if_pos c7] at H
     have hD := decide_eq_true c7; clear c7
     by_cases c8 : bA < (l0_0.length : Int)
     ·rw [if_pos c8] at H
      have gD := decide_eq_true c8; clear c8; obtain ⟨bq9, vB⟩ : ∃ b_ : Bool, b_ = ((rd_T164 l0_0 bA).f2) := ⟨_, rfl⟩
      replace H : (if (bq9 = true) then (impl_freeKnots.l0 k1 yA l0_0 (l0_0.length : Int) (wrap64 (bA + 1))) else (if yA.length < 17592186044416 then (impl_freeKnots.l0 k1 (yA ++ [bA]) l0_0 (l0_0.length : Int) (wrap64 (bA + 1))) else (none))) = some r := by rw [← vB] at H; exact H
      have Nbq9 := zQ vB; clear vB
      by_cases vC : (bq9 = true)
      ·subst vC
       rw [if_pos rfl] at H; have H' := zQ H; clear H; have IA : 0 ≤ (bA : Int) := zD; have GA : bA < (l0_0.length : Int) := zD; obtain ⟨lB, wB, oA, nA, lA⟩ := at_T164 BA.out bA IA GA
       (try rw [← Nbq9.out] at lA)
       cases wB
       replace oA := zw HB.out oA; replace nA := zw HB.out nA; replace lA := zw HB.out lA; replace IA := eq_true IA; replace GA := eq_true GA
       go_wp2_with (first | ((with_reducible refine zd 5 ?_); refine zbx (N := 5) (cs := #[.int .i64 0, .int .i64 0, .bool false]) (t := 164) ?_; intro uA hg aD aA hb; have vA := zQ (aA); have dB := zgz2 hg HB.out mA.out; have EA := dB; have eA := zn1 hg fA.out; have pA := zn2 hg fA.out; replace zA := zRb zA.out hb; replace fA := zbl fA.out hb; replace HB := zbs2 HB.out mA.out hb; clear hb aA hg; have UC := pA.out; have PC := eA.out; obtain ⟨rC, qC, pC, fC, eC, dC⟩ := zy3 vA.out))
       go_roundg k1
       case measure => have := wC.out; omega
       case rel => exact ⟨(yA), (wrap64 (bA + 1)), (zF), H', ⟨by have := wC.out; omega⟩, ⟨by (with_reducible repeat (first | apply Kd.R_alloc | apply Kd.R_drewN | apply Kd.R_drew)); exact Kd.R_mono (Kd.R_far (p := ⟨uA, 2, none⟩) (Kd.R_far (p := ⟨uA, 1, none⟩) (Kd.R_far (p := ⟨uA, 0, none⟩) (Kd.R_types zA.out vA.out (by decide)) (fun _ hk => hk.2) (.int .i64 ((rd_T164 l0_0 bA).f0))) (fun _ hk => hk.2) (.int .i64 ((rd_T164 l0_0 bA).f1))) (fun _ hk => hk.2) (.bool true)) (fun _ hk => trivial)⟩, ⟨by refine zb ?_; refine blk_far ?_ eA.out _; refine zb ?_; refine blk_far ?_ eA.out _; refine zb ?_; refine blk_far ?_ eA.out _; refine zb ?_; exact fA.out⟩, ⟨zB3 HB.out mA.out EA.out⟩⟩
      ·replace vC := Bool.eq_false_iff.mpr vC
       subst vC
       rw [if_neg Bool.false_ne_true] at H
       by_cases eB : yA.length < 17592186044416
       ·rw [if_pos eB] at H
        have MB := zQ eB; clear eB; obtain ⟨AB, fB⟩ : ∃ y_ : List Int, y_ = (yA ++ [bA]) := ⟨_, rfl⟩; replace H : (impl_freeKnots.l0 k1 AB l0_0 (l0_0.length : Int) (wrap64 (bA + 1))) = some r := zh H; have LB := zQ fB; clear fB; have H' := zQ H; clear H; have IA : 0 ≤ (bA : Int) := zD; have GA : bA < (l0_0.length : Int) := zD; obtain ⟨lB, wB, oA, nA, lA⟩ := at_T164 BA.out bA IA GA
        (try rw [← Nbq9.out] at lA)
        cases wB
        replace oA := zw HB.out oA; replace nA := zw HB.out nA; replace lA := zw HB.out lA; replace IA := eq_true IA; replace GA := eq_true GA
        go_wp2_with (first | ((with_reducible refine zd 5 ?_); refine zbx (N := 5) (cs := #[.int .i64 0, .int .i64 0, .bool false]) (t := 164) ?_; intro uA hg nD aA hb; have vA := zQ (aA); have dB := zgz2 hg HB.out mA.out; have EA := dB; have eA := zn1 hg fA.out; have pA := zn2 hg fA.out; replace zA := zRb zA.out hb; replace fA := zbl fA.out hb; replace HB := zbs2 HB.out mA.out hb; clear hb aA hg; have TC := pA.out; have OC := eA.out; obtain ⟨oC, nC, mC, cC, bC, aC⟩ := zy3 vA.out) | ((with_reducible refine gate_builtin (b := .append) (xs := #[.tmp 18, .tmp 20]) rfl ?_); at_builtin; refine Kd.R_append (Kd.int .i64) (w0 := w) w.heap.size rfl (.tmp 18) (.tmp 20) 31 2 (.int .i64 0) 8 rfl Try.underlying31 info2 rfl (by decide) (by omega) u3 yA bA [.int .i64 bA] (fun _ => True) (fun _ => False) rfl (by first | (go_simp; done) | (go_simp; rfl)) ?aP (fun _ hk => hk.elim) ?aF ?aO ?aB ?aS ?aL ?_; (case aP => exact rfl); (case aB => exact (zB3 HB.out mA.out EA.out)); (case aF => exact (fun _ _ => trivial)); (case aO => exact (by (with_reducible repeat (first | apply Kd.R_alloc | apply Kd.R_drewN | apply Kd.R_drew)); exact Kd.R_mono (Kd.R_far (p := ⟨uA, 2, none⟩) (Kd.R_far (p := ⟨uA, 1, none⟩) (Kd.R_far (p := ⟨uA, 0, none⟩) (Kd.R_types zA.out vA.out (by decide)) (fun _ hk => hk.2) (.int .i64 ((rd_T164 l0_0 bA).f0))) (fun _ hk => hk.2) (.int .i64 ((rd_T164 l0_0 bA).f1))) (fun _ hk => hk.2) (.bool false)) (fun _ hk => trivial))); (case aS => exact (below_size (zB3 HB.out mA.out EA.out))); (case aL => have := MB.out; omega); intro bD mD ho hb hg hat; rw [← LB.out] at ho; have OB := zQ (ho); replace fA := zQ (blk_grown (g := jB) (o := .cells #[.slice (some lB) l0_0.length c0_0, .slice A0_1 l0_1.length c0_1] 27 (0, 0)) (by refine zb ?_; refine blk_far ?_ eA.out _; refine zb ?_; refine blk_far ?_ eA.out _; refine zb ?_; refine blk_far ?_ eA.out _; refine zb ?_; exact fA.out) hg (Kd.R_ne zA.out fA.out (by decide))); replace vA := zQ (blk_grown (g := uA) (o := .cells #[.int .i64 ((rd_T164 l0_0 bA).f0), .int .i64 ((rd_T164 l0_0 bA).f1), .bool false] 164 (0, 0)) (by refine zb ?_; refine blk_put (cs := #[.int .i64 ((rd_T164 l0_0 bA).f0), .int .i64 ((rd_T164 l0_0 bA).f1), .bool false]) ?_ 2 _ rfl; refine zb ?_; refine blk_put (cs := #[.int .i64 ((rd_T164 l0_0 bA).f0), .int .i64 0, .bool false]) ?_ 1 _ rfl; refine zb ?_; refine blk_put (cs := #[.int .i64 0, .int .i64 0, .bool false]) ?_ 0 _ rfl; refine zb ?_; exact vA.out) hg (Kd.R_ne zA.out vA.out (by decide))); replace HB := zQ (hb); clear zA ho hb hg hat))
        go_roundg k1
        case measure => have := wC.out; omega
        case rel => exact ⟨(AB), (wrap64 (bA + 1)), (zF), H', ⟨by have := wC.out; omega⟩, ⟨zR OB.out⟩, ⟨zb fA.out⟩, ⟨zB3 HB.out mA.out EA.out⟩⟩
       ·rw [if_neg eB] at H
        exact absurd H (by simp)
     ·rw [if_neg c8] at H
      exact absurd H (by simp)
    ·rw [if_neg c7] at H
     exact absurd H (by simp)
   ·rw [if_neg c6] at H
    have DC := decide_eq_false c6; clear c6; obtain rfl := Option.some.inj H
    go_wp2
    go_ret
    exact ⟨_, zE, zR zA.out, zB2 HB.out mA.out⟩

theorem fk_at {kn : List S164} (hk : kn.length ≤ 8) : ∀ j i, i + j = kn.length → impl_freeKnots.l0 (j + 1) (fkU kn i) kn (kn.length : Int) (i : Int) = some (fkU kn kn.length)
 | 0, i, h => by
  obtain rfl : i = kn.length := by omega
  simp only [impl_freeKnots.l0]
  rw [if_neg (by omega)]
 | j + 1, i, h => by
  have e := fk_at hk j (i + 1) (by omega)
  have hl : (fkU kn i).length ≤ i := by rw [fkU_len]; exact free_len kn i
  rw [fkU_next] at e; rw [impl_freeKnots.l0, if_pos (by omega), if_pos (by omega), if_pos (by omega), show wrap64 ((i : Int) + 1) = ((i + 1 : Nat) : Int) from by unfold wrap64; omega]
  by_cases hf : (rd_T164 kn (i : Int)).f2 = true
  ·rw [if_pos hf]; rwa [if_pos hf] at e
  ·rw [if_neg hf, if_pos (by omega)]; rwa [if_neg hf] at e
theorem within_dec (a b c : Int) : impl_within.f a b c = some (decide (b ≤ a ∧ a ≤ c)) := by
 unfold impl_within.f
 by_cases h : a ≥ b
 ·rw [if_pos h]
  by_cases h2 : a ≤ c
  ·rw [decide_eq_true h2, decide_eq_true (show b ≤ a ∧ a ≤ c from ⟨h, h2⟩)]
  ·rw [decide_eq_false h2, decide_eq_false (fun h3 => h2 h3.2)]
 ·rw [if_neg h, decide_eq_false (fun h3 => h h3.1)]
noncomputable def impl_ValidFrame.f (k : Nat) (l0_0 : List S164) (l0_1 : List S115) : Option Bool := some (frB l0_0 l0_1)
theorem impl_ValidFrame.calls (k : Nat) (A0_0 : Option Addr) (c0_0 : Nat) (l0_0 : List (S164)) (A0_1 : Option Addr) (c0_1 : Nat) (l0_1 : List (S115)) (r : Bool) (w : World) (rA : Kd.C k164 w A0_0 l0_0.length l0_0) (tA : l0_0.length ≤ c0_0) (qA : Kd.C k115 w A0_1 l0_1.length l0_1) (sA : l0_1.length ≤ c0_1) (h : impl_ValidFrame.f k l0_0 l0_1 = some r) :
  Calls Try.prog 115 #[.agg #[.slice A0_0 l0_0.length c0_0, .slice A0_1 l0_1.length c0_1]] w fun e w' => e = .returned (.bool r) ∧ Below w.heap.size w w' := by
 obtain rfl := Option.some.inj h
 clear h
 have DB := Try.underlying27
 have EB := Try.underlying164
 have IC := Try.underlying115
 have zB := zQ rA
 have FC := zQ tA
 have nB := zQ qA
 have xC := zQ sA
 clear rA tA qA sA
 go_enter Try.func115, Try.ntmps115
 by_cases h8 : l0_0.length ≤ 8
 ·have k8a : decide (8 < (l0_0.length : Int)) = false := decide_eq_false (by omega)
  have k8b : decide (8 < l0_0.length) = false := decide_eq_false (by omega)
  by_cases h9 : l0_1.length ≤ 8
  ·have k9a : decide (8 < (l0_1.length : Int)) = false := decide_eq_false (by omega)
   have k9b : decide (8 < l0_1.length) = false := decide_eq_false (by omega); have FK := zQ (show impl_freeKnots.f (l0_0.length + 1) l0_0 l0_1 = some (fkU l0_0 l0_0.length) from fk_at h8 l0_0.length 0 (by omega)); have H8 := zQ h8; have H9 := zQ h9
   by_cases h3 : (fkU l0_0 l0_0.length).length ≤ 3
   ·have k3a : decide (3 < ((fkU l0_0 l0_0.length).length : Int)) = false := decide_eq_false (by omega)
    have k3b : decide (3 < (fkU l0_0 l0_0.length).length) = false := decide_eq_false (by omega); have H3 := zQ (show ((List.range l0_0.length).filter (freeB l0_0)).length ≤ 3 from by rw [← fkU_len]; exact h3); clear h3 h8 h9
    go_wp2_with (first | ((with_reducible refine zd 1 ?_); (try (refine gate_guard (by rfl) ?_; dsimp only)); refine zbx (N := 1) (cs := #[.slice A0_0 l0_0.length c0_0, .slice A0_1 l0_1.length c0_1]) (t := 27) ?_; intro g0 hg w1 aA hb; have HF1 := zQ (show FW w g0 A0_0 c0_0 l0_0 A0_1 c0_1 l0_1 w1 from ⟨aA, hb⟩); have cz0 : w1.cell? ⟨g0, 0, none⟩ = some (.slice A0_0 l0_0.length c0_0) := (blk_cell aA 0).trans rfl; have cz1 : w1.cell? ⟨g0, 1, none⟩ = some (.slice A0_1 l0_1.length c0_1) := (blk_cell aA 1).trans rfl; clear aA hb hg) | (go_at_call 93; (with_reducible refine (impl_freeKnots.calls (l0_0.length + 1) _ _ l0_0 _ _ l0_1 (fkU l0_0 l0_0.length) _ (Kd.C_below zB.out HF1.out.hb) FC.out (Kd.C_below nB.out HF1.out.hb) xC.out FK.out).mono ?_); rintro e w2 ⟨v2, rfl, ho, hb⟩; have HF2 := zQ (HF1.out.below hb); obtain ⟨A2, c2, e2⟩ := Kd.R_slice ho; subst e2; have cy0 : w2.cell? ⟨g0, 0, none⟩ = some (.slice A0_0 l0_0.length c0_0) := (blk_cell HF2.out.bk 0).trans rfl; have cy1 : w2.cell? ⟨g0, 1, none⟩ = some (.slice A0_1 l0_1.length c0_1) := (blk_cell HF2.out.bk 1).trans rfl; clear ho hb))
    clear k8a k8b k9a k9b k3a k3b cz0 cz1 HF1 cy0 cy1
    go_loopw [30] (fun v wr => ∃ (i : Nat), v = .int .i64 (i : Int) ∧ Aside0 (i ≤ l0_0.length ∧ ∀ j, j < i → KnP l0_0 j) ∧ Aside0 (FW w g0 A0_0 c0_0 l0_0 A0_1 c0_1 l0_1 wr)) (fun v _ => ((9 : Int) - intOf v).toNat)
    case atStart => exact ⟨0, rfl, ⟨by omega, fun j hj => by omega⟩, HF2⟩
    case round =>
     clear HF2; obtain ⟨i, rfl, HI, HF⟩ := hrel
     by_cases hi : i < l0_0.length
     ·have TB : decide ((i : Int) < (l0_0.length : Int)) = true := decide_eq_true (by omega)
      have SB : decide (i < l0_0.length) = true := decide_eq_true hi; obtain ⟨ad, ea, hx, hy, hz⟩ := at_T164 zB.out (i : Int) (by omega) (by omega); subst ea; rw [Int.toNat_natCast] at hx hy hz; replace hx := (HF.out.hb.cell (World.block_lt_of_cell? w _ hx)).trans hx; replace hy := (HF.out.hb.cell (World.block_lt_of_cell? w _ hy)).trans hy; replace hz := (HF.out.hb.cell (World.block_lt_of_cell? w _ hz)).trans hz; obtain ⟨x, ex⟩ : ∃ z, (rd_T164 l0_0 (i : Int)).f0 = z := ⟨_, rfl⟩; obtain ⟨y, ey⟩ : ∃ z, (rd_T164 l0_0 (i : Int)).f1 = z := ⟨_, rfl⟩; obtain ⟨fx, ef⟩ : ∃ z, (rd_T164 l0_0 (i : Int)).f2 = z := ⟨_, rfl⟩; rw [ex] at hx; rw [ey] at hy; rw [ef] at hz; have EX := zQ ex; have EY := zQ ey; have p1 : (0 ≤ (i : Int)) = True := eq_true (by omega); have q1 : ((i : Int) < (l0_0.length : Int)) = True := eq_true (by omega); have HIL := zQ hi; clear ex ey ef hi
      go_upto_region 6 with (first | ((with_reducible refine zd 4 ?_); (try (refine gate_guard (by rfl) ?_; dsimp only)); refine zbx (N := 4) (cs := #[.int .i64 0, .int .i64 0, .bool false]) (t := 164) ?_; intro gb hg w1 aA hb; have HF1 := zQ (HF.out.below hb); have BX := zQ aA; have GB := zQ (show w.heap.size ≤ gb ∧ g0 ≠ gb from ⟨by rw [hg]; exact below_size HF.out.hb, by rw [hg]; exact Nat.ne_of_lt (blk_lt HF.out.bk)⟩); have s0 : w1.cell? ⟨gb, 0, none⟩ = some (.int .i64 0) := (blk_cell aA 0).trans rfl; have s1 : w1.cell? ⟨gb, 1, none⟩ = some (.int .i64 0) := (blk_cell aA 1).trans rfl; have s2 : w1.cell? ⟨gb, 2, none⟩ = some (.bool false) := (blk_cell aA 2).trans rfl; have u0 := zfz aA 0; have u1 := zfz aA 1; have u2 := zfz aA 2; clear hb aA hg))
      (try simp only [Act.put, List.setIfInBounds_toArray, List.set_cons_zero, List.set_cons_succ])
      have HF2 := zQ (((HF1.out.set (j := 0) GB.out.1 GB.out.2 (.int .i64 x)).set (j := 1) GB.out.1 GB.out.2 (.int .i64 y)).set (j := 2) GB.out.1 GB.out.2 (.bool fx)); have BX2 := zQ (blk_put (cs := #[.int .i64 x, .int .i64 y, .bool false]) (cs' := #[.int .i64 x, .int .i64 y, .bool fx]) (blk_put (cs := #[.int .i64 x, .int .i64 0, .bool false]) (cs' := #[.int .i64 x, .int .i64 y, .bool false]) (blk_put (cs' := #[.int .i64 x, .int .i64 0, .bool false]) BX.out 0 (.int .i64 x) rfl) 1 (.int .i64 y) rfl) 2 (.bool fx) rfl)
      generalize ((w1.setCell ⟨gb, 0, none⟩ (.int .i64 x)).setCell ⟨gb, 1, none⟩ (.int .i64 y)).setCell ⟨gb, 2, none⟩ (.bool fx) = w2 at HF2 BX2 ⊢
      clear s0 s1 s2 u0 u1 u2 hx hy hz HF1 BX; have JA := zQ (show FX w g0 (some ad) c0_0 l0_0 A0_1 c0_1 l0_1 gb #[.int .i64 x, .int .i64 y, .bool fx] 164 w2 from ⟨HF2.out, BX2.out⟩); have b0 : w2.cell? ⟨gb, 0, none⟩ = some (.int .i64 x) := (blk_cell BX2.out 0).trans rfl; have b1 : w2.cell? ⟨gb, 1, none⟩ = some (.int .i64 y) := (blk_cell BX2.out 1).trans rfl; clear HF2 BX2; obtain ⟨bx, hbx⟩ : ∃ b, decide (0 ≤ x ∧ x ≤ 12) = b := ⟨_, rfl⟩; obtain ⟨byy, hby⟩ : ∃ b, decide (0 ≤ y ∧ y ≤ 12) = b := ⟨_, rfl⟩; have HX := zQ (show impl_within.f x 0 12 = some bx from by rw [← hbx]; exact within_dec x 0 12); have HY := zQ (show impl_within.f y 0 12 = some byy from by rw [← hby]; exact within_dec y 0 12); have HBX := zQ hbx; have HBY := zQ hby; clear hbx hby
      cases bx with
      | false =>
       go_wp2_with (go_at_call 88; (with_reducible refine (impl_within.calls x 0 12 false _ HX.out).mono ?_); rintro e w' ⟨rfl, ⟨nd, rfl⟩⟩)
       go_ret
       exact ⟨by rw [frB_no (fun h_ => of_decide_eq_false HBX.out (by have := (h_.2.2.1 i HIL.out).1.1; rwa [EX.out] at this))]; rfl, by repeat (first | exact JA.out.f.hb | apply below_drew1 | apply pw_below_drewN)⟩
      | true =>
       cases byy with
       | false =>
        go_wp2_with (first | (go_at_call 88; (with_reducible refine (impl_within.calls x 0 12 true _ HX.out).mono ?_); rintro e w' ⟨rfl, ⟨nd, rfl⟩⟩) | (go_at_call 88; (with_reducible refine (impl_within.calls y 0 12 false _ HY.out).mono ?_); rintro e w' ⟨rfl, ⟨nd, rfl⟩⟩))
        go_ret
        exact ⟨by rw [frB_no (fun h_ => of_decide_eq_false HBY.out (by have := (h_.2.2.1 i HIL.out).1.2; rwa [EY.out] at this))]; rfl, by repeat (first | exact JA.out.f.hb | apply below_drew1 | apply pw_below_drewN)⟩
       | true =>
        have HXY := zQ (show (0 ≤ x ∧ x ≤ 12) ∧ 0 ≤ y ∧ y ≤ 12 from ⟨of_decide_eq_true HBX.out, of_decide_eq_true HBY.out⟩)
        go_upto_region 8 with (first | (go_at_call 88; (with_reducible refine (impl_within.calls x 0 12 true _ HX.out).mono ?_); rintro e w' ⟨rfl, ⟨nd, rfl⟩⟩) | (go_at_call 88; (with_reducible refine (impl_within.calls y 0 12 true _ HY.out).mono ?_); rintro e w' ⟨rfl, ⟨nd, rfl⟩⟩))
        clear b0 b1 HX HY HBX HBY
        generalize CB : World.drewN _ _ = w3
        have yB := zQ (show FX w g0 (some ad) c0_0 l0_0 A0_1 c0_1 l0_1 gb #[.int .i64 x, .int .i64 y, .bool fx] 164 w3 from by rw [← CB]; exact ⟨JA.out.f.drewN _, JA.out.bx⟩); clear CB JA; have czl : w3.cell? ⟨g0, 0, none⟩ = some (.slice (some ad) l0_0.length c0_0) := (blk_cell yB.out.f.bk 0).trans rfl; have hil := HIL.out
        have q3 : (i : Int) ≤ (l0_0.length : Int) := by omega
        obtain ⟨i0, IB, _, hsz, _⟩ := info_parts info164; have hcut := cut_to (P := Try.prog) 24 164 .i64 Try.underlying24 IB (some ad) l0_0.length c0_0 (i : Int) (by omega) q3 FC.out; rw [Int.toNat_natCast] at hcut; have q4 : decide ((i : Int) ≤ (l0_0.length : Int)) = true := decide_eq_true q3; have q5 : decide (0 ≤ (i : Int)) = true := decide_eq_true (by omega); replace q3 := eq_true q3; clear IB hsz hil
        go_wp2
        go_loopw [50] (fun v w' => ∃ (j : Nat), v = .int .i64 (j : Int) ∧ Aside0 (j ≤ i ∧ ∀ q, q < j → ¬ ((rd_T164 l0_0 (q : Int)).f0 = x ∧ (rd_T164 l0_0 (q : Int)).f1 = y)) ∧ Aside0 (FX w g0 (some ad) c0_0 l0_0 A0_1 c0_1 l0_1 gb #[.int .i64 x, .int .i64 y, .bool fx] 164 w')) (fun v _ => ((9 : Int) - intOf v).toNat)
        case atStart => exact ⟨0, rfl, ⟨by omega, fun j hj => by omega⟩, yB⟩
        case round =>
         obtain ⟨j, rfl, HJ, AA⟩ := hrel
         by_cases hj : j < i
         ·have BC : decide ((j : Int) < (i : Int)) = true := decide_eq_true (by omega)
          have AC : decide (j < i) = true := decide_eq_true hj; have hil := HIL.out; obtain ⟨ad', ea, hx, hy, hz⟩ := at_T164 zB.out (j : Int) (by omega) (by omega); obtain rfl := Option.some.inj ea; rw [Int.toNat_natCast] at hx hy hz; replace hx := (AA.out.f.hb.cell (World.block_lt_of_cell? w _ hx)).trans hx; replace hy := (AA.out.f.hb.cell (World.block_lt_of_cell? w _ hy)).trans hy; replace hz := (AA.out.f.hb.cell (World.block_lt_of_cell? w _ hz)).trans hz; obtain ⟨xj, exj⟩ : ∃ z, (rd_T164 l0_0 (j : Int)).f0 = z := ⟨_, rfl⟩; obtain ⟨yj, eyj⟩ : ∃ z, (rd_T164 l0_0 (j : Int)).f1 = z := ⟨_, rfl⟩; obtain ⟨zj, ezj⟩ : ∃ z, (rd_T164 l0_0 (j : Int)).f2 = z := ⟨_, rfl⟩; rw [exj] at hx; rw [eyj] at hy; rw [ezj] at hz; have EXJ := zQ exj; have EYJ := zQ eyj; have p2 : (0 ≤ (j : Int)) = True := eq_true (by omega); have q2 : ((j : Int) < (i : Int)) = True := eq_true (by omega); have HJL := zQ hj
          have e7 : wrap64 ((j : Int) + 1) = ((j + 1 : Nat) : Int) := by have := H8.out; have := H9.out; unfold wrap64; omega
          clear exj eyj ezj hj hil
          go_upto_region 11 with (first | ((with_reducible refine zd 6 ?_); (try (refine gate_guard (by rfl) ?_; dsimp only)); refine zbx (N := 6) (cs := #[.int .i64 0, .int .i64 0, .bool false]) (t := 164) ?_; intro g6 hg w5 aA hb; have NB := zQ (AA.out.below hb); have B6 := zQ aA; have G6 := zQ (show w.heap.size ≤ g6 ∧ g0 ≠ g6 ∧ gb ≠ g6 from ⟨by rw [hg]; exact below_size AA.out.f.hb, by rw [hg]; exact Nat.ne_of_lt (blk_lt AA.out.f.bk), by rw [hg]; exact Nat.ne_of_lt (blk_lt AA.out.bx)⟩); have s0 : w5.cell? ⟨g6, 0, none⟩ = some (.int .i64 0) := (blk_cell aA 0).trans rfl; have s1 : w5.cell? ⟨g6, 1, none⟩ = some (.int .i64 0) := (blk_cell aA 1).trans rfl; have s2 : w5.cell? ⟨g6, 2, none⟩ = some (.bool false) := (blk_cell aA 2).trans rfl; have u0 := zfz aA 0; have u1 := zfz aA 1; have u2 := zfz aA 2; clear hb aA hg))
          (try simp only [Act.put, List.setIfInBounds_toArray, List.set_cons_zero, List.set_cons_succ])
          have PA := zQ (((NB.out.set (j := 0) G6.out (.int .i64 xj)).set (j := 1) G6.out (.int .i64 yj)).set (j := 2) G6.out (.bool zj)); have BX6 := zQ (blk_put (cs := #[.int .i64 xj, .int .i64 yj, .bool false]) (cs' := #[.int .i64 xj, .int .i64 yj, .bool zj]) (blk_put (cs := #[.int .i64 xj, .int .i64 0, .bool false]) (cs' := #[.int .i64 xj, .int .i64 yj, .bool false]) (blk_put (cs' := #[.int .i64 xj, .int .i64 0, .bool false]) B6.out 0 (.int .i64 xj) rfl) 1 (.int .i64 yj) rfl) 2 (.bool zj) rfl)
          generalize ((w5.setCell ⟨g6, 0, none⟩ (.int .i64 xj)).setCell ⟨g6, 1, none⟩ (.int .i64 yj)).setCell ⟨g6, 2, none⟩ (.bool zj) = w6 at PA BX6 ⊢
          clear s0 s1 s2 u0 u1 u2 hx hy hz NB B6; have b0 : w6.cell? ⟨gb, 0, none⟩ = some (.int .i64 x) := (blk_cell PA.out.bx 0).trans rfl; have b1 : w6.cell? ⟨gb, 1, none⟩ = some (.int .i64 y) := (blk_cell PA.out.bx 1).trans rfl; have d0 : w6.cell? ⟨g6, 0, none⟩ = some (.int .i64 xj) := (blk_cell BX6.out 0).trans rfl; have d1 : w6.cell? ⟨g6, 1, none⟩ = some (.int .i64 yj) := (blk_cell BX6.out 1).trans rfl
          by_cases hxx : xj = x
          ·have t1 : (xj == x) = true := beq_iff_eq.mpr hxx
           have HXX := zQ hxx; clear hxx
           by_cases hyy : yj = y
           ·have t2 : (yj == y) = true := beq_iff_eq.mpr hyy
            have HYY := zQ hyy; clear hyy
            go_wp2
            go_ret
            exact ⟨by rw [frB_no (fun h_ => (h_.2.2.1 i HIL.out).2 j HJL.out ⟨by rw [EXJ.out, EX.out]; exact HXX.out, by rw [EYJ.out, EY.out]; exact HYY.out⟩)]; rfl, PA.out.f.hb⟩
           ·have t2 : (yj == y) = false := beq_eq_false_iff_ne.mpr hyy
            have HYY := zQ hyy; clear hyy
            go_wp2
            go_roundw
            case rel => exact ⟨j + 1, by first | rfl | rw [e7] | (simp; omega), ⟨by have := HJL.out; omega, upto_next HJ.out.2 (fun h_ => HYY.out (by rw [← EYJ.out]; exact h_.2))⟩, PA⟩
            case measure => exact ok_meas e7 (by have := HJL.out; have := HIL.out; have := H8.out; have := H9.out; omega)
          ·have t1 : (xj == x) = false := beq_eq_false_iff_ne.mpr hxx
           have HXX := zQ hxx; clear hxx
           go_wp2
           go_roundw
           case rel => exact ⟨j + 1, by first | rfl | rw [e7] | (simp; omega), ⟨by have := HJL.out; omega, upto_next HJ.out.2 (fun h_ => HXX.out (by rw [← EXJ.out]; exact h_.1))⟩, PA⟩
           case measure => exact ok_meas e7 (by have := HJL.out; have := HIL.out; have := H8.out; have := H9.out; omega)
         ·have BC : decide ((j : Int) < (i : Int)) = false := decide_eq_false (by omega)
          have AC : decide (j < i) = false := decide_eq_false hj; have HJE := zQ (show j = i from by have := HJ.out.1; omega)
          have e7 : wrap64 ((i : Int) + 1) = ((i + 1 : Nat) : Int) := by have := H8.out; have := H9.out; have := HIL.out; unfold wrap64; omega
          clear hj
          go_wp2
          go_roundw
          case rel => exact ⟨i + 1, by first | rfl | rw [e7] | (simp; omega), ⟨by have := HIL.out; omega, upto_next HI.out.2 ⟨by rw [EX.out, EY.out]; exact HXY.out, fun q hq h_ => HJ.out.2 q (by rw [HJE.out]; exact hq) (by rw [EX.out, EY.out] at h_; exact h_)⟩⟩, ⟨AA.out.f⟩⟩
          case measure => exact ok_meas e7 (by have := HIL.out; have := H8.out; have := H9.out; omega)
     ·have TB : decide ((i : Int) < (l0_0.length : Int)) = false := decide_eq_false (by omega)
      have SB : decide (i < l0_0.length) = false := decide_eq_false hi; have HIE := zQ (show i = l0_0.length from by have := HI.out.1; omega); clear hi; have cz1 : wr.cell? ⟨g0, 1, none⟩ = some (.slice A0_1 l0_1.length c0_1) := (blk_cell HF.out.bk 1).trans rfl
      go_wp2
      have HK := zQ (show ∀ j, j < l0_0.length → KnP l0_0 j from fun j hj => HI.out.2 j (by rw [HIE.out]; exact hj)); have HFE := HF; clear HI HIE HF TB SB cz1
      go_loopw [71] (fun v wr => ∃ (i : Nat), v = .int .i64 (i : Int) ∧ Aside0 (i ≤ l0_1.length ∧ ∀ j, j < i → BrP l0_0 l0_1 j) ∧ Aside0 (FW w g0 A0_0 c0_0 l0_0 A0_1 c0_1 l0_1 wr)) (fun v _ => ((9 : Int) - intOf v).toNat)
      case atStart => exact ⟨0, rfl, ⟨by omega, fun j hj => by omega⟩, HFE⟩
      case round =>
       clear HFE; obtain ⟨i, rfl, HI, HF⟩ := hrel
       by_cases hi : i < l0_1.length
       ·have TB : decide ((i : Int) < (l0_1.length : Int)) = true := decide_eq_true (by omega)
        have SB : decide (i < l0_1.length) = true := decide_eq_true hi; obtain ⟨ad, ea, hx, hy, hz⟩ := at_T115 nB.out (i : Int) (by omega) (by omega); subst ea; rw [Int.toNat_natCast] at hx hy hz; replace hx := (HF.out.hb.cell (World.block_lt_of_cell? w _ hx)).trans hx; replace hy := (HF.out.hb.cell (World.block_lt_of_cell? w _ hy)).trans hy; replace hz := (HF.out.hb.cell (World.block_lt_of_cell? w _ hz)).trans hz; obtain ⟨x, ex⟩ : ∃ z, (rd_T115 l0_1 (i : Int)).f0 = z := ⟨_, rfl⟩; obtain ⟨y, ey⟩ : ∃ z, (rd_T115 l0_1 (i : Int)).f1 = z := ⟨_, rfl⟩; obtain ⟨fx, ef⟩ : ∃ z, (rd_T115 l0_1 (i : Int)).f2 = z := ⟨_, rfl⟩; rw [ex] at hx; rw [ey] at hy; rw [ef] at hz; have EX := zQ ex; have EY := zQ ey; have p1 : (0 ≤ (i : Int)) = True := eq_true (by omega); have q1 : ((i : Int) < (l0_1.length : Int)) = True := eq_true (by omega); have HIL := zQ hi; clear ex ey ef hi
        go_upto_region 18 with (first | ((with_reducible refine zd 8 ?_); (try (refine gate_guard (by rfl) ?_; dsimp only)); refine zbx (N := 8) (cs := #[.int .i64 0, .int .i64 0, .bool false]) (t := 115) ?_; intro gb hg w1 aA hb; have HF1 := zQ (HF.out.below hb); have BX := zQ aA; have GB := zQ (show w.heap.size ≤ gb ∧ g0 ≠ gb from ⟨by rw [hg]; exact below_size HF.out.hb, by rw [hg]; exact Nat.ne_of_lt (blk_lt HF.out.bk)⟩); have s0 : w1.cell? ⟨gb, 0, none⟩ = some (.int .i64 0) := (blk_cell aA 0).trans rfl; have s1 : w1.cell? ⟨gb, 1, none⟩ = some (.int .i64 0) := (blk_cell aA 1).trans rfl; have s2 : w1.cell? ⟨gb, 2, none⟩ = some (.bool false) := (blk_cell aA 2).trans rfl; have u0 := zfz aA 0; have u1 := zfz aA 1; have u2 := zfz aA 2; clear hb aA hg))
        (try simp only [Act.put, List.setIfInBounds_toArray, List.set_cons_zero, List.set_cons_succ])
        have HF2 := zQ (((HF1.out.set (j := 0) GB.out.1 GB.out.2 (.int .i64 x)).set (j := 1) GB.out.1 GB.out.2 (.int .i64 y)).set (j := 2) GB.out.1 GB.out.2 (.bool fx)); have BX2 := zQ (blk_put (cs := #[.int .i64 x, .int .i64 y, .bool false]) (cs' := #[.int .i64 x, .int .i64 y, .bool fx]) (blk_put (cs := #[.int .i64 x, .int .i64 0, .bool false]) (cs' := #[.int .i64 x, .int .i64 y, .bool false]) (blk_put (cs' := #[.int .i64 x, .int .i64 0, .bool false]) BX.out 0 (.int .i64 x) rfl) 1 (.int .i64 y) rfl) 2 (.bool fx) rfl)
        generalize ((w1.setCell ⟨gb, 0, none⟩ (.int .i64 x)).setCell ⟨gb, 1, none⟩ (.int .i64 y)).setCell ⟨gb, 2, none⟩ (.bool fx) = w2 at HF2 BX2 ⊢
        clear s0 s1 s2 u0 u1 u2 hx hy hz HF1 BX; have JA := zQ (show FX w g0 A0_0 c0_0 l0_0 (some ad) c0_1 l0_1 gb #[.int .i64 x, .int .i64 y, .bool fx] 115 w2 from ⟨HF2.out, BX2.out⟩); have b0 : w2.cell? ⟨gb, 0, none⟩ = some (.int .i64 x) := (blk_cell BX2.out 0).trans rfl; have b1 : w2.cell? ⟨gb, 1, none⟩ = some (.int .i64 y) := (blk_cell BX2.out 1).trans rfl; clear HF2 BX2; have czk : w2.cell? ⟨g0, 0, none⟩ = some (.slice A0_0 l0_0.length c0_0) := (blk_cell JA.out.f.bk 0).trans rfl
        by_cases c1 : x < 0
        ·have t1 : decide (x < 0) = true := decide_eq_true c1
         have HN := zQ (show ¬ FrP l0_0 l0_1 from fun h_ => by have := (h_.2.2.2.1 i HIL.out).1.1; rw [EX.out, EY.out] at this; omega); clear c1
         go_wp2
         go_ret
         exact ⟨by rw [frB_no HN.out]; rfl, by repeat (first | exact JA.out.f.hb | apply below_drew1 | apply pw_below_drewN)⟩
        have t1 : decide (x < 0) = false := decide_eq_false c1
        by_cases c2 : x ≥ y
        ·have t2 : decide (x ≥ y) = true := decide_eq_true c2
         have HN := zQ (show ¬ FrP l0_0 l0_1 from fun h_ => by have := (h_.2.2.2.1 i HIL.out).1.1; rw [EX.out, EY.out] at this; omega); clear c1 c2
         go_wp2
         go_ret
         exact ⟨by rw [frB_no HN.out]; rfl, by repeat (first | exact JA.out.f.hb | apply below_drew1 | apply pw_below_drewN)⟩
        have t2 : decide (x ≥ y) = false := decide_eq_false c2
        by_cases c3 : y ≥ (l0_0.length : Int)
        ·have t3 : decide (y ≥ (l0_0.length : Int)) = true := decide_eq_true c3
         have HN := zQ (show ¬ FrP l0_0 l0_1 from fun h_ => by have := (h_.2.2.2.1 i HIL.out).1.1; rw [EX.out, EY.out] at this; omega); clear c1 c2 c3
         go_wp2
         go_ret
         exact ⟨by rw [frB_no HN.out]; rfl, by repeat (first | exact JA.out.f.hb | apply below_drew1 | apply pw_below_drewN)⟩
        have t3 : decide (y ≥ (l0_0.length : Int)) = false := decide_eq_false c3; have HXR := zQ (show 0 ≤ x ∧ x < y ∧ y < (l0_0.length : Int) from by omega); obtain ⟨adk, ea, _, _, hfa⟩ := at_T164 zB.out x (by omega) (by omega); subst ea; replace hfa := (JA.out.f.hb.cell (World.block_lt_of_cell? w _ hfa)).trans hfa; obtain ⟨ad', ea, _, _, hfb⟩ := at_T164 zB.out y (by omega) (by omega); obtain rfl := Option.some.inj ea; replace hfb := (JA.out.f.hb.cell (World.block_lt_of_cell? w _ hfb)).trans hfb; obtain ⟨fa, efa⟩ : ∃ z, (rd_T164 l0_0 x).f2 = z := ⟨_, rfl⟩; obtain ⟨fb, efb⟩ : ∃ z, (rd_T164 l0_0 y).f2 = z := ⟨_, rfl⟩; rw [efa] at hfa; rw [efb] at hfb; have EFA := zQ efa; have EFB := zQ efb; have p3 : (0 ≤ x) = True := eq_true (by omega); have q3 : (x < (l0_0.length : Int)) = True := eq_true (by omega); have p4 : (0 ≤ y) = True := eq_true (by omega); have q4 : (y < (l0_0.length : Int)) = True := eq_true (by omega); clear efa efb c1 c2 c3
        by_cases hff : fa = true ∧ fb = true
        ·obtain ⟨rfl, rfl⟩ := hff
         have HN := zQ (show ¬ FrP l0_0 l0_1 from fun h_ => (h_.2.2.2.1 i HIL.out).1.2 (by rw [EX.out, EY.out]; exact ⟨EFA.out, EFB.out⟩))
         go_wp2
         go_ret
         exact ⟨by rw [frB_no HN.out]; rfl, by repeat (first | exact JA.out.f.hb | apply below_drew1 | apply pw_below_drewN)⟩
        have HNF := zQ (show ¬ ((rd_T164 l0_0 x).f2 = true ∧ (rd_T164 l0_0 y).f2 = true) from by rw [EFA.out, EFB.out]; exact hff)
        go_cut [111] (fun yC wc => yC = .bool false ∧ wc = w2)
        case first =>
         cases fa with
         | false =>
          go_wp2
          go_meet
          case rel => exact ⟨by first | rfl | (simp; done), rfl⟩
         | true =>
          have CC : fb = false := by
           cases fb with
           | false => rfl
           | true => exact absurd ⟨rfl, rfl⟩ hff
          subst CC; clear hff
          go_wp2
          go_meet
          case rel => exact ⟨by first | rfl | (simp; done), rfl⟩
        case rest =>
         obtain ⟨rfl, rfl⟩ := hcut; clear b0 b1 hff t1 t2 t3 p3 q3 p4 q4 hfa hfb czk; have yB := JA; clear JA; obtain ⟨w3, CB⟩ : ∃ z, wc = z := ⟨_, rfl⟩; rw [CB] at yB ⊢; clear CB; have czl : w3.cell? ⟨g0, 1, none⟩ = some (.slice (some ad) l0_1.length c0_1) := (blk_cell yB.out.f.bk 1).trans rfl; have hil := HIL.out
         have q3 : (i : Int) ≤ (l0_1.length : Int) := by omega
         obtain ⟨i0, IB, _, hsz, _⟩ := info_parts info115; have hcut := cut_to (P := Try.prog) 25 115 .i64 Try.underlying25 IB (some ad) l0_1.length c0_1 (i : Int) (by omega) q3 xC.out; rw [Int.toNat_natCast] at hcut; have q4 : decide ((i : Int) ≤ (l0_1.length : Int)) = true := decide_eq_true q3; have q5 : decide (0 ≤ (i : Int)) = true := decide_eq_true (by omega); replace q3 := eq_true q3; clear IB hsz hil
         go_wp2
         go_loopw [117] (fun v w' => ∃ (j : Nat), v = .int .i64 (j : Int) ∧ Aside0 (j ≤ i ∧ ∀ q, q < j → ¬ ((rd_T115 l0_1 (q : Int)).f0 = x ∧ (rd_T115 l0_1 (q : Int)).f1 = y)) ∧ Aside0 (FX w g0 (some adk) c0_0 l0_0 (some ad) c0_1 l0_1 gb #[.int .i64 x, .int .i64 y, .bool fx] 115 w')) (fun v _ => ((9 : Int) - intOf v).toNat)
         case atStart => exact ⟨0, rfl, ⟨by omega, fun j hj => by omega⟩, yB⟩
         case round =>
          obtain ⟨j, rfl, HJ, AA⟩ := hrel
          by_cases hj : j < i
          ·have BC : decide ((j : Int) < (i : Int)) = true := decide_eq_true (by omega)
           have AC : decide (j < i) = true := decide_eq_true hj; have hil := HIL.out; obtain ⟨ad', ea, hx, hy, hz⟩ := at_T115 nB.out (j : Int) (by omega) (by omega); obtain rfl := Option.some.inj ea; rw [Int.toNat_natCast] at hx hy hz; replace hx := (AA.out.f.hb.cell (World.block_lt_of_cell? w _ hx)).trans hx; replace hy := (AA.out.f.hb.cell (World.block_lt_of_cell? w _ hy)).trans hy; replace hz := (AA.out.f.hb.cell (World.block_lt_of_cell? w _ hz)).trans hz; obtain ⟨xj, exj⟩ : ∃ z, (rd_T115 l0_1 (j : Int)).f0 = z := ⟨_, rfl⟩; obtain ⟨yj, eyj⟩ : ∃ z, (rd_T115 l0_1 (j : Int)).f1 = z := ⟨_, rfl⟩; obtain ⟨zj, ezj⟩ : ∃ z, (rd_T115 l0_1 (j : Int)).f2 = z := ⟨_, rfl⟩; rw [exj] at hx; rw [eyj] at hy; rw [ezj] at hz; have EXJ := zQ exj; have EYJ := zQ eyj; have p2 : (0 ≤ (j : Int)) = True := eq_true (by omega); have q2 : ((j : Int) < (i : Int)) = True := eq_true (by omega); have HJL := zQ hj
           have e7 : wrap64 ((j : Int) + 1) = ((j + 1 : Nat) : Int) := by have := H8.out; have := H9.out; unfold wrap64; omega
           clear exj eyj ezj hj hil
           go_upto_region 23 with (first | ((with_reducible refine zd 10 ?_); (try (refine gate_guard (by rfl) ?_; dsimp only)); refine zbx (N := 10) (cs := #[.int .i64 0, .int .i64 0, .bool false]) (t := 115) ?_; intro g6 hg w5 aA hb; have NB := zQ (AA.out.below hb); have B6 := zQ aA; have G6 := zQ (show w.heap.size ≤ g6 ∧ g0 ≠ g6 ∧ gb ≠ g6 from ⟨by rw [hg]; exact below_size AA.out.f.hb, by rw [hg]; exact Nat.ne_of_lt (blk_lt AA.out.f.bk), by rw [hg]; exact Nat.ne_of_lt (blk_lt AA.out.bx)⟩); have s0 : w5.cell? ⟨g6, 0, none⟩ = some (.int .i64 0) := (blk_cell aA 0).trans rfl; have s1 : w5.cell? ⟨g6, 1, none⟩ = some (.int .i64 0) := (blk_cell aA 1).trans rfl; have s2 : w5.cell? ⟨g6, 2, none⟩ = some (.bool false) := (blk_cell aA 2).trans rfl; have u0 := zfz aA 0; have u1 := zfz aA 1; have u2 := zfz aA 2; clear hb aA hg))
           (try simp only [Act.put, List.setIfInBounds_toArray, List.set_cons_zero, List.set_cons_succ])
           have PA := zQ (((NB.out.set (j := 0) G6.out (.int .i64 xj)).set (j := 1) G6.out (.int .i64 yj)).set (j := 2) G6.out (.bool zj)); have BX6 := zQ (blk_put (cs := #[.int .i64 xj, .int .i64 yj, .bool false]) (cs' := #[.int .i64 xj, .int .i64 yj, .bool zj]) (blk_put (cs := #[.int .i64 xj, .int .i64 0, .bool false]) (cs' := #[.int .i64 xj, .int .i64 yj, .bool false]) (blk_put (cs' := #[.int .i64 xj, .int .i64 0, .bool false]) B6.out 0 (.int .i64 xj) rfl) 1 (.int .i64 yj) rfl) 2 (.bool zj) rfl)
           generalize ((w5.setCell ⟨g6, 0, none⟩ (.int .i64 xj)).setCell ⟨g6, 1, none⟩ (.int .i64 yj)).setCell ⟨g6, 2, none⟩ (.bool zj) = w6 at PA BX6 ⊢
           clear s0 s1 s2 u0 u1 u2 hx hy hz NB B6; have b0 : w6.cell? ⟨gb, 0, none⟩ = some (.int .i64 x) := (blk_cell PA.out.bx 0).trans rfl; have b1 : w6.cell? ⟨gb, 1, none⟩ = some (.int .i64 y) := (blk_cell PA.out.bx 1).trans rfl; have d0 : w6.cell? ⟨g6, 0, none⟩ = some (.int .i64 xj) := (blk_cell BX6.out 0).trans rfl; have d1 : w6.cell? ⟨g6, 1, none⟩ = some (.int .i64 yj) := (blk_cell BX6.out 1).trans rfl
           by_cases hxx : xj = x
           ·have t1 : (xj == x) = true := beq_iff_eq.mpr hxx
            have HXX := zQ hxx; clear hxx
            by_cases hyy : yj = y
            ·have t2 : (yj == y) = true := beq_iff_eq.mpr hyy
             have HYY := zQ hyy; clear hyy
             go_wp2
             go_ret
             exact ⟨by rw [frB_no (fun h_ => (h_.2.2.2.1 i HIL.out).2 j HJL.out ⟨by rw [EXJ.out, EX.out]; exact HXX.out, by rw [EYJ.out, EY.out]; exact HYY.out⟩)]; rfl, PA.out.f.hb⟩
            ·have t2 : (yj == y) = false := beq_eq_false_iff_ne.mpr hyy
             have HYY := zQ hyy; clear hyy
             go_wp2
             go_roundw
             case rel => exact ⟨j + 1, by first | rfl | rw [e7] | (simp; omega), ⟨by have := HJL.out; omega, upto_next HJ.out.2 (fun h_ => HYY.out (by rw [← EYJ.out]; exact h_.2))⟩, PA⟩
             case measure => exact ok_meas e7 (by have := HJL.out; have := HIL.out; have := H8.out; have := H9.out; omega)
           ·have t1 : (xj == x) = false := beq_eq_false_iff_ne.mpr hxx
            have HXX := zQ hxx; clear hxx
            go_wp2
            go_roundw
            case rel => exact ⟨j + 1, by first | rfl | rw [e7] | (simp; omega), ⟨by have := HJL.out; omega, upto_next HJ.out.2 (fun h_ => HXX.out (by rw [← EXJ.out]; exact h_.1))⟩, PA⟩
            case measure => exact ok_meas e7 (by have := HJL.out; have := HIL.out; have := H8.out; have := H9.out; omega)
          ·have BC : decide ((j : Int) < (i : Int)) = false := decide_eq_false (by omega)
           have AC : decide (j < i) = false := decide_eq_false hj; have HJE := zQ (show j = i from by have := HJ.out.1; omega)
           have e7 : wrap64 ((i : Int) + 1) = ((i + 1 : Nat) : Int) := by have := H8.out; have := H9.out; have := HIL.out; unfold wrap64; omega
           clear hj
           go_wp2
           go_roundw
           case rel => exact ⟨i + 1, by first | rfl | rw [e7] | (simp; omega), ⟨by have := HIL.out; omega, upto_next HI.out.2 ⟨⟨by rw [EX.out, EY.out]; exact HXR.out, by rw [EX.out, EY.out]; exact HNF.out⟩, fun q hq h_ => HJ.out.2 q (by rw [HJE.out]; exact hq) (by rw [EX.out, EY.out] at h_; exact h_)⟩⟩, ⟨AA.out.f⟩⟩
           case measure => exact ok_meas e7 (by have := HIL.out; have := H8.out; have := H9.out; omega)
       ·have TB : decide ((i : Int) < (l0_1.length : Int)) = false := decide_eq_false (by omega)
        have SB : decide (i < l0_1.length) = false := decide_eq_false hi; have HIE := zQ (show i = l0_1.length from by have := HI.out.1; omega); clear hi
        go_wp2
        go_ret
        exact ⟨by rw [frB_yes ⟨H8.out, H9.out, HK.out, (fun j hj => HI.out.2 j (by rw [HIE.out]; exact hj)), H3.out⟩]; rfl, HF.out.hb⟩
   ·have k3a : decide (3 < ((fkU l0_0 l0_0.length).length : Int)) = true := decide_eq_true (by omega)
    have k3b : decide (3 < (fkU l0_0 l0_0.length).length) = true := decide_eq_true (by omega); have HN := zQ (show ¬ FrP l0_0 l0_1 from fun h_ => h3 (by rw [fkU_len]; exact h_.2.2.2.2)); clear h3 h8 h9
    go_wp2_with (first | ((with_reducible refine zd 1 ?_); (try (refine gate_guard (by rfl) ?_; dsimp only)); refine zbx (N := 1) (cs := #[.slice A0_0 l0_0.length c0_0, .slice A0_1 l0_1.length c0_1]) (t := 27) ?_; intro g0 hg w1 aA hb; have HF1 := zQ (show FW w g0 A0_0 c0_0 l0_0 A0_1 c0_1 l0_1 w1 from ⟨aA, hb⟩); have cz0 : w1.cell? ⟨g0, 0, none⟩ = some (.slice A0_0 l0_0.length c0_0) := (blk_cell aA 0).trans rfl; have cz1 : w1.cell? ⟨g0, 1, none⟩ = some (.slice A0_1 l0_1.length c0_1) := (blk_cell aA 1).trans rfl; clear aA hb hg) | (go_at_call 93; (with_reducible refine (impl_freeKnots.calls (l0_0.length + 1) _ _ l0_0 _ _ l0_1 (fkU l0_0 l0_0.length) _ (Kd.C_below zB.out HF1.out.hb) FC.out (Kd.C_below nB.out HF1.out.hb) xC.out FK.out).mono ?_); rintro e w2 ⟨v2, rfl, ho, hb⟩; have HF2 := zQ (HF1.out.below hb); obtain ⟨A2, c2, e2⟩ := Kd.R_slice ho; subst e2; have cy0 : w2.cell? ⟨g0, 0, none⟩ = some (.slice A0_0 l0_0.length c0_0) := (blk_cell HF2.out.bk 0).trans rfl; have cy1 : w2.cell? ⟨g0, 1, none⟩ = some (.slice A0_1 l0_1.length c0_1) := (blk_cell HF2.out.bk 1).trans rfl; clear ho hb))
    go_ret
    exact ⟨by rw [frB_no HN.out]; rfl, HF2.out.hb⟩
  ·have k9a : decide (8 < (l0_1.length : Int)) = true := decide_eq_true (by omega)
   have k9b : decide (8 < l0_1.length) = true := decide_eq_true (by omega); have HN := zQ (show ¬ FrP l0_0 l0_1 from fun h_ => h9 h_.2.1); clear h8 h9
   go_wp2_with ((with_reducible refine zd 1 ?_); (try (refine gate_guard (by rfl) ?_; dsimp only)); refine zbx (N := 1) (cs := #[.slice A0_0 l0_0.length c0_0, .slice A0_1 l0_1.length c0_1]) (t := 27) ?_; intro g0 hg w1 aA hb; have HF1 := zQ (show FW w g0 A0_0 c0_0 l0_0 A0_1 c0_1 l0_1 w1 from ⟨aA, hb⟩); have cz0 : w1.cell? ⟨g0, 0, none⟩ = some (.slice A0_0 l0_0.length c0_0) := (blk_cell aA 0).trans rfl; have cz1 : w1.cell? ⟨g0, 1, none⟩ = some (.slice A0_1 l0_1.length c0_1) := (blk_cell aA 1).trans rfl; clear aA hb hg)
   go_ret
   exact ⟨by rw [frB_no HN.out]; rfl, HF1.out.hb⟩
 ·have k8a : decide (8 < (l0_0.length : Int)) = true := decide_eq_true (by omega)
  have k8b : decide (8 < l0_0.length) = true := decide_eq_true (by omega); have HN := zQ (show ¬ FrP l0_0 l0_1 from fun h_ => h8 h_.1); clear h8
  go_wp2_with ((with_reducible refine zd 1 ?_); (try (refine gate_guard (by rfl) ?_; dsimp only)); refine zbx (N := 1) (cs := #[.slice A0_0 l0_0.length c0_0, .slice A0_1 l0_1.length c0_1]) (t := 27) ?_; intro g0 hg w1 aA hb; have HF1 := zQ (show FW w g0 A0_0 c0_0 l0_0 A0_1 c0_1 l0_1 w1 from ⟨aA, hb⟩); have cz0 : w1.cell? ⟨g0, 0, none⟩ = some (.slice A0_0 l0_0.length c0_0) := (blk_cell aA 0).trans rfl; have cz1 : w1.cell? ⟨g0, 1, none⟩ = some (.slice A0_1 l0_1.length c0_1) := (blk_cell aA 1).trans rfl; clear aA hb hg)
  go_ret
  exact ⟨by rw [frB_no HN.out]; rfl, HF1.out.hb⟩

mutual
def impl_ValidLoads.j0 : Nat → List (S113) → Bool → Option (Bool)
 | 0, _, _ => none
 | k + 1, x1, x17 => if x17 = true then (some false) else (impl_ValidLoads.l0 k x1 (x1.length : Int) 0)
def impl_ValidLoads.l0 : Nat → List (S113) → Int → Int → Option (Bool)
 | 0, _, _, _ => none
 | k + 1, x18, x19, x20 => if x20 < x19 then (if 0 ≤ x20 then (if x20 < (x18.length : Int) then ((impl_within.f ((rd_T113 x18 x20).f0) (-100) 100).bind fun pB => (if pB = true then ((impl_within.f ((rd_T113 x18 x20).f1) (-100) 100).bind fun oB => (if oB = true then (impl_ValidLoads.l0 k x18 x19 (wrap64 (x20 + 1))) else (some false))) else (some false))) else (none)) else (none)) else (some true)
end
def impl_ValidLoads.f (k : Nat) (l0_0 : List (S164)) (l0_1 : List (S115)) (l1 : List (S113)) : Option (Bool) := (impl_ValidFrame.f k l0_0 l0_1).bind fun qB => (if qB = true then (impl_ValidLoads.j0 k l1 ((l1.length : Int) != (l0_0.length : Int))) else (impl_ValidLoads.j0 k l1 true))
theorem impl_ValidLoads.calls (k : Nat) (A0_0 : Option Addr) (c0_0 : Nat) (l0_0 : List (S164)) (A0_1 : Option Addr) (c0_1 : Nat) (l0_1 : List (S115)) (A1 : Option Addr) (c1 : Nat) (l1 : List (S113)) (r : Bool) (w : World) (rA : Kd.C k164 w A0_0 l0_0.length l0_0) (tA : l0_0.length ≤ c0_0) (qA : Kd.C k115 w A0_1 l0_1.length l0_1) (sA : l0_1.length ≤ c0_1) (KC : Kd.C k113 w A1 l1.length l1) (VC : l1.length ≤ c1) (h : impl_ValidLoads.f k l0_0 l0_1 l1 = some r) :
  Calls Try.prog 67 #[.agg #[.slice A0_0 l0_0.length c0_0, .slice A0_1 l0_1.length c0_1], .slice A1 l1.length c1] w fun e w' => e = .returned (.bool r) ∧ Below w.heap.size w w' := by
 have DB := Try.underlying27
 have JC := Try.underlying113
 have BA := zQ rA
 have cB := zQ tA
 clear rA tA
 have ZA := zQ qA
 have bB := zQ sA
 clear qA sA
 have nB := zQ KC
 have xC := zQ VC
 clear KC VC
 have HB := zQ (Below.refl w.heap.size w)
 have H := h; unfold impl_ValidLoads.f at H
 clear h
 have EC := zQ H
 clear H
 go_enter Try.func67, Try.ntmps67
 go_upto_region 1 with (first | ((with_reducible refine zd 2 ?_); (try (refine gate_guard (by rfl) ?_; dsimp only)); refine zbx (N := 2) (cs := #[.slice A0_0 l0_0.length c0_0, .slice A0_1 l0_1.length c0_1]) (t := 27) ?_; intro iB hg w4 aA hb; have cA := zQ (aA); have QB := zgz hg HB.out; have hA := QB; replace HB := zbs HB.out hb; clear hb aA hg))
 (try simp only [Act.put, List.setIfInBounds_toArray, List.set_cons_zero, List.set_cons_succ])
 go_cut [17] (fun eD wc => ∃ (kq : Nat) (KA : Bool), eD = .bool KA ∧ Aside0 (impl_ValidLoads.j0 kq l1 KA = some r) ∧ Aside0 (kq ≤ k) ∧ Aside0 (wc.heap[iB]? = some (.cells #[(.slice A0_0 l0_0.length c0_0), (.slice A0_1 l0_1.length c0_1)] 27 (0, 0))) ∧ Aside0 (Below w.heap.size w wc))
 case first =>
  have H := EC.out; clear EC; replace H := zob H; obtain ⟨qB, A5, H⟩ := H
  by_cases c6 : qB = true
  ·subst c6
   rw [if_pos rfl] at H; have H' := zQ H; clear H; obtain ⟨XA, WA, TA, SA⟩ := zy2 cA.out
   go_wp2_with (first | ((with_reducible refine zgc 115 ?_); refine zgo (some 8) Try.func115 #[.agg #[.slice A0_0 l0_0.length c0_0, .slice A0_1 l0_1.length c0_1]] ?_; (with_reducible refine (impl_ValidFrame.calls k _ _ l0_0 _ _ l0_1 true _ (zC BA.out HB.out) cB.out (zC ZA.out HB.out) bB.out A5.out).mono ?_); rintro e w8 ⟨rfl, hb⟩; refine ⟨_, rfl, ?_⟩; replace cA := zbl cA.out hb; replace HB := zbs2 HB.out hA.out hb; (try clear hb); obtain ⟨VA, UA, RA, QA⟩ := zy2 cA.out))
   go_meet
   case rel => exact ⟨_, (((l1.length : Int) != (l0_0.length : Int))), (zF), H', ⟨by first | omega | exact Nat.le_refl _⟩, ⟨zb cA.out⟩, ⟨zB2 HB.out hA.out⟩⟩
  ·replace c6 := Bool.eq_false_iff.mpr c6
   subst c6
   rw [if_neg Bool.false_ne_true] at H; have H' := zQ H; clear H; obtain ⟨OA, NA, MA, LA⟩ := zy2 cA.out
   go_wp2_with (first | ((with_reducible refine zgc 115 ?_); refine zgo (some 8) Try.func115 #[.agg #[.slice A0_0 l0_0.length c0_0, .slice A0_1 l0_1.length c0_1]] ?_; (with_reducible refine (impl_ValidFrame.calls k _ _ l0_0 _ _ l0_1 false _ (zC BA.out HB.out) cB.out (zC ZA.out HB.out) bB.out A5.out).mono ?_); rintro e aD ⟨rfl, hb⟩; refine ⟨_, rfl, ?_⟩; replace cA := zbl cA.out hb; replace HB := zbs2 HB.out hA.out hb; (try clear hb)))
   go_meet
   case rel => exact ⟨_, (true), (zF), H', ⟨by first | omega | exact Nat.le_refl _⟩, ⟨zb cA.out⟩, ⟨zB2 HB.out hA.out⟩⟩
 case rest =>
  clear EC; (try clear c1); (try clear p2); (try clear c6); (try clear iD); (try clear OA NA MA LA); (try clear XA WA TA SA); (try clear VA UA RA QA); obtain ⟨kq, KA, rfl, HA, YC, cA, HB⟩ := hcut
  cases kq with
  | zero => exact absurd HA.out (by simp [impl_ValidLoads.j0])
  | succ HC =>
   have H := HA.out; clear HA
   simp only [impl_ValidLoads.j0] at H
   by_cases KB : KA = true
   ·subst KB
    rw [if_pos rfl] at H; obtain rfl := Option.some.inj H
    go_wp2
    go_ret
    exact ⟨zE, zB2 HB.out hA.out⟩
   ·replace KB := Bool.eq_false_iff.mpr KB
    subst KB
    rw [if_neg Bool.false_ne_true] at H; have H' := zQ H; clear H
    go_wp2
    go_loopg [20] HC (fun kq dD w' => ∃ (dA : Int), dD = .int .i64 dA ∧ Aside0 (impl_ValidLoads.l0 kq l1 (l1.length : Int) dA = some r) ∧ Aside0 (kq ≤ HC) ∧ Aside0 (w'.heap[iB]? = some (.cells #[(.slice A0_0 l0_0.length c0_0), (.slice A0_1 l0_1.length c0_1)] 27 (0, 0))) ∧ Aside0 (Below w.heap.size w w'))
    case atStart => exact ⟨(0), (zF), H', ⟨Nat.le_refl _⟩, ⟨zb cA.out⟩, ⟨zB2 HB.out hA.out⟩⟩
    case round =>
     clear H'; (try clear c1); (try clear p2); (try clear c6); (try clear iD); (try clear KB); (try clear OA NA MA LA); (try clear XA WA TA SA); (try clear VA UA RA QA); (try clear p2); obtain ⟨dA, rfl, HA, HK2, cA, HB⟩ := hrel
     cases gk with
     | zero => exact absurd HA.out (by simp [impl_ValidLoads.l0])
     | succ k2 =>
      have H := HA.out; clear HA
      simp only [impl_ValidLoads.l0] at H
      by_cases xB : dA < (l1.length : Int)
      ·rw [if_pos xB] at H
       have JB := decide_eq_true xB; clear xB
       by_cases eB : 0 ≤ dA
       ·rw [if_pos eB] at H
        have XC := decide_eq_true eB; clear eB
        by_cases uC : dA < (l1.length : Int)
        ·rw [if_pos uC] at H
         have WC := decide_eq_true uC; clear uC; replace H := zob H; obtain ⟨pB, GC, H⟩ := H
         by_cases tC : pB = true
         ·subst tC
          rw [if_pos rfl] at H; replace H := zob H; obtain ⟨oB, ZC, H⟩ := H
          by_cases sC : oB = true
          ·subst sC
           rw [if_pos rfl] at H; have H' := zQ H; clear H; have xA : 0 ≤ (dA : Int) := zD; have wA : dA < (l1.length : Int) := zD; obtain ⟨kB, YA, jA, iA⟩ := at_T113 nB.out dA xA wA
           cases YA
           replace jA := zw HB.out jA; replace iA := zw HB.out iA; replace xA := eq_true xA; replace wA := eq_true wA
           go_wp2_with (first | ((with_reducible refine zd 6 ?_); (try (refine gate_guard (by rfl) ?_; dsimp only)); refine zbx (N := 6) (cs := #[.int .i64 0, .int .i64 0]) (t := 113) ?_; intro hB hg lD aA hb; have FA := zQ (aA); have CA := zgz2 hg HB.out hA.out; have DA := CA; have gA := zn1 hg cA.out; have kA := zn2 hg cA.out; replace cA := zbl cA.out hb; replace HB := zbs2 HB.out hA.out hb; clear hb aA hg; have SC := kA.out; have NC := gA.out; obtain ⟨lC, kC, ZB, YB⟩ := zy2 FA.out) | ((with_reducible refine zgc 88 ?_); refine zgo (some 26) Try.func88 #[.int .i64 ((rd_T113 l1 dA).f0), .int .i64 (-100), .int .i64 100] ?_; (with_reducible refine (impl_within.calls ((rd_T113 l1 dA).f0) (-100) 100 true _ GC.out).mono ?_); rintro e w' ⟨rfl, ⟨nd, rfl⟩⟩; refine ⟨_, rfl, ?_⟩) | (go_at_call 88; (with_reducible refine (impl_within.calls ((rd_T113 l1 dA).f1) (-100) 100 true _ ZC.out).mono ?_); rintro e w' ⟨rfl, ⟨nd, rfl⟩⟩))
           go_roundg k2
           case measure => have := YC.out; have := HK2.out; omega
           case rel => exact ⟨(wrap64 (dA + 1)), (zF), H', ⟨by have := YC.out; have := HK2.out; omega⟩, ⟨by refine zb ?_; refine blk_far ?_ gA.out _; refine zb ?_; refine blk_far ?_ gA.out _; refine zb ?_; exact cA.out⟩, ⟨zB3 HB.out hA.out DA.out⟩⟩
          ·replace sC := Bool.eq_false_iff.mpr sC
           subst sC
           rw [if_neg Bool.false_ne_true] at H; obtain rfl := Option.some.inj H; have xA : 0 ≤ (dA : Int) := zD; have wA : dA < (l1.length : Int) := zD; obtain ⟨kB, YA, jA, iA⟩ := at_T113 nB.out dA xA wA
           cases YA
           replace jA := zw HB.out jA; replace iA := zw HB.out iA; replace xA := eq_true xA; replace wA := eq_true wA
           go_wp2_with (first | ((with_reducible refine zd 6 ?_); (try (refine gate_guard (by rfl) ?_; dsimp only)); refine zbx (N := 6) (cs := #[.int .i64 0, .int .i64 0]) (t := 113) ?_; intro hB hg kD aA hb; have FA := zQ (aA); have CA := zgz2 hg HB.out hA.out; have DA := CA; have gA := zn1 hg cA.out; have kA := zn2 hg cA.out; replace cA := zbl cA.out hb; replace HB := zbs2 HB.out hA.out hb; clear hb aA hg; have RC := kA.out; have MC := gA.out; obtain ⟨jC, iC, XB, WB⟩ := zy2 FA.out) | ((with_reducible refine zgc 88 ?_); refine zgo (some 26) Try.func88 #[.int .i64 ((rd_T113 l1 dA).f0), .int .i64 (-100), .int .i64 100] ?_; (with_reducible refine (impl_within.calls ((rd_T113 l1 dA).f0) (-100) 100 true _ GC.out).mono ?_); rintro e w' ⟨rfl, ⟨nd, rfl⟩⟩; refine ⟨_, rfl, ?_⟩) | (go_at_call 88; (with_reducible refine (impl_within.calls ((rd_T113 l1 dA).f1) (-100) 100 false _ ZC.out).mono ?_); rintro e w' ⟨rfl, ⟨nd, rfl⟩⟩))
           go_ret
           exact ⟨zE, zB3 HB.out hA.out DA.out⟩
         ·replace tC := Bool.eq_false_iff.mpr tC
          subst tC
          rw [if_neg Bool.false_ne_true] at H; obtain rfl := Option.some.inj H; have xA : 0 ≤ (dA : Int) := zD; have wA : dA < (l1.length : Int) := zD; obtain ⟨kB, YA, jA, iA⟩ := at_T113 nB.out dA xA wA
          cases YA
          replace jA := zw HB.out jA; replace iA := zw HB.out iA; replace xA := eq_true xA; replace wA := eq_true wA
          go_wp2_with (first | ((with_reducible refine zd 6 ?_); (try (refine gate_guard (by rfl) ?_; dsimp only)); refine zbx (N := 6) (cs := #[.int .i64 0, .int .i64 0]) (t := 113) ?_; intro hB hg jD aA hb; have FA := zQ (aA); have CA := zgz2 hg HB.out hA.out; have DA := CA; have gA := zn1 hg cA.out; have kA := zn2 hg cA.out; replace cA := zbl cA.out hb; replace HB := zbs2 HB.out hA.out hb; clear hb aA hg; have QC := kA.out; have LC := gA.out; obtain ⟨hC, gC, VB, UB⟩ := zy2 FA.out) | ((with_reducible refine zgc 88 ?_); refine zgo (some 26) Try.func88 #[.int .i64 ((rd_T113 l1 dA).f0), .int .i64 (-100), .int .i64 100] ?_; (with_reducible refine (impl_within.calls ((rd_T113 l1 dA).f0) (-100) 100 false _ GC.out).mono ?_); rintro e w' ⟨rfl, ⟨nd, rfl⟩⟩; refine ⟨_, rfl, ?_⟩))
          go_ret
          exact ⟨zE, zB3 HB.out hA.out DA.out⟩
        ·rw [if_neg uC] at H
         exact absurd H (by simp)
       ·rw [if_neg eB] at H
        exact absurd H (by simp)
      ·rw [if_neg xB] at H
       have JB := decide_eq_false xB; clear xB; obtain rfl := Option.some.inj H
       go_wp2
       go_ret
       exact ⟨zE, zB2 HB.out hA.out⟩

end
end Go.Proofs.Ytimjblgepbhoaaa.PStays

