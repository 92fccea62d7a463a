import Derived.Test.YtcomncokgkeniaaHSailw0
import Derived.Test.YtcomncokgkeniaaHSailwa
import Derived.Test.YtcomncokgkeniaaHSailwh
import Derived.Test.YtcomncokgkeniaaHSailwq
namespace Go.Proofs.Ytcomncokgkeniaa.PSailw
noncomputable section
open Go.RowKit Go.Proofs.YtcomncokgkeniaaW.PrintWords Go.Proofs.YtcomncokgkeniaaW.PrintLast Go.Proofs.YtcomncokgkeniaaW.PrintMore
attribute [local go_sem] max2_int min2_int max_two min_two max_three min_three max_four min_four   -- for this text's walks alone
set_option linter.unusedVariables false
set_option linter.unusedSimpArgs false
set_option maxHeartbeats 8000000
set_option maxRecDepth 100000

def laws_FnExactWidthAt.j0 : Nat → List (S51) → List (S49) → Bool → Option (Bool)
 | 0, _, _, _ => none
 | k + 1, x0, x8, x39 => if x39 = true then (some false) else ((laws_toSpotS.f k x0).bind fun sA => ((laws_eqSpotS.f k x8 sA).bind fun QA => (if QA = true then (some true) else (some false))))
def laws_FnExactWidthAt.f (k : Nat) (l0 : List (S51)) (a1 : Int) : Option (Bool) := (laws_szSpotS.f l0 1048576).bind fun uA => (if uA < 0 then (some true) else ((laws_toSpotS.f k l0).bind fun tA => ((spec_WidthAt.f k tA a1).bind fun xA => ((laws_toSpotS.f k l0).bind fun gA => ((impl_WidthAt.f k gA a1).bind fun wA => ((laws_eqFraction.f wA.1 wA.2.1 xA.1 xA.2.1).bind fun RA => (if RA = true then (laws_FnExactWidthAt.j0 k l0 gA (wA.2.2 != xA.2.2)) else (laws_FnExactWidthAt.j0 k l0 gA true))))))))
theorem laws_FnExactWidthAt.j0_cut (k : Nat) (x0_ : List (S51)) (x1_ : List (S49)) (r : Bool) (h : laws_FnExactWidthAt.j0 k x0_ x1_ true = some r) (hr : r = true) : False := by
 cases k with
 | zero => simp only [laws_FnExactWidthAt.j0] at h; cases h
 | succ k =>
  have h2 : some false = some r := h
  cases h2
  cases hr
theorem laws_FnExactWidthAt.calls (k : Nat) (A0 : Option Addr) (c0 : Nat) (l0 : List (S51)) (a1 : Int) (r : Bool) (w : World) (hr0 : Kd.C k51 w A0 l0.length l0) (hc0 : l0.length ≤ c0) (h : laws_FnExactWidthAt.f k l0 a1 = some r) (hrt : r = true) :
  Calls Try.prog 3 #[.slice A0 l0.length c0, .int .i64 a1] w fun e w' => e = .returned (.bool r) ∧ Below w.heap.size w w' := by
 have HRT := zQ hrt
 clear hrt
 have EB := Try.underlying25
 have YA := zQ hr0
 have ZA := zQ hc0
 clear hr0 hc0
 have HB := zQ (Below.refl w.heap.size w)
 have H := h; unfold laws_FnExactWidthAt.f at H
 clear h
 replace H := zob H; obtain ⟨uA, A3, H⟩ := H
 by_cases c4 : uA < 0
 ·rw [if_pos c4] at H
  have WA := decide_eq_true c4; clear c4; obtain rfl := Option.some.inj H
  go_enter Try.func3, Try.ntmps3
  go_wp2_with (first | ((with_reducible refine zgc 5 ?_); refine zgo (some 13) Try.func5 #[.slice A0 l0.length c0, .int .i64 1048576] ?_; (with_reducible refine (laws_szSpotS.calls _ _ l0 1048576 uA _ ?side1 ZA.out A3.out).mono ?_); (case side1 => repeat (first | exact YA.out | (with_reducible refine Kd.C_alloc ?_ _) | (with_reducible refine Kd.C_drewN ?_ _) | (with_reducible refine Kd.C_drew ?_))); rintro e w' ⟨rfl, ⟨nd, rfl⟩⟩; refine ⟨_, rfl, ?_⟩))
  go_ret
  exact ⟨zE, zB HB.out⟩
 ·rw [if_neg c4] at H
  have WA := decide_eq_false c4; clear c4; replace H := zob H; obtain ⟨tA, A5, H⟩ := H; replace H := zob H; obtain ⟨⟨lA, nA, VA⟩, A6, H⟩ := H; replace H := zob H; obtain ⟨gA, A7, H⟩ := H; replace H := zob H; obtain ⟨⟨mA, pA, UA⟩, A8, H⟩ := H; have rB := zQ H; clear H
  go_enter Try.func3, Try.ntmps3
  go_upto_region 8 with (first | ((with_reducible refine zgc 5 ?_); refine zgo (some 13) Try.func5 #[.slice A0 l0.length c0, .int .i64 1048576] ?_; (with_reducible refine (laws_szSpotS.calls _ _ l0 1048576 uA _ ?side1 ZA.out A3.out).mono ?_); (case side1 => repeat (first | exact YA.out | (with_reducible refine Kd.C_alloc ?_ _) | (with_reducible refine Kd.C_drewN ?_ _) | (with_reducible refine Kd.C_drew ?_))); rintro e w' ⟨rfl, ⟨nd, rfl⟩⟩; refine ⟨_, rfl, ?_⟩) | ((with_reducible refine zgc 7 ?_); refine zgo (some 18) Try.func7 #[.slice A0 l0.length c0] ?_; (with_reducible refine (laws_toSpotS.calls k _ _ l0 tA _ ?side1 ZA.out A5.out).mono ?_); (case side1 => repeat (first | exact YA.out | (with_reducible refine Kd.C_alloc ?_ _) | (with_reducible refine Kd.C_drewN ?_ _) | (with_reducible refine Kd.C_drew ?_))); rintro e RB ⟨DB, rfl, yA, hb⟩; refine ⟨_, rfl, ?_⟩; have bA := zQ (Kd.R_lower yA (below_size (zB HB.out))); replace HB := zbs HB.out hb; (try clear hb); (try clear yA); obtain ⟨tB, qB, oB⟩ := Kd.R_slice bA.out; subst oB) | ((with_reducible refine zgc 6 ?_); refine zgo (some 20) Try.func6 #[.slice tB tA.length qB, .int .i64 a1] ?_; (with_reducible refine (spec_WidthAt.calls k _ _ tA a1 lA nA VA _ ?side1 ((Kd.R_reads' bA.out).2.1) A6.out).mono ?_); (case side1 => exact zk (Kd.R_reads' bA.out).2.2); rintro e QB ⟨rfl, hb⟩; refine ⟨_, rfl, ?_⟩; replace bA := zRb bA.out hb; replace HB := zbs HB.out hb; (try clear hb)) | ((with_reducible refine zd 6 ?_); refine zbx (N := 6) (cs := #[.int .i64 0, .int .i64 0]) (t := 25) ?_; intro hA hg PB vA hb; have aA := zQ (vA); have bB := zgz hg HB.out; have cA := bB; replace bA := zRb bA.out hb; replace HB := zbs HB.out hb; clear hb vA hg; obtain ⟨PA, OA, GA, FA⟩ := zy2 aA.out) | ((with_reducible refine zgc 7 ?_); refine zgo (some 24) Try.func7 #[.slice A0 l0.length c0] ?_; (with_reducible refine (laws_toSpotS.calls k _ _ l0 gA _ (Kd.C_below YA.out (zB2 HB.out cA.out)) ZA.out A7.out).mono ?_); rintro e OB ⟨CB, rfl, yA, hb⟩; refine ⟨_, rfl, ?_⟩; have fA := zQ (Kd.R_lower (Kd.R_new' yA (Kd.R_lt (by (with_reducible repeat (first | apply Kd.R_alloc | apply Kd.R_drewN | apply Kd.R_drew)); exact (Kd.R_mono (Kd.R_far (p := ⟨hA, 1, none⟩) (Kd.R_far (p := ⟨hA, 0, none⟩) (Kd.R_types bA.out aA.out (by decide)) (fun _ hk => hk.2) (.int .i64 lA)) (fun _ hk => hk.2) (.int .i64 nA)) (fun _ h_ => h_.1))))) (below_size (zB2 HB.out cA.out))); replace bA := zQ (Kd.R_elder' (by (with_reducible repeat (first | apply Kd.R_alloc | apply Kd.R_drewN | apply Kd.R_drew)); exact (Kd.R_mono (Kd.R_far (p := ⟨hA, 1, none⟩) (Kd.R_far (p := ⟨hA, 0, none⟩) (Kd.R_types bA.out aA.out (by decide)) (fun _ hk => hk.2) (.int .i64 lA)) (fun _ hk => hk.2) (.int .i64 nA)) (fun _ h_ => h_.1))) (Kd.R_base yA) hb); replace aA := zQ (blk_below (g := hA) (o := .cells #[.int .i64 lA, .int .i64 nA] 25 (0, 0)) (by refine zb ?_; refine blk_put (cs := #[.int .i64 lA, .int .i64 0]) ?_ 1 _ rfl; refine zb ?_; refine blk_put (cs := #[.int .i64 0, .int .i64 0]) ?_ 0 _ rfl; refine zb ?_; exact aA.out) hb); replace HB := zbs2 HB.out cA.out hb; (try clear hb); (try clear yA); obtain ⟨TA, SA, nB⟩ := Kd.R_slice fA.out; subst nB) | ((with_reducible refine zgc 8 ?_); refine zgo (some 28) Try.func8 #[.slice TA gA.length SA, .int .i64 a1] ?_; (with_reducible refine (impl_WidthAt.calls k _ _ gA a1 mA pA UA _ ?side1 ((Kd.R_reads' fA.out).2.1) A8.out).mono ?_); (case side1 => exact zk (Kd.R_reads' fA.out).2.2); rintro e NB ⟨rfl, hb⟩; refine ⟨_, rfl, ?_⟩; replace bA := zRb bA.out hb; replace fA := zRb fA.out hb; replace aA := zbl aA.out hb; replace HB := zbs2 HB.out cA.out hb; (try clear hb)) | ((with_reducible refine zd 9 ?_); refine zbx (N := 9) (cs := #[.int .i64 0, .int .i64 0]) (t := 25) ?_; intro iA hg MB vA hb; have dA := zQ (vA); have aB := zgz2 hg HB.out cA.out; have kA := aB; have eA := zn1 hg aA.out; have jA := zn2 hg aA.out; replace bA := zRb bA.out hb; replace fA := zRb fA.out hb; replace aA := zbl aA.out hb; replace HB := zbs2 HB.out cA.out hb; clear hb vA hg; have yB := jA.out; have wB := eA.out; obtain ⟨NA, MA, EA, DA⟩ := zy2 dA.out))
  (try simp only [Act.put, List.setIfInBounds_toArray, List.set_cons_zero, List.set_cons_succ])
  go_cut [39] (fun BB wc => ∃ (kq : Nat) (rA : Bool), BB = .bool rA ∧ Aside0 (laws_FnExactWidthAt.j0 kq l0 gA rA = some r) ∧ Aside0 (kq ≤ k) ∧ Aside0 (Kd.R k49 49 wc w.heap.size (fun _ => True) (.slice TA gA.length SA) gA) ∧ Aside0 (wc.heap[hA]? = some (.cells #[.int .i64 lA, .int .i64 nA] 25 (0, 0))) ∧ Aside0 (wc.heap[iA]? = some (.cells #[.int .i64 mA, .int .i64 pA] 25 (0, 0))) ∧ Aside0 (Below w.heap.size w wc))
  case first =>
   have H := rB.out; clear rB; replace H := zob H; obtain ⟨RA, IB, H⟩ := H
   by_cases XA : RA = true
   ·subst XA
    rw [if_pos rfl] at H; have H' := zQ H; clear H; have xB := jA.out; have vB := eA.out; obtain ⟨LA, KA, CA, BA⟩ := zy2 dA.out; obtain ⟨JA, IA, AA, zA⟩ := zy2 aA.out
    go_wp2_with (first | ((with_reducible refine zgc 9 ?_); refine zgo (some 33) Try.func9 #[.agg #[.int .i64 mA, .int .i64 pA], .agg #[.int .i64 lA, .int .i64 nA]] ?_; (with_reducible refine (laws_eqFraction.calls mA pA lA nA true _ IB.out).mono ?_); rintro e LB ⟨rfl, hb⟩; refine ⟨_, rfl, ?_⟩; replace bA := zQ (Kd.R_below (by (with_reducible repeat (first | apply Kd.R_alloc | apply Kd.R_drewN | apply Kd.R_drew)); exact (Kd.R_mono (Kd.R_far (p := ⟨iA, 1, none⟩) (Kd.R_far (p := ⟨iA, 0, none⟩) (Kd.R_types bA.out dA.out (by decide)) (fun _ hk => hk.2) (.int .i64 mA)) (fun _ hk => hk.2) (.int .i64 pA)) (fun _ h_ => h_.1))) hb); replace fA := zQ (Kd.R_below (by (with_reducible repeat (first | apply Kd.R_alloc | apply Kd.R_drewN | apply Kd.R_drew)); exact (Kd.R_mono (Kd.R_far (p := ⟨iA, 1, none⟩) (Kd.R_far (p := ⟨iA, 0, none⟩) (Kd.R_types fA.out dA.out (by decide)) (fun _ hk => hk.2) (.int .i64 mA)) (fun _ hk => hk.2) (.int .i64 pA)) (fun _ h_ => h_.1))) hb); replace aA := zQ (blk_below (g := hA) (o := .cells #[.int .i64 lA, .int .i64 nA] 25 (0, 0)) (by refine zb ?_; refine blk_far ?_ eA.out _; refine zb ?_; refine blk_far ?_ eA.out _; refine zb ?_; exact aA.out) hb); replace dA := zQ (blk_below (g := iA) (o := .cells #[.int .i64 mA, .int .i64 pA] 25 (0, 0)) (by refine zb ?_; refine blk_put (cs := #[.int .i64 mA, .int .i64 0]) ?_ 1 _ rfl; refine zb ?_; refine blk_put (cs := #[.int .i64 0, .int .i64 0]) ?_ 0 _ rfl; refine zb ?_; exact dA.out) hb); replace HB := zQ (below_step (zB3 HB.out cA.out kA.out) hb); (try clear hb)))
    go_meet
    case rel => exact ⟨_, ((UA != VA)), (zF), H', ⟨by first | omega | exact Nat.le_refl _⟩, ⟨by (with_reducible repeat (first | apply Kd.R_alloc | apply Kd.R_drewN | apply Kd.R_drew)); exact Kd.R_mono fA.out (fun _ hk => trivial)⟩, ⟨zb aA.out⟩, ⟨zb dA.out⟩, ⟨zB3 HB.out cA.out kA.out⟩⟩
   ·replace XA := Bool.eq_false_iff.mpr XA
    subst XA
    rw [if_neg Bool.false_ne_true] at H
    exact (laws_FnExactWidthAt.j0_cut _ _ _ _ H HRT.out).elim
  case rest =>
   clear rB; (try clear c1); (try clear c2); (try clear p2); (try clear c3); (try clear c4); (try clear WA); (try clear c5); (try clear c6); (try clear c7); (try clear c8); (try clear c9); (try clear UB); (try clear XA); (try clear TB); (try clear SB); (try clear PA OA GA FA); (try clear NA MA EA DA); (try clear LA KA CA BA); (try clear JA IA AA zA); (try clear jB iB fB eB); (try clear hB gB dB cB); obtain ⟨kq, rA, rfl, HA, VB, qA, aA, dA, HB⟩ := hcut
   cases kq with
   | zero => exact absurd HA.out (by simp [laws_FnExactWidthAt.j0])
   | succ uB =>
    have H := HA.out; clear HA
    simp only [laws_FnExactWidthAt.j0] at H
    by_cases lB : rA = true
    ·subst lB
     rw [if_pos rfl] at H; obtain rfl := Option.some.inj H
     exact absurd HRT.out (by decide)
    ·replace lB := Bool.eq_false_iff.mpr lB
     subst lB
     rw [if_neg Bool.false_ne_true] at H; replace H := zob H; obtain ⟨sA, GB, H⟩ := H; replace H := zob H; obtain ⟨QA, FB, H⟩ := H
     by_cases kB : QA = true
     ·subst kB
      rw [if_pos rfl] at H; obtain rfl := Option.some.inj H
      go_wp2_with (first | ((with_reducible refine zgc 7 ?_); refine zgo (some 42) Try.func7 #[.slice A0 l0.length c0] ?_; (with_reducible refine (laws_toSpotS.calls uB _ _ l0 sA _ (zC YA.out HB.out) ZA.out GB.out).mono ?_); rintro e KB ⟨AB, rfl, yA, hb⟩; refine ⟨_, rfl, ?_⟩; have oA := zQ (Kd.R_lower (Kd.R_new' yA (Kd.R_lt (zR qA.out))) (below_size (zB3 HB.out cA.out kA.out))); replace qA := zQ (Kd.R_elder' (zR qA.out) (Kd.R_base yA) hb); replace aA := zbl aA.out hb; replace dA := zbl dA.out hb; replace HB := zQ (below_step (zB3 HB.out cA.out kA.out) hb); (try clear hb); (try clear yA); obtain ⟨sB, pB, mB⟩ := Kd.R_slice oA.out; subst mB) | ((with_reducible refine zgc 10 ?_); refine zgo (some 43) Try.func10 #[.slice TA gA.length SA, .slice sB sA.length pB] ?_; (with_reducible refine (laws_eqSpotS.calls uB _ _ gA _ _ sA true _ ?side1 ((Kd.R_reads' qA.out).2.1) ?side3 ((Kd.R_reads' oA.out).2.1) FB.out).mono ?_); (case side1 => exact zk (Kd.R_reads' qA.out).2.2); (case side3 => exact zk (Kd.R_reads' oA.out).2.2); rintro e JB ⟨rfl, hb⟩; refine ⟨_, rfl, ?_⟩; replace qA := zRb qA.out hb; replace oA := zRb oA.out hb; replace aA := zbl aA.out hb; replace dA := zbl dA.out hb; replace HB := zQ (below_step (zB3 HB.out cA.out kA.out) hb); (try clear hb)))
      go_ret
      exact ⟨zE, zB3 HB.out cA.out kA.out⟩
     ·replace kB := Bool.eq_false_iff.mpr kB
      subst kB
      rw [if_neg Bool.false_ne_true] at H; obtain rfl := Option.some.inj H
      exact absurd HRT.out (by decide)

end
end Go.Proofs.Ytcomncokgkeniaa.PSailw

