import Derived.Test.YtimjblgepbhoaaaHStays0
import Derived.Test.YtimjblgepbhoaaaHStaysn
namespace Go.Proofs.Ytimjblgepbhoaaa.PStays
noncomputable section
open Go.RowKit Go.Proofs.YtimjblgepbhoaaaW.PrintWords Go.Proofs.YtimjblgepbhoaaaW.PrintLast Go.Proofs.YtimjblgepbhoaaaW.PrintMore
attribute [local go_sem] max2_int min2_int max_two min_two max_three min_three max_four min_four   -- for this text's walks alone
set_option linter.unusedVariables false
set_option linter.unusedSimpArgs false
set_option maxHeartbeats 8000000
set_option maxRecDepth 100000

def spec_l11Can.l0 : Nat → List (S113) → List Int → Int → List (S164) → List (S115) → Option (Bool)
 | 0, _, _, _, _, _ => none
 | k + 1, x1, x2, x7, nA, mA => if 0 ≤ (IntKind.u64.wrap ((x2.length : Int))) then (if x7 < (shl .i64 1 (IntKind.u64.wrap ((x2.length : Int)))) then ((spec_l11Part.f k x2 x7).bind fun hA => ((spec_l11Holds.f k nA mA x1 hA).bind fun sA => (if sA.2.2 = true then (some true) else (spec_l11Can.l0 k x1 x2 (wrap64 (x7 + 1)) nA mA)))) else (some false)) else (none)
def spec_l11Can.f (k : Nat) (l0_0 : List (S164)) (l0_1 : List (S115)) (l1 : List (S113)) (l2 : List Int) : Option (Bool) := spec_l11Can.l0 k l1 l2 0 l0_0 l0_1
theorem spec_l11Can.calls (k : Nat) (g0 : Nat) (A0_0 : Option Addr) (c0_0 : Nat) (l0_0 : List (S164)) (A0_1 : Option Addr) (c0_1 : Nat) (l0_1 : List (S115)) (A1 : Option Addr) (c1 : Nat) (l1 : List (S113)) (A2 : Option Addr) (c2 : Nat) (l2 : List Int) (r : Bool) (w : World) (DA : w.heap[g0]? = some (.cells #[.slice A0_0 l0_0.length c0_0, .slice A0_1 l0_1.length c0_1] 27 (0, 0))) (pA : Kd.C k164 w A0_0 l0_0.length l0_0) (rA : l0_0.length ≤ c0_0) (oA : Kd.C k115 w A0_1 l0_1.length l0_1) (qA : l0_1.length ≤ c0_1) (PA : Kd.C k113 w A1 l1.length l1) (RA : l1.length ≤ c1) (OA : Kd.C (Kd.int .i64) w A2 l2.length l2) (QA : l2.length ≤ c2) (h : spec_l11Can.f k l0_0 l0_1 l1 l2 = some r) :
  Calls Try.prog 83 #[.pointer (some ⟨g0, 0, none⟩), .slice A1 l1.length c1, .slice A2 l2.length c2] w fun e w' => e = .returned (.bool r) ∧ Below w.heap.size w w' := by
 have BB := Try.underlying35
 have uA := zQ pA
 have wA := zQ rA
 clear pA rA
 have tA := zQ oA
 have vA := zQ qA
 clear oA qA
 have VA := zQ PA
 have tB := zQ RA
 clear PA RA
 have UA := zQ OA
 have XA := zQ QA
 clear OA QA
 have cA := zQ DA
 clear DA
 have HB := zQ (Below.refl w.heap.size w)
 have H : (spec_l11Can.l0 k l1 l2 0 l0_0 l0_1) = some r := h
 clear h
 have H' := zQ H
 clear H
 go_enter Try.func83, Try.ntmps83
 go_wp2
 go_loopg [7] k (fun kq v7 w' => ∃ (aA : Int), v7 = .int .i64 aA ∧ Aside0 (spec_l11Can.l0 kq l1 l2 aA l0_0 l0_1 = some r) ∧ Aside0 (kq ≤ k) ∧ Aside0 (w'.heap[g0]? = some (.cells #[(.slice A0_0 l0_0.length c0_0), (.slice A0_1 l0_1.length c0_1)] 27 (0, 0))) ∧ Aside0 (Below w.heap.size w w'))
 case atStart => exact ⟨(0), (zF), H', ⟨Nat.le_refl _⟩, ⟨zb cA.out⟩, ⟨zB HB.out⟩⟩
 case round =>
  clear H'; (try clear c1); (try clear c2); (try clear p2); obtain ⟨aA, rfl, HA, WA, cA, HB⟩ := hrel
  cases gk with
  | zero => exact absurd HA.out (by simp [spec_l11Can.l0])
  | succ k1 =>
   have H := HA.out; clear HA
   simp only [spec_l11Can.l0] at H
   obtain ⟨zA, IA⟩ : ∃ j_ : Int, (IntKind.u64.wrap ((l2.length : Int))) = j_ := ⟨_, rfl⟩
   replace H : (if 0 ≤ (zA) then (if aA < (shl .i64 1 (zA)) then ((spec_l11Part.f k1 l2 aA).bind fun hA => ((spec_l11Holds.f k1 l0_0 l0_1 l1 hA).bind fun sA => (if sA.2.2 = true then (some true) else (spec_l11Can.l0 k1 l1 l2 (wrap64 (aA + 1)) l0_0 l0_1)))) else (some false)) else (none)) = some r := by first | (rw [IA] at H; exact H) | (simp only [IA] at H ⊢; exact H)
   by_cases c5 : 0 ≤ (zA)
   ·rw [if_pos c5] at H
    have rB := eq_true c5; have EB := decide_eq_true c5; clear c5; obtain ⟨JA, BA⟩ : ∃ j_ : Int, (shl .i64 1 (zA)) = j_ := ⟨_, rfl⟩
    replace H : (if aA < (JA) then ((spec_l11Part.f k1 l2 aA).bind fun hA => ((spec_l11Holds.f k1 l0_0 l0_1 l1 hA).bind fun sA => (if sA.2.2 = true then (some true) else (spec_l11Can.l0 k1 l1 l2 (wrap64 (aA + 1)) l0_0 l0_1)))) else (some false)) = some r := by first | (rw [BA] at H; exact H) | (simp only [BA] at H ⊢; exact H)
    have hji6_ : (IntKind.i64.wrap (1 * 2 ^ min (zA).toNat 64)) = JA := BA; have hji6z : (zA) ≤ 64 → (IntKind.i64.wrap (1 * 2 ^ (zA).toNat)) = JA := shl_small BA
    have hji6u : (IntKind.i64.wrap (2 ^ min (zA).toNat 64)) = JA := by have h_ := hji6_; rw [Int.one_mul] at h_; exact h_
    have hji6v : (zA) ≤ 64 → (IntKind.i64.wrap (2 ^ (zA).toNat)) = JA := fun hle_ => by have h_ := hji6z hle_; rw [Int.one_mul] at h_; exact h_
    have hji6y : (wrap64 (1 * 2 ^ min (zA).toNat 64)) = JA := (i64_w _).symm.trans hji6_
    have hji6x : (zA) ≤ 64 → (wrap64 (1 * 2 ^ (zA).toNat)) = JA := fun h_ => (i64_w _).symm.trans (hji6z h_)
    by_cases c7 : aA < (JA)
    ·rw [if_pos c7] at H
     have qB := decide_eq_true c7; clear c7; replace H := zob H; obtain ⟨hA, A8, H⟩ := H; replace H := zob H; obtain ⟨⟨NA, MA, jB⟩, A9, H⟩ := H
     by_cases gB : jB = true
     ·subst gB
      rw [if_pos rfl] at H; obtain rfl := Option.some.inj H
      go_wp2_with (first | ((with_reducible refine zgc 111 ?_); refine zgo (some 23) Try.func111 #[.slice A2 l2.length c2, .int .i64 aA] ?_; (with_reducible refine (spec_l11Part.calls k1 _ _ l2 aA hA _ (zC UA.out HB.out) XA.out A8.out).mono ?_); rintro e NB ⟨iB, rfl, AA, hb⟩; refine ⟨_, rfl, ?_⟩; have bA := zQ (Kd.R_lower AA (below_size (zB HB.out))); replace cA := zbl cA.out hb; replace HB := zbs HB.out hb; (try clear hb); (try clear AA); obtain ⟨vB, pB, nB⟩ := Kd.R_slice bA.out; subst nB) | ((with_reducible refine zgc 74 ?_); refine zgo (some 24) Try.func74 #[.pointer (some ⟨g0, 0, none⟩), .slice A1 l1.length c1, .slice vB hA.length pB] ?_; (with_reducible refine (spec_l11Holds.calls k1 g0 A0_0 c0_0 l0_0 A0_1 c0_1 l0_1 _ _ l1 _ _ hA NA MA true _ (zb cA.out) (zC uA.out HB.out) wA.out (zC tA.out HB.out) vA.out (zC VA.out HB.out) tB.out ?side8 ((Kd.R_reads' bA.out).2.1) A9.out).mono ?_); (case side8 => exact zk (Kd.R_reads' bA.out).2.2); rintro e MB ⟨hB, rfl, AA, hb⟩; refine ⟨_, rfl, ?_⟩; have iA := zQ (Kd.R_lower (Kd.R_new' AA (Kd.R_lt (zR bA.out))) (below_size (zB HB.out))); replace bA := zQ (Kd.R_elder' (zR bA.out) (Kd.R_base AA) hb); replace cA := zbl cA.out hb; replace HB := zbs HB.out hb; (try clear hb); (try clear AA)) | ((with_reducible refine zd 8 ?_); refine zbx (N := 8) (cs := #[.slice none 0 0, .int .i64 0]) (t := 35) ?_; intro SA hg LB CA hb; have GA := zQ (CA); have EA := zgz hg HB.out; have FA := EA; have gA := zn1 hg cA.out; have jA := zn2 hg cA.out; replace bA := zRb bA.out hb; replace iA := zRb iA.out hb; replace cA := zbl cA.out hb; replace HB := zbs HB.out hb; clear hb CA hg; obtain ⟨GB, DB, mB⟩ := Kd.R_slice iA.out; subst mB; have AB := jA.out; have xB := gA.out; obtain ⟨fB, eB, bB, aB⟩ := zy2 GA.out))
      go_ret
      exact ⟨by first | rfl | (simp [errW_none, errW_some] <;> rfl) | (simp only [← IA, ← BA]; first | rfl | (simp [errW_none, errW_some] <;> rfl)) | (simp [*, errW_none, errW_some] <;> rfl), zB2 HB.out FA.out⟩
     ·replace gB := Bool.eq_false_iff.mpr gB
      subst gB
      rw [if_neg Bool.false_ne_true] at H; have H' := zQ H; clear H
      go_wp2_with (first | ((with_reducible refine zgc 111 ?_); refine zgo (some 23) Try.func111 #[.slice A2 l2.length c2, .int .i64 aA] ?_; (with_reducible refine (spec_l11Part.calls k1 _ _ l2 aA hA _ (zC UA.out HB.out) XA.out A8.out).mono ?_); rintro e KB ⟨iB, rfl, AA, hb⟩; refine ⟨_, rfl, ?_⟩; have bA := zQ (Kd.R_lower AA (below_size (zB HB.out))); replace cA := zbl cA.out hb; replace HB := zbs HB.out hb; (try clear hb); (try clear AA); obtain ⟨uB, oB, lB⟩ := Kd.R_slice bA.out; subst lB) | ((with_reducible refine zgc 74 ?_); refine zgo (some 24) Try.func74 #[.pointer (some ⟨g0, 0, none⟩), .slice A1 l1.length c1, .slice uB hA.length oB] ?_; (with_reducible refine (spec_l11Holds.calls k1 g0 A0_0 c0_0 l0_0 A0_1 c0_1 l0_1 _ _ l1 _ _ hA NA MA false _ (zb cA.out) (zC uA.out HB.out) wA.out (zC tA.out HB.out) vA.out (zC VA.out HB.out) tB.out ?side8 ((Kd.R_reads' bA.out).2.1) A9.out).mono ?_); (case side8 => exact zk (Kd.R_reads' bA.out).2.2); rintro e JB ⟨hB, rfl, AA, hb⟩; refine ⟨_, rfl, ?_⟩; have iA := zQ (Kd.R_lower (Kd.R_new' AA (Kd.R_lt (zR bA.out))) (below_size (zB HB.out))); replace bA := zQ (Kd.R_elder' (zR bA.out) (Kd.R_base AA) hb); replace cA := zbl cA.out hb; replace HB := zbs HB.out hb; (try clear hb); (try clear AA)) | ((with_reducible refine zd 8 ?_); refine zbx (N := 8) (cs := #[.slice none 0 0, .int .i64 0]) (t := 35) ?_; intro SA hg IB CA hb; have GA := zQ (CA); have EA := zgz hg HB.out; have FA := EA; have gA := zn1 hg cA.out; have jA := zn2 hg cA.out; replace bA := zRb bA.out hb; replace iA := zRb iA.out hb; replace cA := zbl cA.out hb; replace HB := zbs HB.out hb; clear hb CA hg; obtain ⟨FB, CB, kB⟩ := Kd.R_slice iA.out; subst kB; have yB := jA.out; have wB := gA.out; obtain ⟨dB, cB, ZA, YA⟩ := zy2 GA.out))
      go_roundg k1
      case measure => have := WA.out; omega
      case rel => exact ⟨(wrap64 (aA + 1)), (zF), H', ⟨by have := WA.out; omega⟩, ⟨by refine zb ?_; refine blk_far ?_ gA.out _; refine zb ?_; refine blk_far ?_ gA.out _; refine zb ?_; exact cA.out⟩, ⟨zB2 HB.out FA.out⟩⟩
    ·rw [if_neg c7] at H
     have qB := decide_eq_false c7; clear c7; obtain rfl := Option.some.inj H
     go_wp2
     go_ret
     exact ⟨by first | rfl | (simp [errW_none, errW_some] <;> rfl) | (simp only [← IA, ← BA]; first | rfl | (simp [errW_none, errW_some] <;> rfl)) | (simp [*, errW_none, errW_some] <;> rfl), zB HB.out⟩
   ·rw [if_neg c5] at H
    exact absurd H (by simp)

def spec_l11Loose.l0 : Nat → List (List (S113)) → List Int → Int → List (S164) → List (S115) → Option (Int)
 | 0, _, _, _, _, _ => none
 | k + 1, x1, x2, x7, nA, mA => if x7 < (x1.length : Int) then (if 0 ≤ x7 then ((spec_l11Can.f k nA mA (rd_L9 x1 x7) x2).bind fun KA => (if KA = true then (spec_l11Loose.l0 k x1 x2 (wrap64 (x7 + 1)) nA mA) else (some x7))) else (none)) else (some (-1))
def spec_l11Loose.f (k : Nat) (l0_0 : List (S164)) (l0_1 : List (S115)) (l1 : List (List (S113))) (l2 : List Int) : Option (Int) := spec_l11Loose.l0 k l1 l2 0 l0_0 l0_1
theorem spec_l11Loose.calls (k : Nat) (g0 : Nat) (A0_0 : Option Addr) (c0_0 : Nat) (l0_0 : List (S164)) (A0_1 : Option Addr) (c0_1 : Nat) (l0_1 : List (S115)) (A1 : Option Addr) (c1 : Nat) (l1 : List (List (S113))) (A2 : Option Addr) (c2 : Nat) (l2 : List Int) (r : Int) (w : World) (DA : w.heap[g0]? = some (.cells #[.slice A0_0 l0_0.length c0_0, .slice A0_1 l0_1.length c0_1] 27 (0, 0))) (pA : Kd.C k164 w A0_0 l0_0.length l0_0) (rA : l0_0.length ≤ c0_0) (oA : Kd.C k115 w A0_1 l0_1.length l0_1) (qA : l0_1.length ≤ c0_1) (PA : Kd.C (Kd.slice 113 k113) w A1 l1.length l1) (RA : l1.length ≤ c1) (OA : Kd.C (Kd.int .i64) w A2 l2.length l2) (QA : l2.length ≤ c2) (h : spec_l11Loose.f k l0_0 l0_1 l1 l2 = some r) :
  Calls Try.prog 106 #[.pointer (some ⟨g0, 0, none⟩), .slice A1 l1.length c1, .slice A2 l2.length c2] w fun e w' => e = .returned (.int .i64 r) ∧ Below w.heap.size w w' := by
 have uA := zQ pA
 have wA := zQ rA
 clear pA rA
 have tA := zQ oA
 have vA := zQ qA
 clear oA qA
 have VA := zQ PA
 have tB := zQ RA
 clear PA RA
 have UA := zQ OA
 have XA := zQ QA
 clear OA QA
 have cA := zQ DA
 clear DA
 have HB := zQ (Below.refl w.heap.size w)
 have H : (spec_l11Loose.l0 k l1 l2 0 l0_0 l0_1) = some r := h
 clear h
 have H' := zQ H
 clear H
 go_enter Try.func106, Try.ntmps106
 go_wp2
 go_loopg [7] k (fun kq v7 w' => ∃ (aA : Int), v7 = .int .i64 aA ∧ Aside0 (spec_l11Loose.l0 kq l1 l2 aA l0_0 l0_1 = some r) ∧ Aside0 (kq ≤ k) ∧ Aside0 (w'.heap[g0]? = some (.cells #[(.slice A0_0 l0_0.length c0_0), (.slice A0_1 l0_1.length c0_1)] 27 (0, 0))) ∧ Aside0 (Below w.heap.size w w'))
 case atStart => exact ⟨(0), (zF), H', ⟨Nat.le_refl _⟩, ⟨zb cA.out⟩, ⟨zB HB.out⟩⟩
 case round =>
  clear H'; (try clear c1); (try clear c2); (try clear p2); obtain ⟨aA, rfl, HA, WA, cA, HB⟩ := hrel
  cases gk with
  | zero => exact absurd HA.out (by simp [spec_l11Loose.l0])
  | succ k1 =>
   have H := HA.out; clear HA
   simp only [spec_l11Loose.l0] at H
   by_cases c4 : aA < (l1.length : Int)
   ·rw [if_pos c4] at H
    have sB := decide_eq_true c4; clear c4
    by_cases c5 : 0 ≤ aA
    ·rw [if_pos c5] at H
     have rB := decide_eq_true c5; clear c5; replace H := zob H; obtain ⟨KA, A6, H⟩ := H
     by_cases c7 : KA = true
     ·subst c7
      rw [if_pos rfl] at H; have H' := zQ H; clear H; have yA : 0 ≤ (aA : Int) := zD; have xA : aA < (l1.length : Int) := zD; obtain ⟨TA, A208_0, c208_0, LA, dA, eA, fA⟩ := at_L9 VA.out aA yA xA
      cases LA
      replace dA := zw HB.out dA; have kA := zQ fA; have lA := zQ eA; clear fA eA; replace yA := eq_true yA; replace xA := eq_true xA
      go_wp2_with (first | ((with_reducible refine zgc 83 ?_); refine zgo (some 20) Try.func83 #[.pointer (some ⟨g0, 0, none⟩), .slice A208_0 (rd_L9 l1 aA).length c208_0, .slice A2 l2.length c2] ?_; (with_reducible refine (spec_l11Can.calls k1 g0 A0_0 c0_0 l0_0 A0_1 c0_1 l0_1 _ _ (rd_L9 l1 aA) _ _ l2 true _ (zb cA.out) (zC uA.out HB.out) wA.out (zC tA.out HB.out) vA.out (zC kA.out HB.out) lA.out (zC UA.out HB.out) XA.out A6.out).mono ?_); rintro e w8 ⟨rfl, hb⟩; refine ⟨_, rfl, ?_⟩; replace cA := zbl cA.out hb; replace HB := zbs HB.out hb; (try clear hb)))
      go_roundg k1
      case measure => have := WA.out; omega
      case rel => exact ⟨(wrap64 (aA + 1)), (zF), H', ⟨by have := WA.out; omega⟩, ⟨zb cA.out⟩, ⟨zB HB.out⟩⟩
     ·replace c7 := Bool.eq_false_iff.mpr c7
      subst c7
      rw [if_neg Bool.false_ne_true] at H; obtain rfl := Option.some.inj H; have yA : 0 ≤ (aA : Int) := zD; have xA : aA < (l1.length : Int) := zD; obtain ⟨TA, A208_0, c208_0, LA, dA, eA, fA⟩ := at_L9 VA.out aA yA xA
      cases LA
      replace dA := zw HB.out dA; have kA := zQ fA; have lA := zQ eA; clear fA eA; replace yA := eq_true yA; replace xA := eq_true xA
      go_wp2_with (first | ((with_reducible refine zgc 83 ?_); refine zgo (some 20) Try.func83 #[.pointer (some ⟨g0, 0, none⟩), .slice A208_0 (rd_L9 l1 aA).length c208_0, .slice A2 l2.length c2] ?_; (with_reducible refine (spec_l11Can.calls k1 g0 A0_0 c0_0 l0_0 A0_1 c0_1 l0_1 _ _ (rd_L9 l1 aA) _ _ l2 false _ (zb cA.out) (zC uA.out HB.out) wA.out (zC tA.out HB.out) vA.out (zC kA.out HB.out) lA.out (zC UA.out HB.out) XA.out A6.out).mono ?_); rintro e w9 ⟨rfl, hb⟩; refine ⟨_, rfl, ?_⟩; replace cA := zbl cA.out hb; replace HB := zbs HB.out hb; (try clear hb)))
      go_ret
      exact ⟨zE, zB HB.out⟩
    ·rw [if_neg c5] at H
     exact absurd H (by simp)
   ·rw [if_neg c4] at H
    have sB := decide_eq_false c4; clear c4; obtain rfl := Option.some.inj H
    go_wp2
    go_ret
    exact ⟨zE, zB HB.out⟩

end
end Go.Proofs.Ytimjblgepbhoaaa.PStays

