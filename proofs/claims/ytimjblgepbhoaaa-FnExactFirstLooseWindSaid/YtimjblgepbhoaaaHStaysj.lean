/- The walks of the functions that the law reaches: each computes what its Lean function says. No condition beyond each contract's own. -/
import Derived.Test.YtimjblgepbhoaaaHStays0
import Derived.Test.YtimjblgepbhoaaaHStaysn
namespace Go.Proofs.Ytimjblgepbhoaaa.PStays
noncomputable section
open Go.RowKit Go.Proofs.YtimjblgepbhoaaaW.PrintWords Go.Proofs.YtimjblgepbhoaaaW.PrintLast Go.Proofs.YtimjblgepbhoaaaW.PrintMore
attribute [local go_sem] max2_int min2_int max_two min_two max_three min_three max_four min_four   -- for this text's walks alone
set_option linter.unusedVariables false
set_option linter.unusedSimpArgs false

/-! ### spec_l11Can: function 83 -/
def spec_l11Can.l0 : Nat → List (S113) → List Int → Int → List (S164) → List (S115) → Option (Bool)
 | 0, _, _, _, _, _ => none
 | k + 1, x1, x2, x7, x1000, x1001 => if 0 ≤ (IntKind.u64.wrap ((x2.length : Int))) then (if x7 < (shl .i64 1 (IntKind.u64.wrap ((x2.length : Int)))) then ((spec_l11Part.f k x2 x7).bind fun t199 => ((spec_l11Holds.f k x1000 x1001 x1 t199).bind fun bt202 => (if bt202.2.2 = true then (some true) else (spec_l11Can.l0 k x1 x2 (wrap64 (x7 + 1)) x1000 x1001)))) else (some false)) else (none)
def spec_l11Can.f (k : Nat) (l0_0 : List (S164)) (l0_1 : List (S115)) (l1 : List (S113)) (l2 : List Int) : Option (Bool) := spec_l11Can.l0 k l1 l2 0 l0_0 l0_1
theorem spec_l11Can.mono_l : ∀ k, (∀ y0 y1 y2 y3 y4, LeO (spec_l11Can.l0 k y0 y1 y2 y3 y4) (spec_l11Can.l0 (k + 1) y0 y1 y2 y3 y4))
 | 0 => fun _ _ _ _ _ r h => by simp [spec_l11Can.l0] at h
 | k + 1 => by
  have ih0 := spec_l11Can.mono_l k
  ·intro y0 y1 y2 y3 y4
   unfold spec_l11Can.l0
   (with_reducible repeat' first | apply ih0 | apply spec_l11Holds.mono | apply spec_l11Part.mono | apply LeO.refl | apply LeO.none | refine LeO.ite ?_ ?_ | refine LeO.bind ?_ (fun _ => ?_))
   repeat' first | apply ih0 | apply spec_l11Holds.mono | apply spec_l11Part.mono | apply LeO.none | refine LeO.ite ?_ ?_ | refine LeO.bind ?_ (fun _ => ?_)
theorem spec_l11Can.mono : ∀ a0 a1 a2 a3 k, LeO (spec_l11Can.f k a0 a1 a2 a3) (spec_l11Can.f (k + 1) a0 a1 a2 a3) := by
 intro a0 a1 a2 a3 k
 have ih0 := spec_l11Can.mono_l k
 unfold spec_l11Can.f
 (with_reducible repeat' first | apply ih0 | apply spec_l11Holds.mono | apply spec_l11Part.mono | apply LeO.refl | apply LeO.none | refine LeO.ite ?_ ?_ | refine LeO.bind ?_ (fun _ => ?_))
 repeat' first | apply ih0 | apply spec_l11Holds.mono | apply spec_l11Part.mono | apply LeO.none | refine LeO.ite ?_ ?_ | refine LeO.bind ?_ (fun _ => ?_)
set_option maxHeartbeats 8000000 in
set_option maxRecDepth 100000 in
theorem spec_l11Can.calls (k : Nat) (g0 : Nat) (A0_0 : Option Addr) (c0_0 : Nat) (l0_0 : List (S164)) (A0_1 : Option Addr) (c0_1 : Nat) (l0_1 : List (S115)) (A1 : Option Addr) (c1 : Nat) (l1 : List (S113)) (A2 : Option Addr) (c2 : Nat) (l2 : List Int) (r : Bool) (w : World) (hbk0 : w.heap[g0]? = some (.cells #[.slice A0_0 l0_0.length c0_0, .slice A0_1 l0_1.length c0_1] 27 (0, 0))) (hr0_0 : Kd.C k164 w A0_0 l0_0.length l0_0) (hc0_0 : l0_0.length ≤ c0_0) (hr0_1 : Kd.C k115 w A0_1 l0_1.length l0_1) (hc0_1 : l0_1.length ≤ c0_1) (hr1 : Kd.C k113 w A1 l1.length l1) (hc1 : l1.length ≤ c1) (hr2 : Kd.C (Kd.int .i64) w A2 l2.length l2) (hc2 : l2.length ≤ c2) (h : spec_l11Can.f k l0_0 l0_1 l1 l2 = some r) :
  Calls Try.prog 83 #[.pointer (some ⟨g0, 0, none⟩), .slice A1 l1.length c1, .slice A2 l2.length c2] w fun e w' => e = .returned (.bool r) ∧ Below w.heap.size w w' := by
 have hu35 := Try.underlying35
 have HR0_0 := zQ hr0_0
 have HC0_0 := zQ hc0_0
 clear hr0_0 hc0_0
 have HR0_1 := zQ hr0_1
 have HC0_1 := zQ hc0_1
 clear hr0_1 hc0_1
 have HR1 := zQ hr1
 have HC1 := zQ hc1
 clear hr1 hc1
 have HR2 := zQ hr2
 have HC2 := zQ hc2
 clear hr2 hc2
 have BK0 := zQ hbk0
 clear hbk0
 have HB := zQ (Below.refl w.heap.size w)
 have H : (spec_l11Can.l0 k l1 l2 0 l0_0 l0_1) = some r := h
 clear h
 have H' := zQ H
 clear H
 go_enter Try.func83, Try.ntmps83
 go_wp2
 go_loopg [7] k (fun kq v7 w' => ∃ (x7_1 : Int), v7 = .int .i64 x7_1 ∧ Aside0 (spec_l11Can.l0 kq l1 l2 x7_1 l0_0 l0_1 = some r) ∧ Aside0 (kq ≤ k) ∧ Aside0 (w'.heap[g0]? = some (.cells #[(.slice A0_0 l0_0.length c0_0), (.slice A0_1 l0_1.length c0_1)] 27 (0, 0))) ∧ Aside0 (Below w.heap.size w w'))
 case atStart => exact ⟨(0), (zF), H', ⟨Nat.le_refl _⟩, ⟨zb BK0.out⟩, ⟨zB HB.out⟩⟩
 case round =>
  clear H'; (try clear c1); (try clear c2); (try clear p2); obtain ⟨x7_1, rfl, HA, HK1, BK0, HB⟩ := hrel
  cases gk with
  | zero => exact absurd HA.out (by simp [spec_l11Can.l0])
  | succ k1 =>
   have H := HA.out; clear HA
   simp only [spec_l11Can.l0] at H
   obtain ⟨ji4, hji4⟩ : ∃ j_ : Int, (IntKind.u64.wrap ((l2.length : Int))) = j_ := ⟨_, rfl⟩
   replace H : (if 0 ≤ (ji4) then (if x7_1 < (shl .i64 1 (ji4)) then ((spec_l11Part.f k1 l2 x7_1).bind fun t199 => ((spec_l11Holds.f k1 l0_0 l0_1 l1 t199).bind fun bt202 => (if bt202.2.2 = true then (some true) else (spec_l11Can.l0 k1 l1 l2 (wrap64 (x7_1 + 1)) l0_0 l0_1)))) else (some false)) else (none)) = some r := by first | (rw [hji4] at H; exact H) | (simp only [hji4] at H ⊢; exact H)
   by_cases c5 : 0 ≤ (ji4)
   ·rw [if_pos c5] at H
    have c5b0 := eq_true c5; have c5b1 : decide (0 ≤ (ji4)) = true := decide_eq_true c5; clear c5; obtain ⟨ji6, hji6⟩ : ∃ j_ : Int, (shl .i64 1 (ji4)) = j_ := ⟨_, rfl⟩
    replace H : (if x7_1 < (ji6) then ((spec_l11Part.f k1 l2 x7_1).bind fun t199 => ((spec_l11Holds.f k1 l0_0 l0_1 l1 t199).bind fun bt202 => (if bt202.2.2 = true then (some true) else (spec_l11Can.l0 k1 l1 l2 (wrap64 (x7_1 + 1)) l0_0 l0_1)))) else (some false)) = some r := by first | (rw [hji6] at H; exact H) | (simp only [hji6] at H ⊢; exact H)
    have hji6_ : (IntKind.i64.wrap (1 * 2 ^ min (ji4).toNat 64)) = ji6 := hji6; have hji6z : (ji4) ≤ 64 → (IntKind.i64.wrap (1 * 2 ^ (ji4).toNat)) = ji6 := shl_small hji6
    have hji6u : (IntKind.i64.wrap (2 ^ min (ji4).toNat 64)) = ji6 := by have h_ := hji6_; rw [Int.one_mul] at h_; exact h_
    have hji6v : (ji4) ≤ 64 → (IntKind.i64.wrap (2 ^ (ji4).toNat)) = ji6 := fun hle_ => by have h_ := hji6z hle_; rw [Int.one_mul] at h_; exact h_
    have hji6y : (wrap64 (1 * 2 ^ min (ji4).toNat 64)) = ji6 := (i64_w _).symm.trans hji6_
    have hji6x : (ji4) ≤ 64 → (wrap64 (1 * 2 ^ (ji4).toNat)) = ji6 := fun h_ => (i64_w _).symm.trans (hji6z h_)
    by_cases c7 : x7_1 < (ji6)
    ·rw [if_pos c7] at H
     have c7b0 : decide (x7_1 < (ji6)) = true := decide_eq_true c7; clear c7; replace H := Option.bind_eq_some_iff.mp H; obtain ⟨t199, A80, H⟩ := H; replace H : ((spec_l11Holds.f k1 l0_0 l0_1 l1 t199).bind fun bt202 => (if bt202.2.2 = true then (some true) else (spec_l11Can.l0 k1 l1 l2 (wrap64 (x7_1 + 1)) l0_0 l0_1))) = some r := H; have A8 := zQ A80; clear A80; replace H := Option.bind_eq_some_iff.mp H; obtain ⟨⟨t202, t205, t206⟩, A90, H⟩ := H; replace H : (if t206 = true then (some true) else (spec_l11Can.l0 k1 l1 l2 (wrap64 (x7_1 + 1)) l0_0 l0_1)) = some r := H; have A9 := zQ A90; clear A90
     by_cases c10 : t206 = true
     ·subst c10
      have H1 : (some true) = some r := by rw [if_pos rfl] at H; exact H
      clear H; have H := H1; clear H1; obtain rfl := Option.some.inj H
      go_wp2_with (first | ((with_reducible refine zgc 111 ?_); refine zgo (some 23) Try.func111 #[.slice A2 l2.length c2, .int .i64 x7_1] ?_; (with_reducible refine (spec_l11Part.calls k1 _ _ l2 x7_1 t199 _ (zC HR2.out HB.out) HC2.out A8.out).mono ?_); rintro e w11 ⟨v200, rfl, ho0, hb⟩; refine ⟨_, rfl, ?_⟩; have HO201 := zQ (Kd.R_lower ho0 (below_size (zB HB.out))); replace BK0 := zbl BK0.out hb; replace HB := zbs HB.out hb; (try clear hb); (try clear ho0); obtain ⟨Ao12, co12, eo12⟩ := Kd.R_slice HO201.out; subst eo12) | ((with_reducible refine zgc 74 ?_); refine zgo (some 24) Try.func74 #[.pointer (some ⟨g0, 0, none⟩), .slice A1 l1.length c1, .slice Ao12 t199.length co12] ?_; (with_reducible refine (spec_l11Holds.calls k1 g0 A0_0 c0_0 l0_0 A0_1 c0_1 l0_1 _ _ l1 _ _ t199 t202 t205 true _ (zb BK0.out) (zC HR0_0.out HB.out) HC0_0.out (zC HR0_1.out HB.out) HC0_1.out (zC HR1.out HB.out) HC1.out ?side8 ((Kd.R_reads' HO201.out).2.1) A9.out).mono ?_); (case side8 => repeat (first | exact (Kd.R_reads' HO201.out).2.2 | (with_reducible refine Kd.C_alloc ?_ _) | (with_reducible refine Kd.C_drewN ?_ _) | (with_reducible refine Kd.C_drew ?_))); rintro e w13 ⟨v203, rfl, ho0, hb⟩; refine ⟨_, rfl, ?_⟩; have HO204 := zQ (Kd.R_lower (Kd.R_new' ho0 (Kd.R_lt (zR HO201.out))) (below_size (zB HB.out))); replace HO201 := zQ (Kd.R_elder' (zR HO201.out) (Kd.R_base ho0) hb); replace BK0 := zbl BK0.out hb; replace HB := zbs HB.out hb; (try clear hb); (try clear ho0)) | ((with_reducible refine zd 8 ?_); refine zbx (N := 8) (cs := #[.slice none 0 0, .int .i64 0]) (t := 35) ?_; intro gb207 hg w14 hbox hb; have BK207 := zQ (hbox); have GW207 := zgz hg HB.out; have GE207 := GW207; have NB0_207 := zQ ((by rw [hg]; exact Nat.ne_of_lt (blk_lt (g := g0) (o := .cells #[.slice A0_0 l0_0.length c0_0, .slice A0_1 l0_1.length c0_1] 27 (0, 0)) (zb BK0.out)) : g0 ≠ gb207)); have NB207_0 := zQ ((by rw [hg]; exact Nat.ne_of_gt (blk_lt (g := g0) (o := .cells #[.slice A0_0 l0_0.length c0_0, .slice A0_1 l0_1.length c0_1] 27 (0, 0)) (zb BK0.out)) : gb207 ≠ g0)); replace HO201 := zQ (Kd.R_below (zR HO201.out) hb); replace HO204 := zQ (Kd.R_below (zR HO204.out) hb); replace BK0 := zbl BK0.out hb; replace HB := zbs HB.out hb; clear hb hbox hg; obtain ⟨Ao15, co15, eo15⟩ := Kd.R_slice HO204.out; subst eo15; have hnb16 := NB207_0.out; have hnc16 := NB0_207.out; have hcz17_0 := zc0 BK207.out; have hcz17_1 := zc1 BK207.out; have hfz17_0 := zfz BK207.out 0; have hfz17_1 := zfz BK207.out 1))
      go_ret
      exact ⟨by first | rfl | (simp [errW_none, errW_some] <;> rfl) | (simp only [← hji4, ← hji6]; first | rfl | (simp [errW_none, errW_some] <;> rfl)) | (simp [*, errW_none, errW_some] <;> rfl), zB2 HB.out GE207.out⟩
     ·replace c10 := Bool.eq_false_iff.mpr c10
      subst c10
      have H1 : (spec_l11Can.l0 k1 l1 l2 (wrap64 (x7_1 + 1)) l0_0 l0_1) = some r := by rw [if_neg (show ¬ (false = true) by decide)] at H; exact H
      clear H; have H := H1; clear H1; have H' := zQ H; clear H
      go_wp2_with (first | ((with_reducible refine zgc 111 ?_); refine zgo (some 23) Try.func111 #[.slice A2 l2.length c2, .int .i64 x7_1] ?_; (with_reducible refine (spec_l11Part.calls k1 _ _ l2 x7_1 t199 _ (zC HR2.out HB.out) HC2.out A8.out).mono ?_); rintro e w18 ⟨v200, rfl, ho0, hb⟩; refine ⟨_, rfl, ?_⟩; have HO201 := zQ (Kd.R_lower ho0 (below_size (zB HB.out))); replace BK0 := zbl BK0.out hb; replace HB := zbs HB.out hb; (try clear hb); (try clear ho0); obtain ⟨Ao19, co19, eo19⟩ := Kd.R_slice HO201.out; subst eo19) | ((with_reducible refine zgc 74 ?_); refine zgo (some 24) Try.func74 #[.pointer (some ⟨g0, 0, none⟩), .slice A1 l1.length c1, .slice Ao19 t199.length co19] ?_; (with_reducible refine (spec_l11Holds.calls k1 g0 A0_0 c0_0 l0_0 A0_1 c0_1 l0_1 _ _ l1 _ _ t199 t202 t205 false _ (zb BK0.out) (zC HR0_0.out HB.out) HC0_0.out (zC HR0_1.out HB.out) HC0_1.out (zC HR1.out HB.out) HC1.out ?side8 ((Kd.R_reads' HO201.out).2.1) A9.out).mono ?_); (case side8 => repeat (first | exact (Kd.R_reads' HO201.out).2.2 | (with_reducible refine Kd.C_alloc ?_ _) | (with_reducible refine Kd.C_drewN ?_ _) | (with_reducible refine Kd.C_drew ?_))); rintro e w20 ⟨v203, rfl, ho0, hb⟩; refine ⟨_, rfl, ?_⟩; have HO204 := zQ (Kd.R_lower (Kd.R_new' ho0 (Kd.R_lt (zR HO201.out))) (below_size (zB HB.out))); replace HO201 := zQ (Kd.R_elder' (zR HO201.out) (Kd.R_base ho0) hb); replace BK0 := zbl BK0.out hb; replace HB := zbs HB.out hb; (try clear hb); (try clear ho0)) | ((with_reducible refine zd 8 ?_); refine zbx (N := 8) (cs := #[.slice none 0 0, .int .i64 0]) (t := 35) ?_; intro gb207 hg w21 hbox hb; have BK207 := zQ (hbox); have GW207 := zgz hg HB.out; have GE207 := GW207; have NB0_207 := zQ ((by rw [hg]; exact Nat.ne_of_lt (blk_lt (g := g0) (o := .cells #[.slice A0_0 l0_0.length c0_0, .slice A0_1 l0_1.length c0_1] 27 (0, 0)) (zb BK0.out)) : g0 ≠ gb207)); have NB207_0 := zQ ((by rw [hg]; exact Nat.ne_of_gt (blk_lt (g := g0) (o := .cells #[.slice A0_0 l0_0.length c0_0, .slice A0_1 l0_1.length c0_1] 27 (0, 0)) (zb BK0.out)) : gb207 ≠ g0)); replace HO201 := zQ (Kd.R_below (zR HO201.out) hb); replace HO204 := zQ (Kd.R_below (zR HO204.out) hb); replace BK0 := zbl BK0.out hb; replace HB := zbs HB.out hb; clear hb hbox hg; obtain ⟨Ao22, co22, eo22⟩ := Kd.R_slice HO204.out; subst eo22; have hnb23 := NB207_0.out; have hnc23 := NB0_207.out; have hcz24_0 := zc0 BK207.out; have hcz24_1 := zc1 BK207.out; have hfz24_0 := zfz BK207.out 0; have hfz24_1 := zfz BK207.out 1))
      go_roundg k1
      case measure => have := HK1.out; omega
      case rel => exact ⟨(wrap64 (x7_1 + 1)), (zF), H', ⟨by have := HK1.out; omega⟩, ⟨by refine zb ?_; refine blk_far ?_ NB0_207.out _; refine zb ?_; refine blk_far ?_ NB0_207.out _; refine zb ?_; exact BK0.out⟩, ⟨zB2 HB.out GE207.out⟩⟩
    ·rw [if_neg c7] at H
     have c7b0 : decide (x7_1 < (ji6)) = false := decide_eq_false c7; clear c7; obtain rfl := Option.some.inj H
     go_wp2
     go_ret
     exact ⟨by first | rfl | (simp [errW_none, errW_some] <;> rfl) | (simp only [← hji4, ← hji6]; first | rfl | (simp [errW_none, errW_some] <;> rfl)) | (simp [*, errW_none, errW_some] <;> rfl), zB HB.out⟩
   ·rw [if_neg c5] at H
    exact absurd H (by simp)

/-! ### spec_l11Loose: function 106 -/
def spec_l11Loose.l0 : Nat → List (List (S113)) → List Int → Int → List (S164) → List (S115) → Option (Int)
 | 0, _, _, _, _, _ => none
 | k + 1, x1, x2, x7, x1000, x1001 => if x7 < (x1.length : Int) then (if 0 ≤ x7 then ((spec_l11Can.f k x1000 x1001 (rd_L9 x1 x7) x2).bind fun t209 => (if t209 = true then (spec_l11Loose.l0 k x1 x2 (wrap64 (x7 + 1)) x1000 x1001) else (some x7))) else (none)) else (some (-1))
def spec_l11Loose.f (k : Nat) (l0_0 : List (S164)) (l0_1 : List (S115)) (l1 : List (List (S113))) (l2 : List Int) : Option (Int) := spec_l11Loose.l0 k l1 l2 0 l0_0 l0_1
theorem spec_l11Loose.mono_l : ∀ k, (∀ y0 y1 y2 y3 y4, LeO (spec_l11Loose.l0 k y0 y1 y2 y3 y4) (spec_l11Loose.l0 (k + 1) y0 y1 y2 y3 y4))
 | 0 => fun _ _ _ _ _ r h => by simp [spec_l11Loose.l0] at h
 | k + 1 => by
  have ih0 := spec_l11Loose.mono_l k
  ·intro y0 y1 y2 y3 y4
   unfold spec_l11Loose.l0
   (with_reducible repeat' first | apply ih0 | apply spec_l11Can.mono | apply LeO.refl | apply LeO.none | refine LeO.ite ?_ ?_ | refine LeO.bind ?_ (fun _ => ?_))
   repeat' first | apply ih0 | apply spec_l11Can.mono | apply LeO.none | refine LeO.ite ?_ ?_ | refine LeO.bind ?_ (fun _ => ?_)
theorem spec_l11Loose.mono : ∀ a0 a1 a2 a3 k, LeO (spec_l11Loose.f k a0 a1 a2 a3) (spec_l11Loose.f (k + 1) a0 a1 a2 a3) := by
 intro a0 a1 a2 a3 k
 have ih0 := spec_l11Loose.mono_l k
 unfold spec_l11Loose.f
 (with_reducible repeat' first | apply ih0 | apply spec_l11Can.mono | apply LeO.refl | apply LeO.none | refine LeO.ite ?_ ?_ | refine LeO.bind ?_ (fun _ => ?_))
 repeat' first | apply ih0 | apply spec_l11Can.mono | apply LeO.none | refine LeO.ite ?_ ?_ | refine LeO.bind ?_ (fun _ => ?_)
set_option maxHeartbeats 8000000 in
set_option maxRecDepth 100000 in
theorem spec_l11Loose.calls (k : Nat) (g0 : Nat) (A0_0 : Option Addr) (c0_0 : Nat) (l0_0 : List (S164)) (A0_1 : Option Addr) (c0_1 : Nat) (l0_1 : List (S115)) (A1 : Option Addr) (c1 : Nat) (l1 : List (List (S113))) (A2 : Option Addr) (c2 : Nat) (l2 : List Int) (r : Int) (w : World) (hbk0 : w.heap[g0]? = some (.cells #[.slice A0_0 l0_0.length c0_0, .slice A0_1 l0_1.length c0_1] 27 (0, 0))) (hr0_0 : Kd.C k164 w A0_0 l0_0.length l0_0) (hc0_0 : l0_0.length ≤ c0_0) (hr0_1 : Kd.C k115 w A0_1 l0_1.length l0_1) (hc0_1 : l0_1.length ≤ c0_1) (hr1 : Kd.C (Kd.slice 113 k113) w A1 l1.length l1) (hc1 : l1.length ≤ c1) (hr2 : Kd.C (Kd.int .i64) w A2 l2.length l2) (hc2 : l2.length ≤ c2) (h : spec_l11Loose.f k l0_0 l0_1 l1 l2 = some r) :
  Calls Try.prog 106 #[.pointer (some ⟨g0, 0, none⟩), .slice A1 l1.length c1, .slice A2 l2.length c2] w fun e w' => e = .returned (.int .i64 r) ∧ Below w.heap.size w w' := by
 have HR0_0 := zQ hr0_0
 have HC0_0 := zQ hc0_0
 clear hr0_0 hc0_0
 have HR0_1 := zQ hr0_1
 have HC0_1 := zQ hc0_1
 clear hr0_1 hc0_1
 have HR1 := zQ hr1
 have HC1 := zQ hc1
 clear hr1 hc1
 have HR2 := zQ hr2
 have HC2 := zQ hc2
 clear hr2 hc2
 have BK0 := zQ hbk0
 clear hbk0
 have HB := zQ (Below.refl w.heap.size w)
 have H : (spec_l11Loose.l0 k l1 l2 0 l0_0 l0_1) = some r := h
 clear h
 have H' := zQ H
 clear H
 go_enter Try.func106, Try.ntmps106
 go_wp2
 go_loopg [7] k (fun kq v7 w' => ∃ (x7_1 : Int), v7 = .int .i64 x7_1 ∧ Aside0 (spec_l11Loose.l0 kq l1 l2 x7_1 l0_0 l0_1 = some r) ∧ Aside0 (kq ≤ k) ∧ Aside0 (w'.heap[g0]? = some (.cells #[(.slice A0_0 l0_0.length c0_0), (.slice A0_1 l0_1.length c0_1)] 27 (0, 0))) ∧ Aside0 (Below w.heap.size w w'))
 case atStart => exact ⟨(0), (zF), H', ⟨Nat.le_refl _⟩, ⟨zb BK0.out⟩, ⟨zB HB.out⟩⟩
 case round =>
  clear H'; (try clear c1); (try clear c2); (try clear p2); obtain ⟨x7_1, rfl, HA, HK1, BK0, HB⟩ := hrel
  cases gk with
  | zero => exact absurd HA.out (by simp [spec_l11Loose.l0])
  | succ k1 =>
   have H := HA.out; clear HA
   simp only [spec_l11Loose.l0] at H
   by_cases c4 : x7_1 < (l1.length : Int)
   ·rw [if_pos c4] at H
    have c4b0 : decide (x7_1 < (l1.length : Int)) = true := decide_eq_true c4; clear c4
    by_cases c5 : 0 ≤ x7_1
    ·rw [if_pos c5] at H
     have c5b0 : decide (0 ≤ x7_1) = true := decide_eq_true c5; clear c5; replace H := Option.bind_eq_some_iff.mp H; obtain ⟨t209, A60, H⟩ := H; replace H : (if t209 = true then (spec_l11Loose.l0 k1 l1 l2 (wrap64 (x7_1 + 1)) l0_0 l0_1) else (some x7_1)) = some r := H; have A6 := zQ A60; clear A60
     by_cases c7 : t209 = true
     ·subst c7
      have H1 : (spec_l11Loose.l0 k1 l1 l2 (wrap64 (x7_1 + 1)) l0_0 l0_1) = some r := by rw [if_pos rfl] at H; exact H
      clear H; have H := H1; clear H1; have H' := zQ H; clear H; have p208 : 0 ≤ (x7_1 : Int) := of_decide_eq_true zA; have q208 : x7_1 < (l1.length : Int) := of_decide_eq_true zA; obtain ⟨ad208, A208_0, c208_0, e208, hx208_0, hl208_0, hi208_0⟩ := at_L9 HR1.out x7_1 p208 q208
      cases e208
      replace hx208_0 := zw HB.out hx208_0; have HR208_0 := zQ hi208_0; have HC208_0 := zQ hl208_0; clear hi208_0 hl208_0; replace p208 := eq_true p208; replace q208 := eq_true q208
      go_wp2_with (first | ((with_reducible refine zgc 83 ?_); refine zgo (some 20) Try.func83 #[.pointer (some ⟨g0, 0, none⟩), .slice A208_0 (rd_L9 l1 x7_1).length c208_0, .slice A2 l2.length c2] ?_; (with_reducible refine (spec_l11Can.calls k1 g0 A0_0 c0_0 l0_0 A0_1 c0_1 l0_1 _ _ (rd_L9 l1 x7_1) _ _ l2 true _ (zb BK0.out) (zC HR0_0.out HB.out) HC0_0.out (zC HR0_1.out HB.out) HC0_1.out (zC HR208_0.out HB.out) HC208_0.out (zC HR2.out HB.out) HC2.out A6.out).mono ?_); rintro e w8 ⟨rfl, hb⟩; refine ⟨_, rfl, ?_⟩; replace BK0 := zbl BK0.out hb; replace HB := zbs HB.out hb; (try clear hb)))
      go_roundg k1
      case measure => have := HK1.out; omega
      case rel => exact ⟨(wrap64 (x7_1 + 1)), (zF), H', ⟨by have := HK1.out; omega⟩, ⟨zb BK0.out⟩, ⟨zB HB.out⟩⟩
     ·replace c7 := Bool.eq_false_iff.mpr c7
      subst c7
      have H1 : (some x7_1) = some r := by rw [if_neg (show ¬ (false = true) by decide)] at H; exact H
      clear H; have H := H1; clear H1; obtain rfl := Option.some.inj H; have p208 : 0 ≤ (x7_1 : Int) := of_decide_eq_true zA; have q208 : x7_1 < (l1.length : Int) := of_decide_eq_true zA; obtain ⟨ad208, A208_0, c208_0, e208, hx208_0, hl208_0, hi208_0⟩ := at_L9 HR1.out x7_1 p208 q208
      cases e208
      replace hx208_0 := zw HB.out hx208_0; have HR208_0 := zQ hi208_0; have HC208_0 := zQ hl208_0; clear hi208_0 hl208_0; replace p208 := eq_true p208; replace q208 := eq_true q208
      go_wp2_with (first | ((with_reducible refine zgc 83 ?_); refine zgo (some 20) Try.func83 #[.pointer (some ⟨g0, 0, none⟩), .slice A208_0 (rd_L9 l1 x7_1).length c208_0, .slice A2 l2.length c2] ?_; (with_reducible refine (spec_l11Can.calls k1 g0 A0_0 c0_0 l0_0 A0_1 c0_1 l0_1 _ _ (rd_L9 l1 x7_1) _ _ l2 false _ (zb BK0.out) (zC HR0_0.out HB.out) HC0_0.out (zC HR0_1.out HB.out) HC0_1.out (zC HR208_0.out HB.out) HC208_0.out (zC HR2.out HB.out) HC2.out A6.out).mono ?_); rintro e w9 ⟨rfl, hb⟩; refine ⟨_, rfl, ?_⟩; replace BK0 := zbl BK0.out hb; replace HB := zbs HB.out hb; (try clear hb)))
      go_ret
      exact ⟨zE, zB HB.out⟩
    ·rw [if_neg c5] at H
     exact absurd H (by simp)
   ·rw [if_neg c4] at H
    have c4b0 : decide (x7_1 < (l1.length : Int)) = false := decide_eq_false c4; clear c4; obtain rfl := Option.some.inj H
    go_wp2
    go_ret
    exact ⟨zE, zB HB.out⟩

end
end Go.Proofs.Ytimjblgepbhoaaa.PStays
