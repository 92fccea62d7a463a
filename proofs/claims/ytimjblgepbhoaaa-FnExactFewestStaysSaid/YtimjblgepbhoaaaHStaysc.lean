import Derived.Test.YtimjblgepbhoaaaHStays0
import Derived.Test.YtimjblgepbhoaaaHStaysa
namespace Go.Proofs.Ytimjblgepbhoaaa.PStays
noncomputable section
open Go.RowKit Go.Proofs.YtimjblgepbhoaaaW.PrintWords Go.Proofs.YtimjblgepbhoaaaW.PrintLast Go.Proofs.YtimjblgepbhoaaaW.PrintMore
attribute [local go_sem] max2_int min2_int max_two min_two max_three min_three max_four min_four   -- for this text's walks alone
set_option linter.unusedVariables false
set_option linter.unusedSimpArgs false
set_option maxHeartbeats 8000000
set_option maxRecDepth 100000

def freeB (kn : List S164) (i : Nat) : Bool := !(rd_T164 kn (i : Int)).f2
def KnP (kn : List S164) (i : Nat) : Prop := ((0 ≤ (rd_T164 kn (i : Int)).f0 ∧ (rd_T164 kn (i : Int)).f0 ≤ 12) ∧ 0 ≤ (rd_T164 kn (i : Int)).f1 ∧ (rd_T164 kn (i : Int)).f1 ≤ 12) ∧ ∀ j, j < i → ¬ ((rd_T164 kn (j : Int)).f0 = (rd_T164 kn (i : Int)).f0 ∧ (rd_T164 kn (j : Int)).f1 = (rd_T164 kn (i : Int)).f1)
def BrP (kn : List S164) (br : List S115) (i : Nat) : Prop := ((0 ≤ (rd_T115 br (i : Int)).f0 ∧ (rd_T115 br (i : Int)).f0 < (rd_T115 br (i : Int)).f1 ∧ (rd_T115 br (i : Int)).f1 < kn.length) ∧ ¬ ((rd_T164 kn (rd_T115 br (i : Int)).f0).f2 = true ∧ (rd_T164 kn (rd_T115 br (i : Int)).f1).f2 = true)) ∧ ∀ j, j < i → ¬ ((rd_T115 br (j : Int)).f0 = (rd_T115 br (i : Int)).f0 ∧ (rd_T115 br (j : Int)).f1 = (rd_T115 br (i : Int)).f1)
def FrP (kn : List S164) (br : List S115) : Prop := kn.length ≤ 8 ∧ br.length ≤ 8 ∧ (∀ i, i < kn.length → KnP kn i) ∧ (∀ i, i < br.length → BrP kn br i) ∧ ((List.range kn.length).filter (freeB kn)).length ≤ 3
open Classical in
noncomputable def frB (kn : List S164) (br : List S115) : Bool := decide (FrP kn br)
open Classical in
theorem frB_no {kn : List S164} {br : List S115} (h : ¬ FrP kn br) : frB kn br = false := by unfold frB; exact decide_eq_false h
open Classical in
theorem frB_yes {kn : List S164} {br : List S115} (h : FrP kn br) : frB kn br = true := by unfold frB; exact decide_eq_true h
open Classical in
theorem frB_is {kn : List S164} {br : List S115} (h : frB kn br = true) : FrP kn br := by unfold frB at h; exact of_decide_eq_true h
theorem free_next (kn : List S164) (i : Nat) : ((List.range (i + 1)).filter (freeB kn)).length = ((List.range i).filter (freeB kn)).length + (if (rd_T164 kn (i : Int)).f2 = true then 0 else 1) := by
 rw [List.range_succ, List.filter_append, List.length_append]
 by_cases h : (rd_T164 kn (i : Int)).f2 = true
 ·rw [if_pos h]; simp [freeB, h]
 ·rw [if_neg h]; simp at h; simp [freeB, h]
theorem free_len (kn : List S164) (i : Nat) : ((List.range i).filter (freeB kn)).length ≤ i := by
 have := List.length_filter_le (freeB kn) (List.range i)
 rwa [List.length_range] at this
theorem upto_next {p : Nat → Prop} {i : Nat} (h : ∀ j, j < i → p j) (h2 : p i) : ∀ j, j < i + 1 → p j := by
 intro j hj
 by_cases e : j = i
 ·rw [e]; exact h2
 ·exact h j (by omega)
theorem ok_meas {n : Nat} {z : Int} (e : z = ((n + 1 : Nat) : Int)) (h : n < 9) : ((9 : Int) - intOf (.int .i64 z)).toNat < ((9 : Int) - intOf (.int .i64 (n : Int))).toNat := by
 show (9 - z).toNat < (9 - (n : Int)).toNat
 omega
structure FW (w : World) (g0 : Nat) (A0 : Option Addr) (c0 : Nat) (kn : List S164) (A1 : Option Addr) (c1 : Nat) (br : List S115) (wr : World) : Prop where
 bk : wr.heap[g0]? = some (.cells #[.slice A0 kn.length c0, .slice A1 br.length c1] 27 (0, 0))
 hb : Below w.heap.size w wr
theorem FW.below {w wr w1 : World} {g0 : Nat} {A0 : Option Addr} {c0 : Nat} {kn : List S164} {A1 : Option Addr} {c1 : Nat} {br : List S115} (h : FW w g0 A0 c0 kn A1 c1 br wr) (hb : Below wr.heap.size wr w1) : FW w g0 A0 c0 kn A1 c1 br w1 := ⟨blk_below h.bk hb, below_step h.hb hb⟩
theorem FW.drewN {w wr : World} {g0 : Nat} {A0 : Option Addr} {c0 : Nat} {kn : List S164} {A1 : Option Addr} {c1 : Nat} {br : List S115} (h : FW w g0 A0 c0 kn A1 c1 br wr) (n : Nat) : FW w g0 A0 c0 kn A1 c1 br (wr.drewN n) := ⟨h.bk, pw_below_drewN h.hb n⟩
theorem FW.set {w wr : World} {g0 : Nat} {A0 : Option Addr} {c0 : Nat} {kn : List S164} {A1 : Option Addr} {c1 : Nat} {br : List S115} (h : FW w g0 A0 c0 kn A1 c1 br wr) {gb j : Nat} (h1 : w.heap.size ≤ gb) (h2 : g0 ≠ gb) (v : Value) : FW w g0 A0 c0 kn A1 c1 br (wr.setCell ⟨gb, j, none⟩ v) := ⟨(Below.heap_setCell wr ⟨gb, j, none⟩ v g0 h2).trans h.bk, below_set h.hb h1⟩
structure FX (w : World) (g0 : Nat) (A0 : Option Addr) (c0 : Nat) (kn : List S164) (A1 : Option Addr) (c1 : Nat) (br : List S115) (gb : Nat) (cs : Array Value) (t : Nat) (wr : World) : Prop where
 f : FW w g0 A0 c0 kn A1 c1 br wr
 bx : wr.heap[gb]? = some (.cells cs t (0, 0))
theorem FX.below {w wr w1 : World} {g0 : Nat} {A0 : Option Addr} {c0 : Nat} {kn : List S164} {A1 : Option Addr} {c1 : Nat} {br : List S115} {gb t : Nat} {cs : Array Value} (h : FX w g0 A0 c0 kn A1 c1 br gb cs t wr) (hb : Below wr.heap.size wr w1) : FX w g0 A0 c0 kn A1 c1 br gb cs t w1 := ⟨h.f.below hb, blk_below h.bx hb⟩
theorem FX.set {w wr : World} {g0 : Nat} {A0 : Option Addr} {c0 : Nat} {kn : List S164} {A1 : Option Addr} {c1 : Nat} {br : List S115} {gb t : Nat} {cs : Array Value} (h : FX w g0 A0 c0 kn A1 c1 br gb cs t wr) {g j : Nat} (h1 : w.heap.size ≤ g ∧ g0 ≠ g ∧ gb ≠ g) (v : Value) : FX w g0 A0 c0 kn A1 c1 br gb cs t (wr.setCell ⟨g, j, none⟩ v) := ⟨h.f.set h1.1 h1.2.1 v, (Below.heap_setCell wr ⟨g, j, none⟩ v gb h1.2.2).trans h.bx⟩
def fkU (kn : List S164) (i : Nat) : List Int := ((List.range i).filter (freeB kn)).map (fun (i : Nat) => (i : Int))
theorem fkU_len (kn : List S164) (i : Nat) : (fkU kn i).length = ((List.range i).filter (freeB kn)).length := by unfold fkU; rw [List.length_map]
theorem fkU_next (kn : List S164) (i : Nat) : fkU kn (i + 1) = if (rd_T164 kn (i : Int)).f2 = true then fkU kn i else fkU kn i ++ [(i : Int)] := by
 unfold fkU
 rw [List.range_succ, List.filter_append, List.map_append]
 by_cases h : (rd_T164 kn (i : Int)).f2 = true
 ·rw [if_pos h]; simp [freeB, h]
 ·rw [if_neg h]; simp at h; simp [freeB, h]
theorem l00In_is (a b c : Int) : spec_l00In.f a b c = some (decide (b ≤ a ∧ a ≤ c)) := by
 unfold spec_l00In.f
 by_cases h : a ≥ b
 ·rw [if_pos h]
  by_cases h2 : a ≤ c
  ·rw [decide_eq_true h2, decide_eq_true (show b ≤ a ∧ a ≤ c from ⟨h, h2⟩)]
  ·rw [decide_eq_false h2, decide_eq_false (fun h3 => h2 h3.2)]
 ·rw [if_neg h, decide_eq_false (fun h3 => h h3.1)]
noncomputable def spec_l09Ok.f (k : Nat) (l0_0 : List S164) (l0_1 : List S115) : Option Bool := some (frB l0_0 l0_1)
theorem spec_l09Ok.calls (k : Nat) (g0 : Nat) (A0_0 : Option Addr) (c0_0 : Nat) (l0_0 : List (S164)) (A0_1 : Option Addr) (c0_1 : Nat) (l0_1 : List (S115)) (r : Bool) (w : World) (hA : w.heap[g0]? = some (.cells #[.slice A0_0 l0_0.length c0_0, .slice A0_1 l0_1.length c0_1] 27 (0, 0))) (dA : Kd.C k164 w A0_0 l0_0.length l0_0) (gA : l0_0.length ≤ c0_0) (cA : Kd.C k115 w A0_1 l0_1.length l0_1) (fA : l0_1.length ≤ c0_1) (h : spec_l09Ok.f k l0_0 l0_1 = some r) :
  Calls Try.prog 117 #[.pointer (some ⟨g0, 0, none⟩)] w fun e w' => e = .returned (.bool r) ∧ Below w.heap.size w w' := by
 obtain rfl := Option.some.inj h
 clear h
 have oA := Try.underlying164
 have pA := Try.underlying115
 have kA := zQ dA
 have qA := zQ cA
 have HF0 := zQ (show FW w g0 A0_0 c0_0 l0_0 A0_1 c0_1 l0_1 w from ⟨hA, Below.refl _ _⟩)
 clear dA gA cA fA hA
 have cz0 : w.cell? ⟨g0, 0, none⟩ = some (.slice A0_0 l0_0.length c0_0) := (blk_cell HF0.out.bk 0).trans rfl
 have cz1 : w.cell? ⟨g0, 1, none⟩ = some (.slice A0_1 l0_1.length c0_1) := (blk_cell HF0.out.bk 1).trans rfl
 go_enter Try.func117, Try.ntmps117
 by_cases h8 : l0_0.length ≤ 8
 ·have k8a : decide (8 < (l0_0.length : Int)) = false := decide_eq_false (by omega)
  have k8b : decide (8 < l0_0.length) = false := decide_eq_false (by omega)
  by_cases h9 : l0_1.length ≤ 8
  ·have k9a : decide (8 < (l0_1.length : Int)) = false := decide_eq_false (by omega)
   have k9b : decide (8 < l0_1.length) = false := decide_eq_false (by omega); have H8 := zQ h8; have H9 := zQ h9
   go_wp2
   clear cz0 cz1 h8 h9 k8a k8b k9a k9b
   go_loopw [4, 5] (fun v4 v5 wr => ∃ (i : Nat), v4 = .int .i64 ((((List.range i).filter (freeB l0_0)).length : Nat) : Int) ∧ v5 = .int .i64 (i : Int) ∧ Aside0 (i ≤ l0_0.length ∧ ∀ j, j < i → KnP l0_0 j) ∧ Aside0 (FW w g0 A0_0 c0_0 l0_0 A0_1 c0_1 l0_1 wr)) (fun _ v5 _ => ((9 : Int) - intOf v5).toNat)
   case atStart => exact ⟨0, rfl, rfl, ⟨by omega, fun j hj => by omega⟩, HF0⟩
   case round =>
    clear HF0; obtain ⟨i, rfl, rfl, HI, HF⟩ := hrel; have cz0 : wr.cell? ⟨g0, 0, none⟩ = some (.slice A0_0 l0_0.length c0_0) := (blk_cell HF.out.bk 0).trans rfl; have cz1 : wr.cell? ⟨g0, 1, none⟩ = some (.slice A0_1 l0_1.length c0_1) := (blk_cell HF.out.bk 1).trans rfl
    by_cases hi : i < l0_0.length
    ·have jA : decide ((i : Int) < (l0_0.length : Int)) = true := decide_eq_true (by omega)
     have iA : decide (i < l0_0.length) = true := decide_eq_true hi; obtain ⟨ad, ea, hx, hy, hz⟩ := at_T164 kA.out (i : Int) (by omega) (by omega); subst ea; rw [Int.toNat_natCast] at hx hy hz; replace hx := (HF.out.hb.cell (World.block_lt_of_cell? w _ hx)).trans hx; replace hy := (HF.out.hb.cell (World.block_lt_of_cell? w _ hy)).trans hy; replace hz := (HF.out.hb.cell (World.block_lt_of_cell? w _ hz)).trans hz; obtain ⟨x, ex⟩ : ∃ z, (rd_T164 l0_0 (i : Int)).f0 = z := ⟨_, rfl⟩; obtain ⟨y, ey⟩ : ∃ z, (rd_T164 l0_0 (i : Int)).f1 = z := ⟨_, rfl⟩; obtain ⟨fx, ef⟩ : ∃ z, (rd_T164 l0_0 (i : Int)).f2 = z := ⟨_, rfl⟩; rw [ex] at hx; rw [ey] at hy; rw [ef] at hz; have EX := zQ ex; have EY := zQ ey; have EF := zQ ef; have p1 : (0 ≤ (i : Int)) = True := eq_true (by omega); have q1 : ((i : Int) < (l0_0.length : Int)) = True := eq_true (by omega); have HIL := zQ hi; clear ex ey ef hi
     go_upto_region 9 with (first | ((with_reducible refine zd 6 ?_); (try (refine gate_guard (by rfl) ?_; dsimp only)); refine zbx (N := 6) (cs := #[.int .i64 0, .int .i64 0, .bool false]) (t := 164) ?_; intro gb hg w1 bA hb; have HF1 := zQ (HF.out.below hb); have BX := zQ bA; have GB := zQ (show w.heap.size ≤ gb ∧ g0 ≠ gb from ⟨by rw [hg]; exact below_size HF.out.hb, by rw [hg]; exact Nat.ne_of_lt (blk_lt HF.out.bk)⟩); have b0 : w1.cell? ⟨gb, 0, none⟩ = some (.int .i64 0) := (blk_cell bA 0).trans rfl; have b1 : w1.cell? ⟨gb, 1, none⟩ = some (.int .i64 0) := (blk_cell bA 1).trans rfl; have b2 : w1.cell? ⟨gb, 2, none⟩ = some (.bool false) := (blk_cell bA 2).trans rfl; have f0 := zfz bA 0; have f1 := zfz bA 1; have f2 := zfz bA 2; clear hb bA hg))
     (try simp only [Act.put, List.setIfInBounds_toArray, List.set_cons_zero, List.set_cons_succ])
     have HF2 := zQ (((HF1.out.set (j := 0) GB.out.1 GB.out.2 (.int .i64 x)).set (j := 1) GB.out.1 GB.out.2 (.int .i64 y)).set (j := 2) GB.out.1 GB.out.2 (.bool fx)); have BX2 := zQ (blk_put (cs := #[.int .i64 x, .int .i64 y, .bool false]) (cs' := #[.int .i64 x, .int .i64 y, .bool fx]) (blk_put (cs := #[.int .i64 x, .int .i64 0, .bool false]) (cs' := #[.int .i64 x, .int .i64 y, .bool false]) (blk_put (cs' := #[.int .i64 x, .int .i64 0, .bool false]) BX.out 0 (.int .i64 x) rfl) 1 (.int .i64 y) rfl) 2 (.bool fx) rfl)
     generalize ((w1.setCell ⟨gb, 0, none⟩ (.int .i64 x)).setCell ⟨gb, 1, none⟩ (.int .i64 y)).setCell ⟨gb, 2, none⟩ (.bool fx) = w2 at HF2 BX2 ⊢
     clear b0 b1 b2 f0 f1 f2 hx hy hz cz0 cz1 HF1 BX; have cz0 : w2.cell? ⟨g0, 0, none⟩ = some (.slice (some ad) l0_0.length c0_0) := (blk_cell HF2.out.bk 0).trans rfl; have cz1 : w2.cell? ⟨g0, 1, none⟩ = some (.slice A0_1 l0_1.length c0_1) := (blk_cell HF2.out.bk 1).trans rfl; have b0 : w2.cell? ⟨gb, 0, none⟩ = some (.int .i64 x) := (blk_cell BX2.out 0).trans rfl; have b1 : w2.cell? ⟨gb, 1, none⟩ = some (.int .i64 y) := (blk_cell BX2.out 1).trans rfl; have b2 : w2.cell? ⟨gb, 2, none⟩ = some (.bool fx) := (blk_cell BX2.out 2).trans rfl; obtain ⟨bx, hbx⟩ : ∃ b, decide (0 ≤ x ∧ x ≤ 12) = b := ⟨_, rfl⟩; obtain ⟨byy, hby⟩ : ∃ b, decide (0 ≤ y ∧ y ≤ 12) = b := ⟨_, rfl⟩; have HX := zQ (show spec_l00In.f x 0 12 = some bx from by rw [← hbx]; exact l00In_is x 0 12); have HY := zQ (show spec_l00In.f y 0 12 = some byy from by rw [← hby]; exact l00In_is y 0 12); have HBX := zQ hbx; have HBY := zQ hby; clear hbx hby
     cases bx with
     | false =>
      go_wp2_with (go_at_call 89; (with_reducible refine (spec_l00In.calls x 0 12 false _ HX.out).mono ?_); rintro e w' ⟨rfl, ⟨nd, rfl⟩⟩)
      go_ret
      refine ⟨by rw [frB_no (fun h_ => of_decide_eq_false HBX.out (by have := (h_.2.2.1 i HIL.out).1.1; rwa [EX.out] at this))]; rfl, ?_⟩
      exact pw_below_drewN HF2.out.hb _
     | true =>
      cases byy with
      | false =>
       go_wp2_with (first | (go_at_call 89; (with_reducible refine (spec_l00In.calls x 0 12 true _ HX.out).mono ?_); rintro e w' ⟨rfl, ⟨nd, rfl⟩⟩) | (go_at_call 89; (with_reducible refine (spec_l00In.calls y 0 12 false _ HY.out).mono ?_); rintro e w' ⟨rfl, ⟨nd, rfl⟩⟩))
       go_ret
       refine ⟨by rw [frB_no (fun h_ => of_decide_eq_false HBY.out (by have := (h_.2.2.1 i HIL.out).1.2; rwa [EY.out] at this))]; rfl, ?_⟩
       repeat (first | exact HF2.out.hb | apply pw_below_drewN)
      | true =>
       have HXY := zQ (show (0 ≤ x ∧ x ≤ 12) ∧ 0 ≤ y ∧ y ≤ 12 from ⟨of_decide_eq_true HBX.out, of_decide_eq_true HBY.out⟩)
       have e4 : wrap64 ((((List.range i).filter (freeB l0_0)).length : Int) + 1) = ((((List.range i).filter (freeB l0_0)).length + 1 : Nat) : Int) := by have := free_len l0_0 i; have := HIL.out; have := H8.out; unfold wrap64; omega
       have HFN := zQ (free_next l0_0 i); rw [EF.out] at HFN
       go_upto_if 54 with (first | (go_at_call 89; (with_reducible refine (spec_l00In.calls x 0 12 true _ HX.out).mono ?_); rintro e w' ⟨rfl, ⟨nd, rfl⟩⟩) | (go_at_call 89; (with_reducible refine (spec_l00In.calls y 0 12 true _ HY.out).mono ?_); rintro e w' ⟨rfl, ⟨nd, rfl⟩⟩))
       clear b0 b1
       go_cut [4] (fun v4 wc => ∃ (c : Nat), v4 = .int .i64 (c : Int) ∧ Aside0 (c = ((List.range i).filter (freeB l0_0)).length + (if fx = true then 0 else 1)) ∧ Aside0 (FW w g0 (some ad) c0_0 l0_0 A0_1 c0_1 l0_1 wc) ∧ Aside0 (wc.heap[gb]? = w2.heap[gb]?))
       case first =>
        as_aux_lemma =>
         cases fx with
         | false =>
          go_wp2
          go_meet
          case rel => exact ⟨((List.range i).filter (freeB l0_0)).length + 1, by first | rfl | rw [e4], ⟨by simp⟩, ⟨by first | exact HF2.out.drewN _ | exact HF2.out⟩, ⟨rfl⟩⟩
         | true =>
          go_wp2
          go_meet
          case rel => exact ⟨((List.range i).filter (freeB l0_0)).length, by first | rfl | (simp; done), ⟨by simp⟩, ⟨by first | exact HF2.out.drewN _ | exact HF2.out⟩, ⟨rfl⟩⟩
       case rest =>
        as_aux_lemma =>
         obtain ⟨c, rfl, rA, HF3, HBX3⟩ := hcut; have BX3 := HBX3; rw [BX2.out] at BX3; obtain ⟨w3, eA⟩ : ∃ z, wc = z := ⟨_, rfl⟩; rw [eA] at HF3 BX3 ⊢; clear eA HBX3 BX2 HF2 b2
         go_wp2
         go_loopw [7] (fun v w' => ∃ (j : Nat), v = .int .i64 (j : Int) ∧ Aside0 (j ≤ i ∧ ∀ q, q < j → ¬ ((rd_T164 l0_0 (q : Int)).f0 = x ∧ (rd_T164 l0_0 (q : Int)).f1 = y)) ∧ Aside0 (FW w g0 (some ad) c0_0 l0_0 A0_1 c0_1 l0_1 w') ∧ Aside0 (w'.heap[gb]? = w3.heap[gb]?)) (fun v _ => ((9 : Int) - intOf v).toNat)
         case atStart => exact ⟨0, rfl, ⟨by omega, fun j hj => by omega⟩, HF3, ⟨rfl⟩⟩
         case round =>
          obtain ⟨j, rfl, HJ, HF4, HBX4⟩ := hrel; have hbx := HBX4.out; rw [BX3.out] at hbx; have cz : wr.cell? ⟨g0, 0, none⟩ = some (.slice (some ad) l0_0.length c0_0) := (blk_cell HF4.out.bk 0).trans rfl; have b0 : wr.cell? ⟨gb, 0, none⟩ = some (.int .i64 x) := (blk_cell hbx 0).trans rfl; have b1 : wr.cell? ⟨gb, 1, none⟩ = some (.int .i64 y) := (blk_cell hbx 1).trans rfl; clear hbx
          by_cases hj : j < i
          ·have nA : decide ((j : Int) < (i : Int)) = true := decide_eq_true (by omega)
           have mA : decide (j < i) = true := decide_eq_true hj; have hil := HIL.out; obtain ⟨ad', ea, hx, hy, _⟩ := at_T164 kA.out (j : Int) (by omega) (by omega); obtain rfl := Option.some.inj ea; rw [Int.toNat_natCast] at hx hy; replace hx := (HF4.out.hb.cell (World.block_lt_of_cell? w _ hx)).trans hx; replace hy := (HF4.out.hb.cell (World.block_lt_of_cell? w _ hy)).trans hy; obtain ⟨xj, exj⟩ : ∃ z, (rd_T164 l0_0 (j : Int)).f0 = z := ⟨_, rfl⟩; obtain ⟨yj, eyj⟩ : ∃ z, (rd_T164 l0_0 (j : Int)).f1 = z := ⟨_, rfl⟩; rw [exj] at hx; rw [eyj] at hy; have EXJ := zQ exj; have EYJ := zQ eyj; have p2 : (0 ≤ (j : Int)) = True := eq_true (by omega); have q2 : ((j : Int) < (l0_0.length : Int)) = True := eq_true (by omega); have HJL := zQ hj
           have e7 : wrap64 ((j : Int) + 1) = ((j + 1 : Nat) : Int) := by have := H8.out; have := H9.out; unfold wrap64; omega
           clear exj eyj hj hil
           by_cases hxx : xj = x
           ·have t1 : (xj == x) = true := beq_iff_eq.mpr hxx
            have HXX := zQ hxx; clear hxx
            by_cases hyy : yj = y
            ·have t2 : (yj == y) = true := beq_iff_eq.mpr hyy
             have HYY := zQ hyy; clear hyy
             go_wp2
             refine zs (fun w' => w'.cell? ⟨g0, 0, none⟩ = some (.slice (some ad) l0_0.length c0_0) ∧ w'.cell? (ad.add (j * 3)) = some (.int .i64 xj) ∧ w'.cell? ⟨(ad.add (j * 3)).block, (ad.add (j * 3)).off + 1, none⟩ = some (.int .i64 yj) ∧ w'.cell? ⟨gb, 0, none⟩ = some (.int .i64 x) ∧ w'.cell? ⟨gb, 1, none⟩ = some (.int .i64 y)) [] 24 ⟨cz, hx, hy, b0, b1⟩ (fun aA => ?_)
             refine zp 0 62 ?_
             refine zp 1 63 ?_
             refine zp 2 64 ?_
             refine zp 4 66 ?_
             refine zp 8 70 ?_
             refine zt 3 65 aA ?_
             refine zp 5 67 ?_
             refine zp 6 68 ?_
             refine zt 7 69 aA ?_
             refine zt 9 71 aA ?_
             refine zp 10 72 ?_
             refine zp 11 73 ?_
             refine zp 12 74 ?_
             refine zp 13 75 ?_
             refine zp 14 76 ?_
             refine zp 16 78 ?_
             refine zp 20 82 ?_
             refine zt 15 77 aA ?_
             refine zp 17 79 ?_
             refine zp 18 80 ?_
             refine zt 19 81 aA ?_
             refine zt 21 83 aA ?_
             refine zp 22 84 ?_
             refine zp 23 85 ?_
             refine done_ (by kernel_rfl) ?_
             go_wp2
             go_ret
             refine ⟨by rw [frB_no (fun h_ => (h_.2.2.1 i HIL.out).2 j HJL.out ⟨by rw [EXJ.out, EX.out]; exact HXX.out, by rw [EYJ.out, EY.out]; exact HYY.out⟩)]; rfl, ?_⟩
             repeat (first | exact HF4.out.hb | apply below_drew1 | apply pw_below_drewN)
            ·have t2 : (yj == y) = false := beq_eq_false_iff_ne.mpr hyy
             have HYY := zQ hyy; clear hyy
             go_wp2
             refine zs (fun w' => w'.cell? ⟨g0, 0, none⟩ = some (.slice (some ad) l0_0.length c0_0) ∧ w'.cell? (ad.add (j * 3)) = some (.int .i64 xj) ∧ w'.cell? ⟨(ad.add (j * 3)).block, (ad.add (j * 3)).off + 1, none⟩ = some (.int .i64 yj) ∧ w'.cell? ⟨gb, 0, none⟩ = some (.int .i64 x) ∧ w'.cell? ⟨gb, 1, none⟩ = some (.int .i64 y)) [] 24 ⟨cz, hx, hy, b0, b1⟩ (fun aA => ?_)
             refine zp 0 62 ?_
             refine zp 1 63 ?_
             refine zp 2 64 ?_
             refine zp 4 66 ?_
             refine zp 8 70 ?_
             refine zt 3 65 aA ?_
             refine zp 5 67 ?_
             refine zp 6 68 ?_
             refine zt 7 69 aA ?_
             refine zt 9 71 aA ?_
             refine zp 10 72 ?_
             refine zp 11 73 ?_
             refine zp 12 74 ?_
             refine zp 13 75 ?_
             refine zp 14 76 ?_
             refine zp 16 78 ?_
             refine zp 20 82 ?_
             refine zt 15 77 aA ?_
             refine zp 17 79 ?_
             refine zp 18 80 ?_
             refine zt 19 81 aA ?_
             refine zt 21 83 aA ?_
             refine zp 22 84 ?_
             refine zp 23 85 ?_
             refine done_ (by kernel_rfl) ?_
             go_wp2
             go_roundw
             case rel => exact ⟨j + 1, by first | rfl | rw [e7] | (simp; omega), ⟨by have := HJL.out; omega, upto_next HJ.out.2 (fun h_ => HYY.out (by rw [← EYJ.out]; exact h_.2))⟩, ⟨⟨HF4.out.bk, by repeat (first | exact HF4.out.hb | apply below_drew1 | apply pw_below_drewN)⟩⟩, ⟨HBX4.out⟩⟩
             case measure => exact ok_meas e7 (by have := HJL.out; have := HIL.out; have := H8.out; have := H9.out; omega)
           ·have t1 : (xj == x) = false := beq_eq_false_iff_ne.mpr hxx
            have HXX := zQ hxx; clear hxx
            go_wp2
            refine zs (fun w' => w'.cell? ⟨g0, 0, none⟩ = some (.slice (some ad) l0_0.length c0_0) ∧ w'.cell? (ad.add (j * 3)) = some (.int .i64 xj) ∧ w'.cell? ⟨(ad.add (j * 3)).block, (ad.add (j * 3)).off + 1, none⟩ = some (.int .i64 yj) ∧ w'.cell? ⟨gb, 0, none⟩ = some (.int .i64 x) ∧ w'.cell? ⟨gb, 1, none⟩ = some (.int .i64 y)) [] 24 ⟨cz, hx, hy, b0, b1⟩ (fun aA => ?_)
            refine zp 0 62 ?_
            refine zp 1 63 ?_
            refine zp 2 64 ?_
            refine zp 4 66 ?_
            refine zp 8 70 ?_
            refine zt 3 65 aA ?_
            refine zp 5 67 ?_
            refine zp 6 68 ?_
            refine zt 7 69 aA ?_
            refine zt 9 71 aA ?_
            refine zp 10 72 ?_
            refine zp 11 73 ?_
            refine zg 12 74 ?_
            refine zg 13 75 ?_
            refine zg 14 76 ?_
            refine zg 15 77 ?_
            refine zg 16 78 ?_
            refine zg 17 79 ?_
            refine zg 18 80 ?_
            refine zg 19 81 ?_
            refine zg 20 82 ?_
            refine zg 21 83 ?_
            refine zg 22 84 ?_
            refine zp 23 85 ?_
            refine done_ (by kernel_rfl) ?_
            go_wp2
            go_roundw
            case rel => exact ⟨j + 1, by first | rfl | rw [e7] | (simp; omega), ⟨by have := HJL.out; omega, upto_next HJ.out.2 (fun h_ => HXX.out (by rw [← EXJ.out]; exact h_.1))⟩, ⟨⟨HF4.out.bk, by repeat (first | exact HF4.out.hb | apply below_drew1 | apply pw_below_drewN)⟩⟩, ⟨HBX4.out⟩⟩
            case measure => exact ok_meas e7 (by have := HJL.out; have := HIL.out; have := H8.out; have := H9.out; omega)
          ·have nA : decide ((j : Int) < (i : Int)) = false := decide_eq_false (by omega)
           have mA : decide (j < i) = false := decide_eq_false hj
           have hji : j = i := by have := HJ.out.1; omega
           have HJE := zQ hji
           have e7 : wrap64 ((i : Int) + 1) = ((i + 1 : Nat) : Int) := by have := H8.out; have := H9.out; have := HIL.out; unfold wrap64; omega
           clear hji hj
           go_wp2
           go_roundw
           case rel => exact ⟨i + 1, by rw [rA.out, HFN.out], by first | rfl | rw [e7] | (simp; omega), ⟨by have := HIL.out; omega, upto_next HI.out.2 ⟨by rw [EX.out, EY.out]; exact HXY.out, fun q hq h_ => HJ.out.2 q (by rw [HJE.out]; exact hq) (by rw [EX.out, EY.out] at h_; exact h_)⟩⟩, HF4⟩
           case measure => exact ok_meas e7 (by have := HIL.out; have := H8.out; have := H9.out; omega)
    ·have jA : decide ((i : Int) < (l0_0.length : Int)) = false := decide_eq_false (by omega)
     have iA : decide (i < l0_0.length) = false := decide_eq_false hi; have HIE := zQ (show i = l0_0.length from by have := HI.out.1; omega); clear hi
     go_wp2
     have HK := zQ (show ∀ j, j < l0_0.length → KnP l0_0 j from fun j hj => HI.out.2 j (by rw [HIE.out]; exact hj)); have HCL := zQ (show ((List.range i).filter (freeB l0_0)).length = ((List.range l0_0.length).filter (freeB l0_0)).length from by rw [HIE.out])
     generalize ((List.range i).filter (freeB l0_0)).length = c at HCL ⊢
     clear cz0 cz1 HI
     go_loopw [8] (fun v8 w' => ∃ (i : Nat), v8 = .int .i64 (i : Int) ∧ Aside0 (i ≤ l0_1.length ∧ ∀ j, j < i → BrP l0_0 l0_1 j) ∧ Aside0 (FW w g0 A0_0 c0_0 l0_0 A0_1 c0_1 l0_1 w')) (fun v8 _ => ((9 : Int) - intOf v8).toNat)
     case atStart => exact ⟨0, rfl, ⟨by omega, fun j hj => by omega⟩, HF⟩
     case round =>
      clear HF jA iA HIE; obtain ⟨i, rfl, HI, HF⟩ := hrel; have cz0 : wr.cell? ⟨g0, 0, none⟩ = some (.slice A0_0 l0_0.length c0_0) := (blk_cell HF.out.bk 0).trans rfl; have cz1 : wr.cell? ⟨g0, 1, none⟩ = some (.slice A0_1 l0_1.length c0_1) := (blk_cell HF.out.bk 1).trans rfl
      by_cases hi : i < l0_1.length
      ·have jA : decide ((i : Int) < (l0_1.length : Int)) = true := decide_eq_true (by omega)
       have iA : decide (i < l0_1.length) = true := decide_eq_true hi; obtain ⟨adb, ea, hx, hy, hz⟩ := at_T115 qA.out (i : Int) (by omega) (by omega); subst ea; rw [Int.toNat_natCast] at hx hy hz; replace hx := (HF.out.hb.cell (World.block_lt_of_cell? w _ hx)).trans hx; replace hy := (HF.out.hb.cell (World.block_lt_of_cell? w _ hy)).trans hy; replace hz := (HF.out.hb.cell (World.block_lt_of_cell? w _ hz)).trans hz; obtain ⟨x, ex⟩ : ∃ z, (rd_T115 l0_1 (i : Int)).f0 = z := ⟨_, rfl⟩; obtain ⟨y, ey⟩ : ∃ z, (rd_T115 l0_1 (i : Int)).f1 = z := ⟨_, rfl⟩; obtain ⟨fx, ef⟩ : ∃ z, (rd_T115 l0_1 (i : Int)).f2 = z := ⟨_, rfl⟩; rw [ex] at hx; rw [ey] at hy; rw [ef] at hz; have EX := zQ ex; have EY := zQ ey; have p1 : (0 ≤ (i : Int)) = True := eq_true (by omega); have q1 : ((i : Int) < (l0_1.length : Int)) = True := eq_true (by omega); have HIL := zQ hi; clear ex ey ef hi
       go_upto_region 22 with (first | ((with_reducible refine zd 9 ?_); (try (refine gate_guard (by rfl) ?_; dsimp only)); refine zbx (N := 9) (cs := #[.int .i64 0, .int .i64 0, .bool false]) (t := 115) ?_; intro gb hg w1 bA hb; have HF1 := zQ (HF.out.below hb); have BX := zQ bA; have GB := zQ (show w.heap.size ≤ gb ∧ g0 ≠ gb from ⟨by rw [hg]; exact below_size HF.out.hb, by rw [hg]; exact Nat.ne_of_lt (blk_lt HF.out.bk)⟩); have b0 : w1.cell? ⟨gb, 0, none⟩ = some (.int .i64 0) := (blk_cell bA 0).trans rfl; have b1 : w1.cell? ⟨gb, 1, none⟩ = some (.int .i64 0) := (blk_cell bA 1).trans rfl; have b2 : w1.cell? ⟨gb, 2, none⟩ = some (.bool false) := (blk_cell bA 2).trans rfl; have f0 := zfz bA 0; have f1 := zfz bA 1; have f2 := zfz bA 2; clear hb bA hg))
       (try simp only [Act.put, List.setIfInBounds_toArray, List.set_cons_zero, List.set_cons_succ])
       have HF2 := zQ (((HF1.out.set (j := 0) GB.out.1 GB.out.2 (.int .i64 x)).set (j := 1) GB.out.1 GB.out.2 (.int .i64 y)).set (j := 2) GB.out.1 GB.out.2 (.bool fx)); have BX2 := zQ (blk_put (cs := #[.int .i64 x, .int .i64 y, .bool false]) (cs' := #[.int .i64 x, .int .i64 y, .bool fx]) (blk_put (cs := #[.int .i64 x, .int .i64 0, .bool false]) (cs' := #[.int .i64 x, .int .i64 y, .bool false]) (blk_put (cs' := #[.int .i64 x, .int .i64 0, .bool false]) BX.out 0 (.int .i64 x) rfl) 1 (.int .i64 y) rfl) 2 (.bool fx) rfl)
       generalize ((w1.setCell ⟨gb, 0, none⟩ (.int .i64 x)).setCell ⟨gb, 1, none⟩ (.int .i64 y)).setCell ⟨gb, 2, none⟩ (.bool fx) = w2 at HF2 BX2 ⊢
       clear b0 b1 b2 f0 f1 f2 hx hy hz cz0 cz1 HF1 BX; have cz0 : w2.cell? ⟨g0, 0, none⟩ = some (.slice A0_0 l0_0.length c0_0) := (blk_cell HF2.out.bk 0).trans rfl; have b0 : w2.cell? ⟨gb, 0, none⟩ = some (.int .i64 x) := (blk_cell BX2.out 0).trans rfl; have b1 : w2.cell? ⟨gb, 1, none⟩ = some (.int .i64 y) := (blk_cell BX2.out 1).trans rfl; obtain ⟨bx, hbx⟩ : ∃ b, decide (0 ≤ x ∧ x ≤ wrap64 ((l0_0.length : Int) - 1)) = b := ⟨_, rfl⟩; obtain ⟨byy, hby⟩ : ∃ b, decide (wrap64 (x + 1) ≤ y ∧ y ≤ wrap64 ((l0_0.length : Int) - 1)) = b := ⟨_, rfl⟩; have HX := zQ (show spec_l00In.f x 0 (wrap64 ((l0_0.length : Int) - 1)) = some bx from by rw [← hbx]; exact l00In_is x 0 _); have HY := zQ (show spec_l00In.f y (wrap64 (x + 1)) (wrap64 ((l0_0.length : Int) - 1)) = some byy from by rw [← hby]; exact l00In_is y _ _); have HBX := zQ hbx; have HBY := zQ hby; have HW1 := zQ (show wrap64 ((l0_0.length : Int) - 1) = (l0_0.length : Int) - 1 from by have := H8.out; unfold wrap64; omega); clear hbx hby
       go_cut [140] (fun lA wc => ∃ (bad : Bool), lA = .bool bad ∧ Aside0 ((bad = true → ¬ FrP l0_0 l0_1) ∧ (bad = false → (0 ≤ x ∧ x < y ∧ y < (l0_0.length : Int)) ∧ ¬ ((rd_T164 l0_0 x).f2 = true ∧ (rd_T164 l0_0 y).f2 = true))) ∧ Aside0 (FW w g0 A0_0 c0_0 l0_0 (some adb) c0_1 l0_1 wc) ∧ Aside0 (wc.heap[gb]? = w2.heap[gb]?))
       case first =>
        as_aux_lemma =>
         cases bx with
         | false =>
          refine zs (fun w' => w'.cell? ⟨gb, 0, none⟩ = some (.int .i64 x) ∧ w'.cell? ⟨gb, 1, none⟩ = some (.int .i64 y)) [] 39 ⟨b0, b1⟩ (fun aA => ?_)
          refine zp 0 102 ?_
          refine zp 2 104 ?_
          refine zp 3 105 ?_
          refine zt 1 103 aA ?_
          refine zo 4 (some 106) (fun K hK => ?_)
          refine goes_ Try.func89 (by kernel_rfl) rfl #[.int .i64 x, .int .i64 0, .int .i64 (wrap64 ((l0_0.length : Int) - 1))] (by rfl) rfl rfl (by simp only [List.map_toArray, List.map_cons, List.map_nil]; rfl) ?_
          with_reducible refine (spec_l00In.calls x 0 ((wrap64 ((l0_0.length : Int) - 1))) false _ HX.out).mono ?_
          rintro e w3 ⟨rfl, nd, rfl⟩
          refine ⟨_, rfl, ?_⟩
          refine hK.out _ _ ⟨b0, b1⟩ (fun aA => ?_)
          clear hK K
          refine zn 106 ?_
          refine zp 5 107 ?_
          refine zp 6 108 ?_
          refine zg 7 109 ?_
          refine zg 8 110 ?_
          refine zg 9 111 ?_
          refine zg 10 112 ?_
          refine zg 11 113 ?_
          refine zg 12 114 ?_
          refine zg 13 115 ?_
          refine zg 14 116 ?_
          refine zg 15 117 ?_
          refine zp 16 118 ?_
          refine zp 17 119 ?_
          refine zg 18 120 ?_
          refine zg 19 121 ?_
          refine zg 20 122 ?_
          refine zg 21 123 ?_
          refine zg 22 124 ?_
          refine zg 23 125 ?_
          refine zg 24 126 ?_
          refine zg 25 127 ?_
          refine zg 26 128 ?_
          refine zg 27 129 ?_
          refine zg 28 130 ?_
          refine zg 29 131 ?_
          refine zg 30 132 ?_
          refine zg 31 133 ?_
          refine zg 32 134 ?_
          refine zg 33 135 ?_
          refine zg 34 136 ?_
          refine zg 35 137 ?_
          refine zg 36 138 ?_
          refine zg 37 139 ?_
          refine zp 38 140 ?_
          refine done_ (by kernel_rfl) ?_
          try go_wp2
          go_meet
          case rel => exact ⟨true, rfl, ⟨fun _ h_ => of_decide_eq_false HBX.out (by have := (h_.2.2.2.1 i HIL.out).1.1; rw [EX.out, EY.out] at this; rw [HW1.out]; omega), fun h_ => absurd h_ (by decide)⟩, ⟨⟨HF2.out.bk, by repeat (first | exact HF2.out.hb | apply below_drew1 | apply pw_below_drewN)⟩⟩, ⟨rfl⟩⟩
         | true =>
          have HXR := zQ (show 0 ≤ x ∧ x < (l0_0.length : Int) from by have := of_decide_eq_true HBX.out; rw [HW1.out] at this; omega); have HW2 := zQ (show wrap64 (x + 1) = x + 1 from by have := HXR.out; have := H8.out; unfold wrap64; omega)
          cases byy with
          | false =>
           refine zs (fun w' => w'.cell? ⟨gb, 0, none⟩ = some (.int .i64 x) ∧ w'.cell? ⟨gb, 1, none⟩ = some (.int .i64 y)) [] 39 ⟨b0, b1⟩ (fun aA => ?_)
           refine zp 0 102 ?_
           refine zp 2 104 ?_
           refine zp 3 105 ?_
           refine zt 1 103 aA ?_
           refine zo 4 (some 106) (fun K hK => ?_)
           refine goes_ Try.func89 (by kernel_rfl) rfl #[.int .i64 x, .int .i64 0, .int .i64 (wrap64 ((l0_0.length : Int) - 1))] (by rfl) rfl rfl (by simp only [List.map_toArray, List.map_cons, List.map_nil]; rfl) ?_
           with_reducible refine (spec_l00In.calls x 0 ((wrap64 ((l0_0.length : Int) - 1))) true _ HX.out).mono ?_
           rintro e w3 ⟨rfl, nd, rfl⟩
           refine ⟨_, rfl, ?_⟩
           refine hK.out _ _ ⟨b0, b1⟩ (fun aA => ?_)
           clear hK K
           refine zn 106 ?_
           refine zp 5 107 ?_
           refine zp 6 108 ?_
           refine zp 7 109 ?_
           refine zp 9 111 ?_
           refine zp 12 114 ?_
           refine zp 13 115 ?_
           refine zt 8 110 aA ?_
           refine zt 10 112 aA ?_
           refine zp 11 113 ?_
           refine zo 14 (some 116) (fun K hK => ?_)
           refine goes_ Try.func89 (by kernel_rfl) rfl #[.int .i64 y, .int .i64 (wrap64 (x + 1)), .int .i64 (wrap64 ((l0_0.length : Int) - 1))] (by rfl) rfl rfl (by simp only [List.map_toArray, List.map_cons, List.map_nil]; rfl) ?_
           with_reducible refine (spec_l00In.calls y ((wrap64 (x + 1))) ((wrap64 ((l0_0.length : Int) - 1))) false _ HY.out).mono ?_
           rintro e w3 ⟨rfl, nd, rfl⟩
           refine ⟨_, rfl, ?_⟩
           refine hK.out _ _ ⟨b0, b1⟩ (fun aA => ?_)
           clear hK K
           refine zn 116 ?_
           refine zp 15 117 ?_
           refine zp 16 118 ?_
           refine zp 17 119 ?_
           refine zg 18 120 ?_
           refine zg 19 121 ?_
           refine zg 20 122 ?_
           refine zg 21 123 ?_
           refine zg 22 124 ?_
           refine zg 23 125 ?_
           refine zg 24 126 ?_
           refine zg 25 127 ?_
           refine zg 26 128 ?_
           refine zg 27 129 ?_
           refine zg 28 130 ?_
           refine zg 29 131 ?_
           refine zg 30 132 ?_
           refine zg 31 133 ?_
           refine zg 32 134 ?_
           refine zg 33 135 ?_
           refine zg 34 136 ?_
           refine zg 35 137 ?_
           refine zg 36 138 ?_
           refine zg 37 139 ?_
           refine zp 38 140 ?_
           refine done_ (by kernel_rfl) ?_
           try go_wp2
           go_meet
           case rel => exact ⟨true, rfl, ⟨fun _ h_ => of_decide_eq_false HBY.out (by have := (h_.2.2.2.1 i HIL.out).1.1; rw [EX.out, EY.out] at this; rw [HW1.out, HW2.out]; omega), fun h_ => absurd h_ (by decide)⟩, ⟨⟨HF2.out.bk, by repeat (first | exact HF2.out.hb | apply below_drew1 | apply pw_below_drewN)⟩⟩, ⟨rfl⟩⟩
          | true =>
           have HYR := zQ (show x < y ∧ y < (l0_0.length : Int) from by have := of_decide_eq_true HBY.out; rw [HW1.out, HW2.out] at this; omega); obtain ⟨ad, ea, _, _, hfa⟩ := at_T164 kA.out x HXR.out.1 HXR.out.2; subst ea; replace hfa := (HF2.out.hb.cell (World.block_lt_of_cell? w _ hfa)).trans hfa; obtain ⟨ad', ea, _, _, hfb⟩ := at_T164 kA.out y (by have := HXR.out; have := HYR.out; omega) HYR.out.2; obtain rfl := Option.some.inj ea; replace hfb := (HF2.out.hb.cell (World.block_lt_of_cell? w _ hfb)).trans hfb; obtain ⟨fa, efa⟩ : ∃ z, (rd_T164 l0_0 x).f2 = z := ⟨_, rfl⟩; obtain ⟨fb, efb⟩ : ∃ z, (rd_T164 l0_0 y).f2 = z := ⟨_, rfl⟩; rw [efa] at hfa; rw [efb] at hfb; have EFA := zQ efa; have EFB := zQ efb; have p3 : (0 ≤ x) = True := eq_true HXR.out.1; have q3 : (x < (l0_0.length : Int)) = True := eq_true HXR.out.2; have p4 : (0 ≤ y) = True := eq_true (by have := HXR.out; have := HYR.out; omega); have q4 : (y < (l0_0.length : Int)) = True := eq_true HYR.out.2; clear efa efb
           cases fa with
           | false =>
            refine zs (fun w' => w'.cell? ⟨gb, 0, none⟩ = some (.int .i64 x) ∧ w'.cell? ⟨gb, 1, none⟩ = some (.int .i64 y) ∧ w'.cell? ⟨g0, 0, none⟩ = some (.slice (some ad) l0_0.length c0_0) ∧ w'.cell? ⟨(ad.add (x.toNat * 3)).block, (ad.add (x.toNat * 3)).off + 2, none⟩ = some (.bool false)) [] 39 ⟨b0, b1, cz0, hfa⟩ (fun aA => ?_)
            refine zp 0 102 ?_
            refine zp 2 104 ?_
            refine zp 3 105 ?_
            refine zt 1 103 aA ?_
            refine zo 4 (some 106) (fun K hK => ?_)
            refine goes_ Try.func89 (by kernel_rfl) rfl #[.int .i64 x, .int .i64 0, .int .i64 (wrap64 ((l0_0.length : Int) - 1))] (by rfl) rfl rfl (by simp only [List.map_toArray, List.map_cons, List.map_nil]; rfl) ?_
            with_reducible refine (spec_l00In.calls x 0 ((wrap64 ((l0_0.length : Int) - 1))) true _ HX.out).mono ?_
            rintro e w3 ⟨rfl, nd, rfl⟩
            refine ⟨_, rfl, ?_⟩
            refine hK.out _ _ ⟨b0, b1, cz0, hfa⟩ (fun aA => ?_)
            clear hK K
            refine zn 106 ?_
            refine zp 5 107 ?_
            refine zp 6 108 ?_
            refine zp 7 109 ?_
            refine zp 9 111 ?_
            refine zp 12 114 ?_
            refine zp 13 115 ?_
            refine zt 8 110 aA ?_
            refine zt 10 112 aA ?_
            refine zp 11 113 ?_
            refine zo 14 (some 116) (fun K hK => ?_)
            refine goes_ Try.func89 (by kernel_rfl) rfl #[.int .i64 y, .int .i64 (wrap64 (x + 1)), .int .i64 (wrap64 ((l0_0.length : Int) - 1))] (by rfl) rfl rfl (by simp only [List.map_toArray, List.map_cons, List.map_nil]; rfl) ?_
            with_reducible refine (spec_l00In.calls y ((wrap64 (x + 1))) ((wrap64 ((l0_0.length : Int) - 1))) true _ HY.out).mono ?_
            rintro e w3 ⟨rfl, nd, rfl⟩
            refine ⟨_, rfl, ?_⟩
            refine hK.out _ _ ⟨b0, b1, cz0, hfa⟩ (fun aA => ?_)
            clear hK K
            refine zn 116 ?_
            refine zp 15 117 ?_
            refine zp 16 118 ?_
            refine zp 17 119 ?_
            refine zp 18 120 ?_
            refine zp 19 121 ?_
            refine zp 20 122 ?_
            refine zp 22 124 ?_
            refine zt 21 123 aA ?_
            refine zt 23 125 aA ?_
            refine zp 24 126 ?_
            refine zp 25 127 ?_
            refine zt 26 128 aA ?_
            refine zp 27 129 ?_
            refine zg 28 130 ?_
            refine zg 29 131 ?_
            refine zg 30 132 ?_
            refine zg 31 133 ?_
            refine zg 32 134 ?_
            refine zg 33 135 ?_
            refine zg 34 136 ?_
            refine zg 35 137 ?_
            refine zg 36 138 ?_
            refine zp 37 139 ?_
            refine zp 38 140 ?_
            refine done_ (by kernel_rfl) ?_
            try go_wp2
            go_meet
            case rel => exact ⟨false, rfl, ⟨fun h_ => absurd h_ (by decide), fun _ => ⟨⟨HXR.out.1, HYR.out⟩, fun h_ => by rw [EFA.out] at h_; exact Bool.false_ne_true h_.1⟩⟩, ⟨⟨HF2.out.bk, by repeat (first | exact HF2.out.hb | apply below_drew1 | apply pw_below_drewN)⟩⟩, ⟨rfl⟩⟩
           | true =>
            refine zs (fun w' => w'.cell? ⟨gb, 0, none⟩ = some (.int .i64 x) ∧ w'.cell? ⟨gb, 1, none⟩ = some (.int .i64 y) ∧ w'.cell? ⟨g0, 0, none⟩ = some (.slice (some ad) l0_0.length c0_0) ∧ w'.cell? ⟨(ad.add (x.toNat * 3)).block, (ad.add (x.toNat * 3)).off + 2, none⟩ = some (.bool true) ∧ w'.cell? ⟨(ad.add (y.toNat * 3)).block, (ad.add (y.toNat * 3)).off + 2, none⟩ = some (.bool fb)) [] 39 ⟨b0, b1, cz0, hfa, hfb⟩ (fun aA => ?_)
            refine zp 0 102 ?_
            refine zp 2 104 ?_
            refine zp 3 105 ?_
            refine zt 1 103 aA ?_
            refine zo 4 (some 106) (fun K hK => ?_)
            refine goes_ Try.func89 (by kernel_rfl) rfl #[.int .i64 x, .int .i64 0, .int .i64 (wrap64 ((l0_0.length : Int) - 1))] (by rfl) rfl rfl (by simp only [List.map_toArray, List.map_cons, List.map_nil]; rfl) ?_
            with_reducible refine (spec_l00In.calls x 0 ((wrap64 ((l0_0.length : Int) - 1))) true _ HX.out).mono ?_
            rintro e w3 ⟨rfl, nd, rfl⟩
            refine ⟨_, rfl, ?_⟩
            refine hK.out _ _ ⟨b0, b1, cz0, hfa, hfb⟩ (fun aA => ?_)
            clear hK K
            refine zn 106 ?_
            refine zp 5 107 ?_
            refine zp 6 108 ?_
            refine zp 7 109 ?_
            refine zp 9 111 ?_
            refine zp 12 114 ?_
            refine zp 13 115 ?_
            refine zt 8 110 aA ?_
            refine zt 10 112 aA ?_
            refine zp 11 113 ?_
            refine zo 14 (some 116) (fun K hK => ?_)
            refine goes_ Try.func89 (by kernel_rfl) rfl #[.int .i64 y, .int .i64 (wrap64 (x + 1)), .int .i64 (wrap64 ((l0_0.length : Int) - 1))] (by rfl) rfl rfl (by simp only [List.map_toArray, List.map_cons, List.map_nil]; rfl) ?_
            with_reducible refine (spec_l00In.calls y ((wrap64 (x + 1))) ((wrap64 ((l0_0.length : Int) - 1))) true _ HY.out).mono ?_
            rintro e w3 ⟨rfl, nd, rfl⟩
            refine ⟨_, rfl, ?_⟩
            refine hK.out _ _ ⟨b0, b1, cz0, hfa, hfb⟩ (fun aA => ?_)
            clear hK K
            refine zn 116 ?_
            refine zp 15 117 ?_
            refine zp 16 118 ?_
            refine zp 17 119 ?_
            refine zp 18 120 ?_
            refine zp 19 121 ?_
            refine zp 20 122 ?_
            refine zp 22 124 ?_
            refine zt 21 123 aA ?_
            refine zt 23 125 aA ?_
            refine zp 24 126 ?_
            refine zp 25 127 ?_
            refine zt 26 128 aA ?_
            refine zp 27 129 ?_
            refine zp 28 130 ?_
            refine zp 29 131 ?_
            refine zp 30 132 ?_
            refine zp 32 134 ?_
            refine zt 31 133 aA ?_
            refine zt 33 135 aA ?_
            refine zp 34 136 ?_
            refine zp 35 137 ?_
            refine zt 36 138 aA ?_
            refine zp 37 139 ?_
            refine zp 38 140 ?_
            refine done_ (by kernel_rfl) ?_
            try go_wp2
            go_meet
            case rel => exact ⟨fb, rfl, ⟨fun hb_ h_ => (h_.2.2.2.1 i HIL.out).1.2 (by rw [EX.out, EY.out]; exact ⟨EFA.out, EFB.out.trans hb_⟩), fun hb_ => ⟨⟨HXR.out.1, HYR.out⟩, fun h_ => by rw [EFB.out, hb_] at h_; exact Bool.false_ne_true h_.2⟩⟩, ⟨⟨HF2.out.bk, by repeat (first | exact HF2.out.hb | apply below_drew1 | apply pw_below_drewN)⟩⟩, ⟨rfl⟩⟩
       case rest =>
        as_aux_lemma =>
         obtain ⟨bad, rfl, HBD, HFC, HBC⟩ := hcut; clear HX HY HBX HBY
         cases bad with
         | true =>
          go_wp2
          go_ret
          refine ⟨by rw [frB_no (HBD.out.1 (by first | exact rfl | trivial))]; rfl, HFC.out.hb⟩
         | false =>
          have HNF := zQ (HBD.out.2 (by first | exact rfl | trivial)); clear b0 b1 cz0; have BX3 := HBC; rw [BX2.out] at BX3; obtain ⟨w3, eA⟩ : ∃ z, wc = z := ⟨_, rfl⟩; rw [eA] at HFC BX3 ⊢; have HF3 := HFC; clear eA HBC BX2 HF2 HBD HFC
          go_wp2
          go_loopw [10] (fun v w' => ∃ (j : Nat), v = .int .i64 (j : Int) ∧ Aside0 (j ≤ i ∧ ∀ q, q < j → ¬ ((rd_T115 l0_1 (q : Int)).f0 = x ∧ (rd_T115 l0_1 (q : Int)).f1 = y)) ∧ Aside0 (FW w g0 A0_0 c0_0 l0_0 (some adb) c0_1 l0_1 w') ∧ Aside0 (w'.heap[gb]? = w3.heap[gb]?)) (fun v _ => ((9 : Int) - intOf v).toNat)
          case atStart => exact ⟨0, rfl, ⟨by omega, fun j hj => by omega⟩, HF3, ⟨rfl⟩⟩
          case round =>
           obtain ⟨j, rfl, HJ, HF4, HBX4⟩ := hrel; have hbx := HBX4.out; rw [BX3.out] at hbx; have cz : wr.cell? ⟨g0, 1, none⟩ = some (.slice (some adb) l0_1.length c0_1) := (blk_cell HF4.out.bk 1).trans rfl; have b0 : wr.cell? ⟨gb, 0, none⟩ = some (.int .i64 x) := (blk_cell hbx 0).trans rfl; have b1 : wr.cell? ⟨gb, 1, none⟩ = some (.int .i64 y) := (blk_cell hbx 1).trans rfl; clear hbx
           by_cases hj : j < i
           ·have nA : decide ((j : Int) < (i : Int)) = true := decide_eq_true (by omega)
            have mA : decide (j < i) = true := decide_eq_true hj; have hil := HIL.out; obtain ⟨ad', ea, hx, hy, _⟩ := at_T115 qA.out (j : Int) (by omega) (by omega); obtain rfl := Option.some.inj ea; rw [Int.toNat_natCast] at hx hy; replace hx := (HF4.out.hb.cell (World.block_lt_of_cell? w _ hx)).trans hx; replace hy := (HF4.out.hb.cell (World.block_lt_of_cell? w _ hy)).trans hy; obtain ⟨xj, exj⟩ : ∃ z, (rd_T115 l0_1 (j : Int)).f0 = z := ⟨_, rfl⟩; obtain ⟨yj, eyj⟩ : ∃ z, (rd_T115 l0_1 (j : Int)).f1 = z := ⟨_, rfl⟩; rw [exj] at hx; rw [eyj] at hy; have EXJ := zQ exj; have EYJ := zQ eyj; have p2 : (0 ≤ (j : Int)) = True := eq_true (by omega); have q2 : ((j : Int) < (l0_1.length : Int)) = True := eq_true (by omega); have HJL := zQ hj
            have e7 : wrap64 ((j : Int) + 1) = ((j + 1 : Nat) : Int) := by have := H8.out; have := H9.out; unfold wrap64; omega
            clear exj eyj hj hil
            by_cases hxx : xj = x
            ·have t1 : (xj == x) = true := beq_iff_eq.mpr hxx
             have HXX := zQ hxx; clear hxx
             by_cases hyy : yj = y
             ·have t2 : (yj == y) = true := beq_iff_eq.mpr hyy
              have HYY := zQ hyy; clear hyy
              go_wp2
              refine zs (fun w' => w'.cell? ⟨g0, 1, none⟩ = some (.slice (some adb) l0_1.length c0_1) ∧ w'.cell? (adb.add (j * 3)) = some (.int .i64 xj) ∧ w'.cell? ⟨(adb.add (j * 3)).block, (adb.add (j * 3)).off + 1, none⟩ = some (.int .i64 yj) ∧ w'.cell? ⟨gb, 0, none⟩ = some (.int .i64 x) ∧ w'.cell? ⟨gb, 1, none⟩ = some (.int .i64 y)) [] 24 ⟨cz, hx, hy, b0, b1⟩ (fun aA => ?_)
              refine zp 0 146 ?_
              refine zp 1 147 ?_
              refine zp 2 148 ?_
              refine zp 4 150 ?_
              refine zp 8 154 ?_
              refine zt 3 149 aA ?_
              refine zp 5 151 ?_
              refine zp 6 152 ?_
              refine zt 7 153 aA ?_
              refine zt 9 155 aA ?_
              refine zp 10 156 ?_
              refine zp 11 157 ?_
              refine zp 12 158 ?_
              refine zp 13 159 ?_
              refine zp 14 160 ?_
              refine zp 16 162 ?_
              refine zp 20 166 ?_
              refine zt 15 161 aA ?_
              refine zp 17 163 ?_
              refine zp 18 164 ?_
              refine zt 19 165 aA ?_
              refine zt 21 167 aA ?_
              refine zp 22 168 ?_
              refine zp 23 169 ?_
              refine done_ (by kernel_rfl) ?_
              go_wp2
              go_ret
              refine ⟨by rw [frB_no (fun h_ => (h_.2.2.2.1 i HIL.out).2 j HJL.out ⟨by rw [EXJ.out, EX.out]; exact HXX.out, by rw [EYJ.out, EY.out]; exact HYY.out⟩)]; rfl, ?_⟩
              repeat (first | exact HF4.out.hb | apply below_drew1 | apply pw_below_drewN)
             ·have t2 : (yj == y) = false := beq_eq_false_iff_ne.mpr hyy
              have HYY := zQ hyy; clear hyy
              go_wp2
              refine zs (fun w' => w'.cell? ⟨g0, 1, none⟩ = some (.slice (some adb) l0_1.length c0_1) ∧ w'.cell? (adb.add (j * 3)) = some (.int .i64 xj) ∧ w'.cell? ⟨(adb.add (j * 3)).block, (adb.add (j * 3)).off + 1, none⟩ = some (.int .i64 yj) ∧ w'.cell? ⟨gb, 0, none⟩ = some (.int .i64 x) ∧ w'.cell? ⟨gb, 1, none⟩ = some (.int .i64 y)) [] 24 ⟨cz, hx, hy, b0, b1⟩ (fun aA => ?_)
              refine zp 0 146 ?_
              refine zp 1 147 ?_
              refine zp 2 148 ?_
              refine zp 4 150 ?_
              refine zp 8 154 ?_
              refine zt 3 149 aA ?_
              refine zp 5 151 ?_
              refine zp 6 152 ?_
              refine zt 7 153 aA ?_
              refine zt 9 155 aA ?_
              refine zp 10 156 ?_
              refine zp 11 157 ?_
              refine zp 12 158 ?_
              refine zp 13 159 ?_
              refine zp 14 160 ?_
              refine zp 16 162 ?_
              refine zp 20 166 ?_
              refine zt 15 161 aA ?_
              refine zp 17 163 ?_
              refine zp 18 164 ?_
              refine zt 19 165 aA ?_
              refine zt 21 167 aA ?_
              refine zp 22 168 ?_
              refine zp 23 169 ?_
              refine done_ (by kernel_rfl) ?_
              go_wp2
              go_roundw
              case rel => exact ⟨j + 1, by first | rfl | rw [e7] | (simp; omega), ⟨by have := HJL.out; omega, upto_next HJ.out.2 (fun h_ => HYY.out (by rw [← EYJ.out]; exact h_.2))⟩, ⟨⟨HF4.out.bk, by repeat (first | exact HF4.out.hb | apply below_drew1 | apply pw_below_drewN)⟩⟩, ⟨HBX4.out⟩⟩
              case measure => exact ok_meas e7 (by have := HJL.out; have := HIL.out; have := H8.out; have := H9.out; omega)
            ·have t1 : (xj == x) = false := beq_eq_false_iff_ne.mpr hxx
             have HXX := zQ hxx; clear hxx
             go_wp2
             refine zs (fun w' => w'.cell? ⟨g0, 1, none⟩ = some (.slice (some adb) l0_1.length c0_1) ∧ w'.cell? (adb.add (j * 3)) = some (.int .i64 xj) ∧ w'.cell? ⟨(adb.add (j * 3)).block, (adb.add (j * 3)).off + 1, none⟩ = some (.int .i64 yj) ∧ w'.cell? ⟨gb, 0, none⟩ = some (.int .i64 x) ∧ w'.cell? ⟨gb, 1, none⟩ = some (.int .i64 y)) [] 24 ⟨cz, hx, hy, b0, b1⟩ (fun aA => ?_)
             refine zp 0 146 ?_
             refine zp 1 147 ?_
             refine zp 2 148 ?_
             refine zp 4 150 ?_
             refine zp 8 154 ?_
             refine zt 3 149 aA ?_
             refine zp 5 151 ?_
             refine zp 6 152 ?_
             refine zt 7 153 aA ?_
             refine zt 9 155 aA ?_
             refine zp 10 156 ?_
             refine zp 11 157 ?_
             refine zg 12 158 ?_
             refine zg 13 159 ?_
             refine zg 14 160 ?_
             refine zg 15 161 ?_
             refine zg 16 162 ?_
             refine zg 17 163 ?_
             refine zg 18 164 ?_
             refine zg 19 165 ?_
             refine zg 20 166 ?_
             refine zg 21 167 ?_
             refine zg 22 168 ?_
             refine zp 23 169 ?_
             refine done_ (by kernel_rfl) ?_
             go_wp2
             go_roundw
             case rel => exact ⟨j + 1, by first | rfl | rw [e7] | (simp; omega), ⟨by have := HJL.out; omega, upto_next HJ.out.2 (fun h_ => HXX.out (by rw [← EXJ.out]; exact h_.1))⟩, ⟨⟨HF4.out.bk, by repeat (first | exact HF4.out.hb | apply below_drew1 | apply pw_below_drewN)⟩⟩, ⟨HBX4.out⟩⟩
             case measure => exact ok_meas e7 (by have := HJL.out; have := HIL.out; have := H8.out; have := H9.out; omega)
           ·have nA : decide ((j : Int) < (i : Int)) = false := decide_eq_false (by omega)
            have mA : decide (j < i) = false := decide_eq_false hj
            have hji : j = i := by have := HJ.out.1; omega
            have HJE := zQ hji
            have e7 : wrap64 ((i : Int) + 1) = ((i + 1 : Nat) : Int) := by have := H8.out; have := H9.out; have := HIL.out; unfold wrap64; omega
            clear hji hj
            go_wp2
            go_roundw
            case rel => exact ⟨i + 1, by first | rfl | rw [e7] | (simp; omega), ⟨by have := HIL.out; omega, upto_next HI.out.2 ⟨⟨by rw [EX.out, EY.out]; exact HNF.out.1, by rw [EX.out, EY.out]; exact HNF.out.2⟩, fun q hq h_ => HJ.out.2 q (by rw [HJE.out]; exact hq) (by rw [EX.out, EY.out] at h_; exact h_)⟩⟩, HF4⟩
            case measure => exact ok_meas e7 (by have := HIL.out; have := H8.out; have := H9.out; omega)
      ·have jA : decide ((i : Int) < (l0_1.length : Int)) = false := decide_eq_false (by omega)
       have iA : decide (i < l0_1.length) = false := decide_eq_false hi; have HIE := zQ (show i = l0_1.length from by have := HI.out.1; omega); clear hi
       go_wp2
       go_ret
       refine ⟨?_, HF.out.hb⟩
       have HB_ : ∀ j, j < l0_1.length → BrP l0_0 l0_1 j := fun j hj => HI.out.2 j (by rw [HIE.out]; exact hj)
       by_cases hc : c ≤ 3
       ·rw [frB_yes ⟨H8.out, H9.out, HK.out, HB_, by rw [← HCL.out]; exact hc⟩]
        simp; omega
       ·rw [frB_no (fun h_ => hc (by rw [HCL.out]; exact h_.2.2.2.2))]
        simp; omega
  ·have k9a : decide (8 < (l0_1.length : Int)) = true := decide_eq_true (by omega)
   have k9b : decide (8 < l0_1.length) = true := decide_eq_true (by omega); have HN := zQ (show ¬ FrP l0_0 l0_1 from fun h_ => h9 h_.2.1); clear h8 h9
   go_wp2
   go_ret
   exact ⟨by rw [frB_no HN.out]; rfl, HF0.out.hb⟩
 ·have k8a : decide (8 < (l0_0.length : Int)) = true := decide_eq_true (by omega)
  have k8b : decide (8 < l0_0.length) = true := decide_eq_true (by omega); have HN := zQ (show ¬ FrP l0_0 l0_1 from fun h_ => h8 h_.1); clear h8
  go_wp2
  go_ret
  exact ⟨by rw [frB_no HN.out]; rfl, HF0.out.hb⟩

end
end Go.Proofs.Ytimjblgepbhoaaa.PStays

