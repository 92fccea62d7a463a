/- The walks of the functions that the law reaches: each computes what its Lean function says. No condition beyond each contract's own. -/
import Derived.Test.YtimjblgepbhoaaaHFnExactCanHoldx0
namespace Go.Proofs.Ytimjblgepbhoaaa.PFnExactCanHold
open Go.RowKit Go.Proofs.YtimjblgepbhoaaaW.PrintWords Go.Proofs.YtimjblgepbhoaaaW.PrintLast Go.Proofs.YtimjblgepbhoaaaW.PrintMore
attribute [local go_sem] max2_int min2_int max_two min_two max_three min_three max_four min_four   -- for this text's walks alone
set_option linter.unusedVariables false
set_option linter.unusedSimpArgs false

/-! ### impl_barLists: function 68 -/
/-! by hand: impl.barLists (the closure that calls itself) -/
def combs (bs : List Int) : Nat → List Int → Nat → List (List Int)
 | 0, list, _ => [list]
 | m + 1, list, i => (List.range' i (bs.length - m - i)).flatMap (fun j => combs bs m (list ++ [bs.getD j 0]) (j + 1))
structure BlW (w0 : World) (go gb ge : Nat) (A : Option Addr) (n cp : Nat) (v : Value) (outs : List (List Int)) (w : World) : Prop where
 bo : w.heap[go]? = some (.cells #[v] 88 (0, 0))
 bb : w.heap[gb]? = some (.cells #[.slice A n cp] 31 (0, 0))
 be : w.heap[ge]? = some (.cells #[.func (.func 116) #[] #[.pointer (some ⟨go, 0, none⟩), .pointer (some ⟨gb, 0, none⟩), .pointer (some ⟨ge, 0, none⟩)]] 136 (0, 0))
 os : Kd.S (Kd.slice 2 (Kd.int .i64)) 31 w w0.heap.size (fun k => w0.heap.size ≤ k ∧ k ≠ go ∧ k ≠ gb ∧ k ≠ ge) v outs
 bel : Below w0.heap.size w0 w
 lo : w0.heap.size ≤ go ∧ w0.heap.size ≤ gb ∧ w0.heap.size ≤ ge
 ne : go ≠ gb ∧ go ≠ ge
theorem BlW.below {w0 w w' : World} {go gb ge n cp : Nat} {A : Option Addr} {v : Value} {outs : List (List Int)} (h : BlW w0 go gb ge A n cp v outs w) (hb : Below w.heap.size w w') : BlW w0 go gb ge A n cp v outs w' :=
 ⟨blk_below h.bo hb, blk_below h.bb hb, blk_below h.be hb, Kd.S_below h.os hb, below_step h.bel hb, h.lo, h.ne⟩
theorem bl_okp {w0 w w2 : World} {go gb ge n cp : Nat} {A : Option Addr} {v u : Value} {outs : List (List Int)} {ys : List Int} (h : BlW w0 go gb ge A n cp v outs w) (hy : Kd.R (Kd.int .i64) 2 w2 w.heap.size (fun k => w.heap.size ≤ k) u ys) (k : Nat) (hk : some k = u.ownBlock) : (w0.heap.size ≤ k ∧ k ≠ go ∧ k ≠ gb ∧ k ≠ ge) ∧ some k ≠ v.ownBlock := by
 have h1 := Kd.R_base hy k hk.symm
 have := blk_lt h.bo
 have := blk_lt h.bb
 have := blk_lt h.be
 have := below_size h.bel
 exact ⟨⟨by omega, by omega, by omega, by omega⟩, fun e => by have := Kd.S_lt h.os k e.symm; omega⟩
theorem bl_fresh {w0 w : World} {go gb ge n cp : Nat} {A : Option Addr} {v : Value} {outs : List (List Int)} (h : BlW w0 go gb ge A n cp v outs w) (k : Nat) (hk : w.heap.size ≤ k) : w0.heap.size ≤ k ∧ k ≠ go ∧ k ≠ gb ∧ k ≠ ge := by
 have := blk_lt h.bo
 have := blk_lt h.bb
 have := blk_lt h.be
 have := below_size h.bel
 exact ⟨by omega, by omega, by omega, by omega⟩
theorem bl_apart {w0 w w2 : World} {go gb ge n cp : Nat} {A : Option Addr} {v u : Value} {outs : List (List Int)} {ys : List Int} (h : BlW w0 go gb ge A n cp v outs w) (hy : Kd.R (Kd.int .i64) 2 w2 w.heap.size (fun k => w.heap.size ≤ k) u ys) (hb : Below w.heap.size w w2) : Kd.S (Kd.slice 2 (Kd.int .i64)) 31 w2 w0.heap.size (fun k => (w0.heap.size ≤ k ∧ k ≠ go ∧ k ≠ gb ∧ k ≠ ge) ∧ ¬ some k = u.ownBlock) v outs :=
 Kd.S_mono (Kd.S_old h.os hb) (fun k hk => ⟨hk.1, fun e => by have := Kd.R_base hy k e.symm; omega⟩)
theorem bl_box {w0 w w1 : World} {go gb ge n cp : Nat} {A : Option Addr} {v : Value} {outs : List (List Int)} (h : BlW w0 go gb ge A n cp v outs w) (hg : w.grownBy w1 v.ownBlock) : w1.heap[go]? = some (.cells #[v] 88 (0, 0)) ∧ w1.heap[gb]? = some (.cells #[.slice A n cp] 31 (0, 0)) ∧ w1.heap[ge]? = some (.cells #[.func (.func 116) #[] #[.pointer (some ⟨go, 0, none⟩), .pointer (some ⟨gb, 0, none⟩), .pointer (some ⟨ge, 0, none⟩)]] 136 (0, 0)) := by
 have hr := Kd.S_R h.os
 exact ⟨blk_grown h.bo hg (fun e => (hr.1 go e.symm).2.1 rfl), blk_grown h.bb hg (fun e => (hr.1 gb e.symm).2.2.1 rfl), blk_grown h.be hg (fun e => (hr.1 ge e.symm).2.2.2 rfl)⟩
theorem BlW.store {w0 w w1 : World} {go gb ge n cp : Nat} {A : Option Addr} {v v1 : Value} {outs outs1 : List (List Int)} (h : BlW w0 go gb ge A n cp v outs w) (hg : w.grownBy w1 v.ownBlock) (ho : Kd.S (Kd.slice 2 (Kd.int .i64)) 31 w1 w0.heap.size (fun k => w0.heap.size ≤ k ∧ k ≠ go ∧ k ≠ gb ∧ k ≠ ge) v1 outs1) (hb : Below w0.heap.size w0 w1) : BlW w0 go gb ge A n cp v1 outs1 (w1.setCell ⟨go, 0, none⟩ v1) := by
 obtain ⟨h1, h2, h3⟩ := bl_box h hg
 refine ⟨blk_put h1 0 v1 rfl, ?_, ?_, Kd.S_far ho (fun k hk => hk.2.1) v1, below_set hb h.lo.1, h.lo, h.ne⟩
 ·exact (Below.heap_setCell w1 ⟨go, 0, none⟩ v1 gb (fun e => h.ne.1 e.symm)).trans h2
 ·exact (Below.heap_setCell w1 ⟨go, 0, none⟩ v1 ge (fun e => h.ne.2 e.symm)).trans h3
theorem bl_list {w0 w w' : World} {go gb ge n cp : Nat} {A : Option Addr} {v u : Value} {outs : List (List Int)} {ys : List Int} {base : Nat} (h : BlW w0 go gb ge A n cp v outs w) (hy : Kd.R (Kd.int .i64) 2 w base (fun _ => True) u ys) (hk : Kept w w' (fun k => k = go ∨ some k = v.ownBlock)) : Kd.R (Kd.int .i64) 2 w' base (fun _ => True) u ys := by
 refine Kd.R_mono (Kd.R_kept (Kd.R_tight rfl hy) hk (fun k e hs => ?_)) (fun _ _ => trivial)
 rcases hs with hs | hs
 ·subst hs
  exact Kd.R_ne hy h.bo (by decide) e
 ·obtain ⟨c1, e1⟩ := Kd.R_typed hy k e.symm
  obtain ⟨c2, e2⟩ := Kd.S_typed h.os k hs.symm; rw [e1] at e2
  simp at e2
theorem infoBL : (Try.prog.info? 31).map (fun i => (i.zero, i.size, i.bytes)) = some (some (.slice none 0 0), 1, 24) := by kernel_rfl
theorem bl_reps1 {Rr : Int → List Value → Prop} {b : Int} (h : Rr b [.int .i64 b]) : Reps Rr 1 [b] [.int .i64 b] := by
 simpa using Reps.snoc (Reps.none Rr 1) h rfl
theorem combs_len (bs : List Int) : ∀ m list i, i ≤ bs.length → (combs bs m list i).length ≤ 2 ^ (bs.length - i)
 | 0, list, i, _ => by simp only [combs, List.length_cons, List.length_nil]; exact Nat.one_le_two_pow
 | m + 1, list, i, h => by
  unfold combs
  have key : ∀ q i, i + q ≤ bs.length → ((List.range' i q).flatMap (fun j => combs bs m (list ++ [bs.getD j 0]) (j + 1))).length ≤ 2 ^ (bs.length - i) := by
   intro q
   induction q with
   | zero => intro i hi; simp
   | succ q ih =>
    intro i hi
    rw [List.range'_succ, List.flatMap_cons, List.length_append]; have h1 := combs_len bs m (list ++ [bs.getD i 0]) (i + 1) (by omega); have h2 := ih (i + 1) (by omega)
    have : bs.length - i = (bs.length - (i + 1)) + 1 := by omega
    rw [this, Nat.pow_succ]
    omega
  exact key _ i (by omega)
theorem combs_part {bs : List Int} {m i j : Nat} {list : List Int} (h1 : i ≤ j) (h2 : j + m + 1 ≤ bs.length) : ((List.range' i (j - i)).flatMap (fun j => combs bs m (list ++ [bs.getD j 0]) (j + 1))).length + (combs bs m (list ++ [bs.getD j 0]) (j + 1)).length ≤ (combs bs (m + 1) list i).length := by
 rw [show combs bs (m + 1) list i = (List.range' i (bs.length - m - i)).flatMap (fun j => combs bs m (list ++ [bs.getD j 0]) (j + 1)) from rfl]
 rw [show bs.length - m - i = (j - i) + (1 + (bs.length - m - j - 1)) from by omega, ← List.range'_append_1, ← List.range'_append_1, List.flatMap_append, List.flatMap_append, show i + (j - i) = j from by omega]
 simp only [List.length_append]
 rw [show List.range' j 1 = [j] from rfl, List.flatMap_cons, List.flatMap_nil, List.append_nil]
 omega
theorem combs_next {bs : List Int} {m i j : Nat} {list : List Int} (h1 : i ≤ j) : (List.range' i (j + 1 - i)).flatMap (fun j => combs bs m (list ++ [bs.getD j 0]) (j + 1)) = (List.range' i (j - i)).flatMap (fun j => combs bs m (list ++ [bs.getD j 0]) (j + 1)) ++ combs bs m (list ++ [bs.getD j 0]) (j + 1) := by
 rw [show j + 1 - i = (j - i) + 1 from by omega, ← List.range'_append_1, List.flatMap_append, show i + (j - i) = j from by omega, show List.range' j 1 = [j] from rfl, List.flatMap_cons, List.flatMap_nil, List.append_nil]
set_option maxHeartbeats 8000000 in
set_option maxRecDepth 100000 in
theorem barLists1_calls (w0 : World) (go gb ge : Nat) (A : Option Addr) (cp : Nat) (bs : List Int) (hbs : bs.length ≤ 1024) (hrB : Kd.C (Kd.int .i64) w0 A bs.length bs) :
  ∀ (m i : Nat) (Al : Option Addr) (cl : Nat) (list : List Int) (v : Value) (outs : List (List Int)) (w : World), i ≤ bs.length → list.length ≤ i → m ≤ bs.length → outs.length + (combs bs m list i).length ≤ 1048576 → BlW w0 go gb ge A bs.length cp v outs w → Kd.R (Kd.int .i64) 2 w w0.heap.size (fun _ => True) (.slice Al list.length cl) list →
  Calls Try.prog 116 #[.slice Al list.length cl, .int .i64 (i : Int), .int .i64 (m : Int), .pointer (some ⟨go, 0, none⟩), .pointer (some ⟨gb, 0, none⟩), .pointer (some ⟨ge, 0, none⟩)] w fun e w' => e = .returned (.tuple #[]) ∧ ∃ v', BlW w0 go gb ge A bs.length cp v' (outs ++ combs bs m list i) w' ∧ (v'.ownBlock = v.ownBlock ∨ ∃ b, v'.ownBlock = some b ∧ w.heap.size ≤ b) ∧ Kept w w' (fun k => k = go ∨ some k = v.ownBlock) := by
 intro m
 induction m with
 | zero =>
  intro i Al cl list v outs w hi hll hm hlo hF hl
  have HLL := Aside0.mk (show list.length ≤ 1024 from by omega); have HLO := Aside0.mk (show outs.length ≤ 1048576 from by omega); have HF := Aside0.mk hF; have HL := Aside0.mk hl; have hee : (((0 : Nat) : Int) == 0) = true := rfl; clear hF hl hi hll hm hlo
  go_enter Try.func116, Try.ntmps116
  go_wp2
  refine zs (fun w' => w'.cell? ⟨go, 0, none⟩ = some v) [6] 7 ((blk_cell HF.out.bo 0).trans rfl) (fun hHeld => ?_)
  have H20 := Aside0.mk (HF.out.below (below_drew1 (Below.refl _ _))); have HL20 := Aside0.mk (Kd.C_below (Kd.R_reads' HL.out).2.2 (below_drew1 (Below.refl _ _))); have HK20 := Aside0.mk (Kept.of_below (below_drew1 (Below.refl w.heap.size w)) (fun k => k = go ∨ some k = v.ownBlock)); have HS20 := Aside0.mk (below_size H20.out.bel); have HZ20 := Aside0.mk (show w.drew.heap.size = w.heap.size from rfl)
  generalize w.drew = w20 at H20 HL20 HK20 HS20 HZ20 hHeld ⊢
  refine zp 2 14 ?_
  refine zt 0 12 hHeld ?_
  refine zo 1 (some 13) (fun K hK => ?_)
  refine Kd.R_lit_step (Kd.int .i64) (w0 := w20) w20.heap.size 2 (by rfl) rfl (xs := []) (inner := []) (ok := fun k => w20.heap.size ≤ k) (okp := fun _ => False) (by first | (go_simp; done) | (go_simp; rfl)) (Reps.none _ _) (fun _ h => h.elim) (Nat.le_refl _) (Below.refl _ _) (Nat.le_refl _) (by simp) ?_
  intro v21 w21 ho hb hg hat
  have HA := Aside0.mk ho; have HAb := Aside0.mk hb; clear ho hb hg hat; have H21 := Aside0.mk (H20.out.below HAb.out)
  refine hK.out _ _ ((blk_cell H21.out.bo 0).trans rfl) (fun hHeld => ?_)
  clear hK K
  refine zn 13 ?_
  refine zo 3 (some 15) (fun K hK => ?_)
  refine Kd.R_append_rows_step (Kd.int .i64) (w0 := w20) w20.heap.size (by rfl) (.tmp 13) (.tmp 14) 31 2 (.int .i64 0) 8 rfl Try.underlying31 info2 rfl (by decide) (by omega) v21 [] list _ _ _ (fun k => w20.heap.size ≤ k) (fun _ => False) rfl rfl HA.out (Kd.C_below HL20.out HAb.out) (fun _ _ h => h) (fun _ h => h.elim) (fun _ h => Nat.le_trans HAb.out.size h) HAb.out HAb.out.size (by have := HLL.out; simp; omega) ?_
  intro v22 w22 ho hb hg hat
  rw [List.nil_append] at ho; have HY := Aside0.mk ho; have HYb := Aside0.mk hb; have H22 := Aside0.mk (H20.out.below hb); clear ho hb hg hat; obtain ⟨A22, c22, e22⟩ := Kd.R_slice HY.out; subst e22
  refine hK.out _ _ ((blk_cell H22.out.bo 0).trans rfl) (fun hHeld => ?_)
  clear hK K
  refine zn 15 ?_
  refine zo 4 (some 16) (fun K hK => ?_)
  refine value_ (w1 := ?_) (v := ?_) (by rfl) rfl ?_ ?_
  rotate_left 2
  ·go_simp
   constructor
   ·rfl
   ·rfl
  have H23 := Aside0.mk (H22.out.below (below_alloc (Below.refl _ _) (.cells #[.slice A22 list.length c22] 31)))
  refine hK.out _ _ ((blk_cell H23.out.bo 0).trans rfl) (fun hHeld => ?_)
  clear hK K
  refine zn 16 ?_
  refine zo 5 (some 17) (fun K hK => ?_)
  refine Kd.S_append_step (Kd.slice 2 (Kd.int .i64)) (w0 := w0) w0.heap.size (by rfl) (.tmp 12) (.tmp 16) 88 31 (.slice none 0 0) 24 rfl Try.underlying88 infoBL rfl (by decide) (by omega) v outs list [.slice A22 list.length c22] (fun k => w0.heap.size ≤ k ∧ k ≠ go ∧ k ≠ gb ∧ k ≠ ge) (fun k => some k = (.slice A22 list.length c22 : Value).ownBlock) rfl rfl ⟨.slice A22 list.length c22, rfl, Kd.R_lower (Kd.R_tight rfl HY.out) HS20.out⟩ (bl_okp H20.out HY.out) (bl_fresh H22.out) (bl_apart H20.out HY.out HYb.out) H22.out.bel (below_size H22.out.bel) (by have := HLO.out; omega) ?_
  intro v24 w24 ho hb hg hat
  have H24 := Aside0.mk (bl_box H22.out hg); have HO := Aside0.mk ho; have HB24 := Aside0.mk hb; have HG := Aside0.mk hg; have HAT := Aside0.mk hat; clear ho hb hg hat; obtain ⟨A24, c24, e24⟩ := Kd.S_slice HO.out; rw [show (outs ++ [list]).length = outs.length + 1 from by simp] at e24; subst e24
  refine hK.out _ _ ((blk_cell H24.out.1 0).trans rfl) (fun hHeld => ?_)
  clear hK K
  refine zn 17 ?_
  refine last_ (i := 6) (N := none) (zm 7 127) rfl rfl (by kernel_rfl) (by decide) (fun K hK => ?_)
  have co24 := (blk_cell H24.out.1 0).trans rfl; have fo24 := blk_frozen H24.out.1 0
  refine skip_ (w1 := ?_) (by rfl) rfl ?_ ?_
  rotate_left
  ·go_simp
   rfl
  refine hK.out _ _ ?_
  clear hK K co24 fo24
  refine done_ (by kernel_rfl) ?_
  have HF9 := Aside0.mk (BlW.store H22.out HG.out HO.out HB24.out); have HK24 := Aside0.mk (Kept.setCell (p := ⟨go, 0, none⟩) (Kept.of_grown HG.out (Kept.below HK20.out HYb.out) (fun k hk => .inl (.inr hk.symm))) (.inl (.inl rfl)) (.slice A24 (outs.length + 1) c24))
  go_wp2
  first | go_end0 | (simp only [Exit.inBlock, Exit.then]; refine bodyPost_ret (results_none rfl _ _ _) rfl ?_) | refine bodyPost_ret (results_none rfl _ _ _) rfl ?_
  refine ⟨by first | rfl | (simp; done), _, HF9.out, ?_, HK24.out⟩
  rcases HAT.out with h | ⟨b, h1, h2⟩
  ·exact .inl h
  ·exact .inr ⟨b, h1, by have := HYb.out.size; have := HZ20.out; omega⟩
 | succ m ih =>
  intro i Al cl list v outs w hi hll hm hlo hF hl
  have HLL := Aside0.mk (show list.length ≤ i ∧ i ≤ bs.length ∧ bs.length ≤ 1024 ∧ m + 1 ≤ bs.length from ⟨hll, hi, hbs, hm⟩); have HLO := Aside0.mk hlo; have HF := Aside0.mk hF; have HL := Aside0.mk hl; have IH := Aside0.mk ih; obtain ⟨M1, hM1⟩ : ∃ z : Int, ((m + 1 : Nat) : Int) = z := ⟨_, rfl⟩
  have hee : (M1 == 0) = false := by rw [beq_eq_false_iff_ne]; omega
  rw [hM1]; have HM1 := Aside0.mk (show M1 = (m : Int) + 1 from by omega); clear hM1; clear hF hl hi hll hm hlo ih
  go_enter Try.func116, Try.ntmps116
  go_wp2
  go_loopw [9] (fun v9 wr => ∃ (j : Nat) (vr : Value), v9 = .int .i64 (j : Int) ∧ Aside0 (i ≤ j ∧ (j = i ∨ j + m ≤ bs.length)) ∧ Aside0 (BlW w0 go gb ge A bs.length cp vr (outs ++ (List.range' i (j - i)).flatMap (fun j => combs bs m (list ++ [bs.getD j 0]) (j + 1))) wr) ∧ Aside0 (Kd.R (Kd.int .i64) 2 wr w0.heap.size (fun _ => True) (.slice Al list.length cl) list) ∧ Aside0 (vr.ownBlock = v.ownBlock ∨ ∃ b, vr.ownBlock = some b ∧ w.heap.size ≤ b) ∧ Aside0 (Kept w wr (fun k => k = go ∨ some k = v.ownBlock))) (fun v9 _ => (2000 - intOf v9).toNat)
  case atStart => exact ⟨i, v, rfl, ⟨by omega, by omega⟩, ⟨by rw [show i - i = 0 from by omega]; simpa using HF.out⟩, HL, ⟨.inl rfl⟩, ⟨Kept.refl _ _⟩⟩
  case round =>
   obtain ⟨j, vr, rfl, HJN, HFr, HLr, HAr, HKr⟩ := hrel; have cb : wr.cell? ⟨gb, 0, none⟩ = some (.slice A bs.length cp) := (blk_cell HFr.out.bb 0).trans rfl; have hjb := HJN.out; have hlb := HLL.out
   by_cases hc : j + (m + 1) ≤ bs.length
   ·have hcb : decide (wrap64 ((j : Int) + M1) ≤ (bs.length : Int)) = true := decide_eq_true (by have := HM1.out; unfold wrap64; omega)
    have HJM := Aside0.mk hc; obtain ⟨adB, hA, hx⟩ := Kd.at_int hrB (j : Int) (by omega) (by omega); subst hA; rw [Int.toNat_natCast, show rd bs (j : Int) = bs.getD j 0 from by show bs.getD (Int.toNat (j : Int)) 0 = _; rw [Int.toNat_natCast]] at hx; obtain ⟨b, hb⟩ : ∃ z, bs.getD j 0 = z := ⟨_, rfl⟩; rw [hb] at hx; have HBV := Aside0.mk hb; have HBJ := Aside0.mk hx; have p5 : (0 ≤ (j : Int)) = True := eq_true (by omega); have q5 : ((j : Int) < (bs.length : Int)) = True := eq_true (by omega)
    have e5 : wrap64 ((j : Int) + 1) = ((j + 1 : Nat) : Int) := by unfold wrap64; omega
    have e6 : wrap64 (M1 - 1) = (m : Int) := by have := HM1.out; unfold wrap64; omega
    clear hx hb hjb hlb
    go_wp2
    refine zs (fun w' => w'.cell? ⟨ge, 0, none⟩ = some (.func (.func 116) #[] #[.pointer (some ⟨go, 0, none⟩), .pointer (some ⟨gb, 0, none⟩), .pointer (some ⟨ge, 0, none⟩)]) ∧ w'.cell? ⟨gb, 0, none⟩ = some (.slice (some adB) bs.length cp) ∧ w'.cell? (adB.add j) = some (.int .i64 b)) [] 15 ⟨(blk_cell HFr.out.be 0).trans rfl, (blk_cell HFr.out.bb 0).trans rfl, (HFr.out.bel.cell (World.block_lt_of_cell? w0 _ HBJ.out)).trans HBJ.out⟩ (fun hHeld => ?_)
    have H20 := Aside0.mk (HFr.out.below (below_drew1 (Below.refl _ _))); have HL20 := Aside0.mk (Kd.C_below (Kd.R_reads' HLr.out).2.2 (below_drew1 (Below.refl _ _))); have HR20 := Aside0.mk (Kd.R_below HLr.out (below_drew1 (Below.refl _ _))); have HK20 := Aside0.mk (Kept.below HKr.out (below_drew1 (Below.refl _ _)))
    generalize wr.drew = w20 at H20 HL20 HR20 HK20 hHeld ⊢
    clear cb
    refine zp 2 29 ?_
    refine zp 5 32 ?_
    refine zp 10 37 ?_
    refine zp 11 38 ?_
    refine zp 12 39 ?_
    refine zp 13 40 ?_
    refine zt 0 27 hHeld ?_
    refine zt 4 31 hHeld ?_
    refine zp 6 33 ?_
    refine zt 7 34 hHeld ?_
    refine join_ (σ := Value × Value × Value) 2 (zm 15 15871) (fun s => [(28, s.1), (30, s.2.1), (35, s.2.2)]) (fun s w' => Kd.R (Kd.int .i64) 2 w' w20.heap.size (fun _ => True) s.2.1 list ∧ Kd.R (Kd.int .i64) 2 w' w20.heap.size (fun _ => True) s.2.2 [b] ∧ Below w20.heap.size w20 w') ?_ ?_
    rotate_left
    ·intro hCont
     refine two_ (i := 1) (j := 8) (Ni := some 28) (Nj := some 35) (zm 15 15607) (zm 15 15861) rfl rfl rfl rfl (by kernel_rfl) (by decide) (by decide) (fun K hK => ?_) (fun K hK => ?_)
     ·skip
      refine Kd.R_lit_step (Kd.int .i64) (w0 := w20) w20.heap.size 2 (by rfl) rfl (xs := []) (inner := []) (ok := fun k => w20.heap.size ≤ k) (okp := fun _ => False) (by first | (go_simp; done) | (go_simp; rfl)) (Reps.none _ _) (fun _ h => h.elim) (Nat.le_refl _) (Below.refl _ _) (Nat.le_refl _) (by simp) ?_
      intro v1 w1 ho hb hg hat
      have HA1 := Aside0.mk ho; have HA1b := Aside0.mk hb; clear ho hb hg hat; have H1 := Aside0.mk (H20.out.below HA1b.out); have HX1 := Aside0.mk HA1b.out
      refine hK.out _ _ ⟨(blk_cell H1.out.be 0).trans rfl, (blk_cell H1.out.bb 0).trans rfl, (H1.out.bel.cell (World.block_lt_of_cell? w0 _ HBJ.out)).trans HBJ.out⟩ (fun hHeld => ?_)
      clear hK K
      refine zn 28 ?_
      refine two_ (i := 3) (j := 8) (Ni := some 30) (Nj := some 35) (zm 15 15615) (zm 15 15863) rfl rfl rfl rfl (by kernel_rfl) (by decide) (by decide) (fun K hK => ?_) (fun K hK => ?_)
      ·skip
       refine Kd.R_append_rows_step (Kd.int .i64) (w0 := w20) w20.heap.size (by rfl) (.tmp 28) (.tmp 29) 31 2 (.int .i64 0) 8 rfl Try.underlying31 info2 rfl (by decide) (by omega) v1 [] list _ _ _ (fun k => w20.heap.size ≤ k) (fun _ => False) rfl rfl (HA1.out) (Kd.C_below HL20.out HX1.out) (fun _ _ h => h) (fun _ h => h.elim) (fun _ h => Nat.le_trans HX1.out.size h) HX1.out HX1.out.size (by have := HLL.out; simp; omega) ?_
       intro v13 w13 ho hb hg hat
       rw [List.nil_append] at ho; have HY13 := Aside0.mk ho; have HX13 := Aside0.mk hb; have H13 := Aside0.mk (H20.out.below hb); clear ho hb hg hat
       refine hK.out _ _ ⟨(blk_cell H13.out.be 0).trans rfl, (blk_cell H13.out.bb 0).trans rfl, (H13.out.bel.cell (World.block_lt_of_cell? w0 _ HBJ.out)).trans HBJ.out⟩ (fun hHeld => ?_)
       clear hK K
       refine zn 30 ?_
       refine zo 8 (some 35) (fun K hK => ?_)
       refine Kd.R_lit_step (Kd.int .i64) (w0 := w13) w13.heap.size 2 (by rfl) rfl (xs := [b]) (inner := [.int .i64 b]) (ok := fun k => w13.heap.size ≤ k) (okp := fun _ => False) (by first | (go_simp; done) | (go_simp; rfl)) (bl_reps1 rfl) (fun _ h => h.elim) (Nat.le_refl _) (Below.refl _ _) (Nat.le_refl _) (by simp) ?_
       intro v138 w138 ho hb hg hat
       have HQ138 := Aside0.mk ho; have HQ138b := Aside0.mk hb; clear ho hb hg hat; have H138 := Aside0.mk (H13.out.below HQ138b.out); have HX138 := Aside0.mk (below_step HX13.out HQ138b.out)
       refine hK.out _ _ ⟨(blk_cell H138.out.be 0).trans rfl, (blk_cell H138.out.bb 0).trans rfl, (H138.out.bel.cell (World.block_lt_of_cell? w0 _ HBJ.out)).trans HBJ.out⟩ (fun hHeld => ?_)
       clear hK K
       refine zn 35 ?_
       exact norm_ (by simp only [putAll, Act.put, List.setIfInBounds_toArray, List.set_cons_zero, List.set_cons_succ]) (hCont (v1, v13, v138) _ ⟨Kd.R_mono (Kd.R_below HY13.out HQ138b.out) (fun _ _ => trivial), Kd.R_mono (Kd.R_lower HQ138.out HX13.out.size) (fun _ _ => trivial), HX138.out⟩)
      ·skip
       refine Kd.R_lit_step (Kd.int .i64) (w0 := w1) w1.heap.size 2 (by rfl) rfl (xs := [b]) (inner := [.int .i64 b]) (ok := fun k => w1.heap.size ≤ k) (okp := fun _ => False) (by first | (go_simp; done) | (go_simp; rfl)) (bl_reps1 rfl) (fun _ h => h.elim) (Nat.le_refl _) (Below.refl _ _) (Nat.le_refl _) (by simp) ?_
       intro v18 w18 ho hb hg hat
       have HQ18 := Aside0.mk ho; have HQ18b := Aside0.mk hb; clear ho hb hg hat; have H18 := Aside0.mk (H1.out.below HQ18b.out); have HX18 := Aside0.mk (below_step HX1.out HQ18b.out)
       refine hK.out _ _ ⟨(blk_cell H18.out.be 0).trans rfl, (blk_cell H18.out.bb 0).trans rfl, (H18.out.bel.cell (World.block_lt_of_cell? w0 _ HBJ.out)).trans HBJ.out⟩ (fun hHeld => ?_)
       clear hK K
       refine zn 35 ?_
       refine zo 3 (some 30) (fun K hK => ?_)
       refine Kd.R_append_rows_step (Kd.int .i64) (w0 := w20) w20.heap.size (by rfl) (.tmp 28) (.tmp 29) 31 2 (.int .i64 0) 8 rfl Try.underlying31 info2 rfl (by decide) (by omega) v1 [] list _ _ _ (fun k => w20.heap.size ≤ k) (fun _ => False) rfl rfl ((Kd.R_below HA1.out HQ18b.out)) (Kd.C_below HL20.out HX18.out) (fun _ _ h => h) (fun _ h => h.elim) (fun _ h => Nat.le_trans HX18.out.size h) HX18.out HX18.out.size (by have := HLL.out; simp; omega) ?_
       intro v183 w183 ho hb hg hat
       rw [List.nil_append] at ho; have HY183 := Aside0.mk ho; have HX183 := Aside0.mk hb; have H183 := Aside0.mk (H20.out.below hb); have HQ183 := Aside0.mk (Kd.R_grown HQ18.out hg (fun k hk e => by have := Kd.R_lt HA1.out k e.symm; omega)); clear ho hb hg hat
       refine hK.out _ _ ⟨(blk_cell H183.out.be 0).trans rfl, (blk_cell H183.out.bb 0).trans rfl, (H183.out.bel.cell (World.block_lt_of_cell? w0 _ HBJ.out)).trans HBJ.out⟩ (fun hHeld => ?_)
       clear hK K
       refine zn 30 ?_
       exact norm_ (by simp only [putAll, Act.put, List.setIfInBounds_toArray, List.set_cons_zero, List.set_cons_succ]) (hCont (v1, v183, v18) _ ⟨Kd.R_mono HY183.out (fun _ _ => trivial), Kd.R_mono (Kd.R_lower HQ183.out HX1.out.size) (fun _ _ => trivial), HX183.out⟩)
     ·skip
      refine Kd.R_lit_step (Kd.int .i64) (w0 := w20) w20.heap.size 2 (by rfl) rfl (xs := [b]) (inner := [.int .i64 b]) (ok := fun k => w20.heap.size ≤ k) (okp := fun _ => False) (by first | (go_simp; done) | (go_simp; rfl)) (bl_reps1 rfl) (fun _ h => h.elim) (Nat.le_refl _) (Below.refl _ _) (Nat.le_refl _) (by simp) ?_
      intro v8 w8 ho hb hg hat
      have HQ8 := Aside0.mk ho; have HQ8b := Aside0.mk hb; clear ho hb hg hat; have H8 := Aside0.mk (H20.out.below HQ8b.out)
      refine hK.out _ _ ⟨(blk_cell H8.out.be 0).trans rfl, (blk_cell H8.out.bb 0).trans rfl, (H8.out.bel.cell (World.block_lt_of_cell? w0 _ HBJ.out)).trans HBJ.out⟩ (fun hHeld => ?_)
      clear hK K
      refine zn 35 ?_
      refine zo 1 (some 28) (fun K hK => ?_)
      refine Kd.R_lit_step (Kd.int .i64) (w0 := w8) w8.heap.size 2 (by rfl) rfl (xs := []) (inner := []) (ok := fun k => w8.heap.size ≤ k) (okp := fun _ => False) (by first | (go_simp; done) | (go_simp; rfl)) (Reps.none _ _) (fun _ h => h.elim) (Nat.le_refl _) (Below.refl _ _) (Nat.le_refl _) (by simp) ?_
      intro v81 w81 ho hb hg hat
      have HA81 := Aside0.mk ho; have HA81b := Aside0.mk hb; clear ho hb hg hat; have H81 := Aside0.mk (H8.out.below HA81b.out); have HQ81 := Aside0.mk (Kd.R_below HQ8.out HA81b.out); have HX81 := Aside0.mk (below_step HQ8b.out HA81b.out)
      refine hK.out _ _ ⟨(blk_cell H81.out.be 0).trans rfl, (blk_cell H81.out.bb 0).trans rfl, (H81.out.bel.cell (World.block_lt_of_cell? w0 _ HBJ.out)).trans HBJ.out⟩ (fun hHeld => ?_)
      clear hK K
      refine zn 28 ?_
      refine zo 3 (some 30) (fun K hK => ?_)
      refine Kd.R_append_rows_step (Kd.int .i64) (w0 := w20) w20.heap.size (by rfl) (.tmp 28) (.tmp 29) 31 2 (.int .i64 0) 8 rfl Try.underlying31 info2 rfl (by decide) (by omega) v81 [] list _ _ _ (fun k => w20.heap.size ≤ k) (fun _ => False) rfl rfl (Kd.R_lower (Kd.R_mono HA81.out (fun k hk => Nat.le_trans HQ8b.out.size hk)) HQ8b.out.size) (Kd.C_below HL20.out HX81.out) (fun _ _ h => h) (fun _ h => h.elim) (fun _ h => Nat.le_trans HX81.out.size h) HX81.out HX81.out.size (by have := HLL.out; simp; omega) ?_
      intro v813 w813 ho hb hg hat
      rw [List.nil_append] at ho; have HY813 := Aside0.mk ho; have HX813 := Aside0.mk hb; have H813 := Aside0.mk (H20.out.below hb); have HQ813 := Aside0.mk (Kd.R_grown (Kd.R_tight rfl HQ81.out) hg (fun k hk e => by have := Kd.R_lt HQ8.out k hk.symm; have := Kd.R_base HA81.out k e.symm; omega)); clear ho hb hg hat
      refine hK.out _ _ ⟨(blk_cell H813.out.be 0).trans rfl, (blk_cell H813.out.bb 0).trans rfl, (H813.out.bel.cell (World.block_lt_of_cell? w0 _ HBJ.out)).trans HBJ.out⟩ (fun hHeld => ?_)
      clear hK K
      refine zn 30 ?_
      exact norm_ (by simp only [putAll, Act.put, List.setIfInBounds_toArray, List.set_cons_zero, List.set_cons_succ]) (hCont (v81, v813, v8) _ ⟨Kd.R_mono HY813.out (fun _ _ => trivial), Kd.R_mono HQ813.out (fun _ _ => trivial), HX813.out⟩)
    rintro ⟨ve_, vy_, vq_⟩ wj ⟨hy_, hq_, hx_⟩
    dsimp only at hy_ hq_
    have HY := Aside0.mk hy_; have HQ := Aside0.mk hq_; have HX := Aside0.mk hx_; have HJ := Aside0.mk (H20.out.below hx_); clear hy_ hq_ hx_; obtain ⟨AQ, cQ, eQ⟩ := Kd.R_slice HQ.out; subst eQ; have hHeld : wj.cell? ⟨ge, 0, none⟩ = some (.func (.func 116) #[] #[.pointer (some ⟨go, 0, none⟩), .pointer (some ⟨gb, 0, none⟩), .pointer (some ⟨ge, 0, none⟩)]) ∧ wj.cell? ⟨gb, 0, none⟩ = some (.slice (some adB) bs.length cp) ∧ wj.cell? (adB.add j) = some (.int .i64 b) := ⟨(blk_cell HJ.out.be 0).trans rfl, (blk_cell HJ.out.bb 0).trans rfl, (HJ.out.bel.cell (World.block_lt_of_cell? w0 _ HBJ.out)).trans HBJ.out⟩
    refine norm_ (a' := ?_) ?_ ?_
    rotate_left
    ·simp only [putAll, Act.put, List.setIfInBounds_toArray, List.set_cons_zero, List.set_cons_succ]
     rfl
    refine zo 9 (some 36) (fun K hK => ?_)
    refine Kd.R_append_rows_step (Kd.int .i64) (w0 := w20) w20.heap.size (by rfl) (.tmp 30) (.tmp 35) 31 2 (.int .i64 0) 8 rfl Try.underlying31 info2 rfl (by decide) (by omega) vy_ list [b] _ _ _ (fun _ => True) (fun _ => False) rfl rfl HY.out (Kd.R_reads' HQ.out).2.2 (fun _ _ h => h) (fun _ h => h.elim) (fun _ _ => trivial) HX.out HX.out.size (by have := HLL.out; simp; omega) ?_
    intro v9 w9 ho hb hg hat
    have HZ := Aside0.mk ho; have HXZ := Aside0.mk hb; have H9 := Aside0.mk (H20.out.below hb); clear ho hb hg hat; obtain ⟨AZ, cZ, eZ⟩ := Kd.R_slice HZ.out
    have hLZ : (list ++ [b]).length = list.length + 1 := by simp
    rw [hLZ] at eZ; subst eZ; have HLZ := Aside0.mk hLZ; clear hLZ
    refine hK.out _ _ ⟨(blk_cell H9.out.be 0).trans rfl, (blk_cell H9.out.bb 0).trans rfl, (H9.out.bel.cell (World.block_lt_of_cell? w0 _ HBJ.out)).trans HBJ.out⟩ (fun hHeld => ?_)
    clear hK K
    refine zn 36 ?_
    refine zo 14 (some 41) (fun K hK => ?_)
    refine call_ 116 #[.slice AZ (list.length + 1) cZ, .int .i64 ((j + 1 : Nat) : Int), .int .i64 (m : Int), .pointer (some ⟨go, 0, none⟩), .pointer (some ⟨gb, 0, none⟩), .pointer (some ⟨ge, 0, none⟩)] (by rfl) rfl (by go_simp; first | rfl | (simp; done) | skip) ?_
    have ih_ := IH.out (j + 1) AZ cZ (list ++ [b]) vr _ w9 (by have := HJM.out; omega) (by have := HLL.out; have := HJN.out; rw [HLZ.out]; omega) (by have := HLL.out; omega) (by rw [← HBV.out]; have := combs_part (bs := bs) (list := list) HJN.out.1 (show j + m + 1 ≤ bs.length from by have := HJM.out; omega); have := HLO.out; rw [List.length_append]; omega) H9.out (by rw [HLZ.out]; exact Kd.R_lower HZ.out (below_size H20.out.bel)); rw [HLZ.out] at ih_
    refine ih_.mono ?_
    clear ih_
    rintro e w25 ⟨rfl, v25, H25_, hat25, hk25⟩
    refine ⟨_, rfl, ?_⟩
    have H25 := Aside0.mk H25_; have HAT25 := Aside0.mk hat25; have HK25 := Aside0.mk hk25; clear H25_ hat25 hk25
    refine hK.out _ _ ⟨(blk_cell H25.out.be 0).trans rfl, (blk_cell H25.out.bb 0).trans rfl, (H25.out.bel.cell (World.block_lt_of_cell? w0 _ HBJ.out)).trans HBJ.out⟩ (fun hHeld => ?_)
    clear hK K
    refine zn 41 ?_
    refine done_ (by kernel_rfl) ?_
    go_wp2
    go_roundw
    case rel =>
     refine ⟨j + 1, v25, by first | rfl | (simp; omega) | (congr 1; omega), ⟨by have := HJN.out; omega, by have := HJM.out; omega⟩, ⟨?_⟩, ⟨?_⟩, ⟨?_⟩, ⟨?_⟩⟩
     ·rw [combs_next HJN.out.1, HBV.out, ← List.append_assoc]
      exact H25.out
     ·exact bl_list H9.out (Kd.R_below HR20.out HXZ.out) HK25.out
     ·rcases HAT25.out with h | ⟨b', h1, h2⟩
      ·rw [h]; exact HAr.out
      ·exact .inr ⟨b', h1, by have := HK20.out.1; have := HXZ.out.size; omega⟩
     ·exact Kept.then_ (Kept.below HK20.out HXZ.out) HK25.out (fun k hk => by
       rcases hk with hk | hk
       ·exact .inl (.inl hk)
       ·rcases HAr.out with h | ⟨b', h1, h2⟩
        ·exact .inl (.inr (by rw [hk, h]))
        ·refine .inr ?_
         rw [h1] at hk
         injection hk with hk
         omega)
    case measure => have := HJM.out; have := HLL.out; simp [intOf]; omega
   ·have hcb : decide (wrap64 ((j : Int) + M1) ≤ (bs.length : Int)) = false := decide_eq_false (by have := HM1.out; unfold wrap64; omega)
    have hq : j - i = bs.length - m - i := by omega
    clear hjb hlb
    go_wp2
    first | go_end0 | (simp only [Exit.inBlock, Exit.then]; refine bodyPost_ret (results_none rfl _ _ _) rfl ?_) | refine bodyPost_ret (results_none rfl _ _ _) rfl ?_
    have h := HFr.out; rw [hq] at h
    exact ⟨by first | rfl | (simp; done), vr, h, HAr.out, HKr.out⟩
/-! by hand: impl.barLists -/
def barsOf (bs : List Int) : List (List Int) := (List.range (bs.length + 1)).flatMap (fun n => combs bs n [] 0)
def impl_barLists.f (k : Nat) (l0 : List Int) : Option (List (List Int)) := if l0.length ≤ 1024 ∧ (barsOf l0).length ≤ 1048576 then some (barsOf l0) else none
theorem impl_barLists.mono : ∀ a0 k, LeO (impl_barLists.f k a0) (impl_barLists.f (k + 1) a0) := fun _ _ => LeO.refl _
theorem bars_part {bs : List Int} {n : Nat} (h : n ≤ bs.length) : ((List.range n).flatMap (fun n => combs bs n [] 0)).length + (combs bs n [] 0).length ≤ (barsOf bs).length := by
 unfold barsOf
 rw [show bs.length + 1 = n + (1 + (bs.length - n)) from by omega, List.range_eq_range', List.range_eq_range', ← List.range'_append_1, ← List.range'_append_1, List.flatMap_append, List.flatMap_append]
 simp only [List.length_append, Nat.zero_add]
 rw [show List.range' n 1 = [n] from rfl, List.flatMap_cons, List.flatMap_nil, List.append_nil]
 omega
theorem bl_meas {n : Nat} {z : Int} (e : z = ((n + 1 : Nat) : Int)) (h : n ≤ 1024) : (2000 - z).toNat < (2000 - (n : Int)).toNat := by omega
theorem bl_meas2 {n : Nat} {z : Int} (e : z = ((n + 1 : Nat) : Int)) (h : n ≤ 1024) : (2000 - intOf (.int .i64 z)).toNat < (2000 - intOf (.int .i64 (n : Int))).toNat := bl_meas e h
theorem bars_next (bs : List Int) (n : Nat) : (List.range (n + 1)).flatMap (fun n => combs bs n [] 0) = (List.range n).flatMap (fun n => combs bs n [] 0) ++ combs bs n [] 0 := by
 rw [List.range_succ, List.flatMap_append, List.flatMap_cons, List.flatMap_nil, List.append_nil]
set_option maxHeartbeats 8000000 in
set_option maxRecDepth 100000 in
theorem impl_barLists.calls (k : Nat) (A0 : Option Addr) (c0 : Nat) (l0 : List Int) (r : List (List Int)) (w : World) (hr0 : Kd.C (Kd.int .i64) w A0 l0.length l0) (hc0 : l0.length ≤ c0) (h : impl_barLists.f k l0 = some r) :
  Calls Try.prog 68 #[.slice A0 l0.length c0] w fun e w' => ∃ v0_ : Value, e = .returned (v0_) ∧ Kd.S (Kd.slice 2 (Kd.int .i64)) 31 w' w.heap.size (fun _ => True) v0_ r ∧ Below w.heap.size w w' := by
 unfold impl_barLists.f at h
 by_cases hg : l0.length ≤ 1024 ∧ (barsOf l0).length ≤ 1048576
 ·rw [if_pos hg] at h
  obtain rfl := Option.some.inj h; clear h; have HG := Aside0.mk hg; have HR := Aside0.mk hr0; have HC := Aside0.mk hc0; clear hg hr0 hc0
  go_enter Try.func68, Try.ntmps68
  go_wp2_with (first
   | ((with_reducible refine gate_dst (N := 1) rfl ?_); refine zbx (N := 1) (cs := #[.slice A0 l0.length c0]) (t := 31) ?_; intro g1 hg1 w1 hb1 hl1; have B1 := Aside0.mk hb1; have HB1 := Aside0.mk hl1; have G1 := Aside0.mk hg1; clear hb1 hl1 hg1)
   | ((with_reducible refine gate_dst (N := 6) rfl ?_); refine Kd.S_lit (Kd.slice 2 (Kd.int .i64)) (w0 := w) w.heap.size 31 rfl rfl (xs := []) (inner := []) (ok := fun k => k = w1.heap.size) (okp := fun _ => False) ?hr (Reps.none _ _) (fun _ h => h.elim) rfl HB1.out HB1.out.size (by simp) ?_; (case hr => first | (go_simp; done) | (go_simp; rfl)); intro v2 w2 ho2 hb2 hgr2 hat2; obtain ⟨A2, c2, e2⟩ := Kd.S_slice ho2; subst e2; have B2 := Aside0.mk (blk_grown B1.out hgr2 (by simp)); have HS2 := Aside0.mk ho2; have HB2 := Aside0.mk hb2; have HA2 := Aside0.mk hat2; have HW2 := Aside0.mk hgr2.size; clear ho2 hb2 hgr2 hat2)
   | ((with_reducible refine gate_dst (N := 3) rfl ?_); refine zbx (N := 3) (cs := #[.slice none 0 0]) (t := 88) ?_; intro g3 hg3 w3 hb3 hl3; have B3 := Aside0.mk (blk_below B2.out hl3); have O3 := Aside0.mk hb3; have HS3 := Aside0.mk (Kd.S_below HS2.out hl3); have HB3 := Aside0.mk (below_step HB2.out hl3); have G3 := Aside0.mk hg3; have co3 : w3.cell? ⟨g3, 0, none⟩ = some (.slice none 0 0) := (blk_cell hb3 0).trans rfl; have fo3 := blk_frozen hb3 0; clear hb3 hl3 hg3)
   | ((with_reducible refine gate_store (t := 88) (p := 3) rfl ?_); refine store_event (t := 88) (p := 3) (v := ?vo_w4) (w1 := (w3.setCell ⟨g3, 0, none⟩ (.slice A2 0 c2))) ?hg ?ho ?hn ?hr ?_; (case ho => rfl); (case hg => rfl); (case hn => rfl); (case hr => first | (go_simp; done) | (go_simp; rfl)); intro w4 hw4; have B4 := Aside0.mk (show w4.heap[g1]? = some (.cells #[.slice A0 l0.length c0] 31 (0, 0)) from by rw [hw4]; exact (Below.heap_setCell w3 ⟨g3, 0, none⟩ _ g1 (fun e => by have := G3.out; have := blk_lt B2.out; simp at e; omega)).trans B3.out); have O4 := Aside0.mk (show w4.heap[g3]? = some (.cells #[.slice A2 0 c2] 88 (0, 0)) from by rw [hw4]; exact blk_put (cs := #[.slice none 0 0]) O3.out 0 _ rfl); have HS4 := Aside0.mk (show Kd.S (Kd.slice 2 (Kd.int .i64)) 31 w4 w.heap.size (fun k => k = w1.heap.size) (.slice A2 0 c2) [] from by rw [hw4]; exact Kd.S_far HS3.out (fun k hk => by have := G3.out; have := HW2.out; simp; obtain ⟨b, hb1, hb2⟩ := HA2.out; have := Kd.S_lt HS2.out b hb1; omega) _); have HB4 := Aside0.mk (show Below w.heap.size w w4 from by rw [hw4]; exact below_set HB3.out (by have := G3.out; have := HB2.out.size; omega)); clear hw4 co3 fo3)
   | ((with_reducible refine gate_dst (N := 4) rfl ?_); refine zbx (N := 4) (cs := #[.nilFunc]) (t := 136) ?_; intro g5 hg5 w5 hb5 hl5; have B5 := Aside0.mk (blk_below B4.out hl5); have O5 := Aside0.mk (blk_below O4.out hl5); have E5 := Aside0.mk hb5; have HS5 := Aside0.mk (Kd.S_below HS4.out hl5); have HB5 := Aside0.mk (below_step HB4.out hl5); have G5 := Aside0.mk hg5; have ce5 : w5.cell? ⟨g5, 0, none⟩ = some .nilFunc := (blk_cell hb5 0).trans rfl; have fe5 := blk_frozen hb5 0; clear hb5 hl5 hg5)
   | (
     (with_reducible refine gate_store (t := 136) (p := 4) rfl ?_); refine store_event (t := 136) (p := 4) (v := ?vo_w6) (w1 := (w5.setCell ⟨g5, 0, none⟩ (.func (.func 116) #[] #[.pointer (some ⟨g3, 0, none⟩), .pointer (some ⟨g1, 0, none⟩), .pointer (some ⟨g5, 0, none⟩)]))) ?hg ?ho ?hn ?hr ?_; (case ho => rfl); (case hg => rfl); (case hn => rfl); (case hr => first | (go_simp; done) | (go_simp; rfl)); intro w6 hw6
     have hgs : g1 < w1.heap.size ∧ w1.heap.size < g3 ∧ g3 < g5 ∧ w.heap.size ≤ g1 := by
      have h1 := blk_lt B1.out; have h2 := G3.out; have h3 := blk_lt O4.out; have h4 := G5.out; have h5 := G1.out; obtain ⟨b, hb1, hb2⟩ := HA2.out; have h6 := Kd.S_lt HS2.out b hb1
      omega
     have HF6 := Aside0.mk (show BlW w g3 g1 g5 A0 l0.length c0 (.slice A2 0 c2) [] w6 from by
      rw [hw6]
      refine ⟨?_, ?_, blk_put (cs := #[.nilFunc]) E5.out 0 _ rfl, ?_, below_set HB5.out (by omega), ⟨by omega, by omega, by omega⟩, ⟨by omega, by omega⟩⟩
      ·exact (Below.heap_setCell w5 ⟨g5, 0, none⟩ _ g3 (fun e => by simp at e; omega)).trans O5.out
      ·exact (Below.heap_setCell w5 ⟨g5, 0, none⟩ _ g1 (fun e => by simp at e; omega)).trans B5.out
      ·exact Kd.S_mono (Kd.S_far HS5.out (fun k hk => by simp; omega) _) (fun k hk => ⟨by omega, by omega, by omega, by omega⟩))
     clear hw6 ce5 fe5 hgs))
  clear B1 B2 B3 B4 B5 O3 O4 O5 E5 HS2 HS3 HS4 HS5 HB1 HB2 HB3 HB4 HB5 HA2 HW2 G1 G3 G5
  go_loopw [5] (fun v5 wr => ∃ (n : Nat) (vr : Value), v5 = .int .i64 (n : Int) ∧ Aside0 (n ≤ l0.length + 1) ∧ Aside0 (BlW w g3 g1 g5 A0 l0.length c0 vr ((List.range n).flatMap (fun n => combs l0 n [] 0)) wr)) (fun v5 _ => (2000 - intOf v5).toNat)
  case atStart => exact ⟨0, _, rfl, ⟨by omega⟩, HF6⟩
  case round =>
   obtain ⟨n, vr, rfl, HN, HF⟩ := hrel; have cb : wr.cell? ⟨g1, 0, none⟩ = some (.slice A0 l0.length c0) := (blk_cell HF.out.bb 0).trans rfl; have ce : wr.cell? ⟨g5, 0, none⟩ = some (.func (.func 116) #[] #[.pointer (some ⟨g3, 0, none⟩), .pointer (some ⟨g1, 0, none⟩), .pointer (some ⟨g5, 0, none⟩)]) := (blk_cell HF.out.be 0).trans rfl; have co : wr.cell? ⟨g3, 0, none⟩ = some vr := (blk_cell HF.out.bo 0).trans rfl
   by_cases hc : n ≤ l0.length
   ·have hcb : decide ((n : Int) ≤ (l0.length : Int)) = true := decide_eq_true (by omega)
    have hcc : decide (n ≤ l0.length) = true := decide_eq_true hc; have HNL := Aside0.mk hc
    have e5 : wrap64 ((n : Int) + 1) = ((n + 1 : Nat) : Int) := by have := HG.out.1; unfold wrap64; omega
    clear hc
    go_wp2_with (first
     | (go_at_call 116; refine calls_of_args (args' := #[.slice none ([] : List Int).length 0, .int .i64 ((0 : Nat) : Int), .int .i64 (n : Int), .pointer (some ⟨g3, 0, none⟩), .pointer (some ⟨g1, 0, none⟩), .pointer (some ⟨g5, 0, none⟩)]) (by first | rfl | simp) ?_; refine (barLists1_calls w g3 g1 g5 A0 c0 l0 HG.out.1 HR.out n 0 none 0 [] vr _ wr (by omega) (by simp) HNL.out (by have := bars_part (bs := l0) HNL.out; have := HG.out; omega) HF.out (Kd.R_nil _ _ _ _ _)).mono ?_; rintro e w9 ⟨rfl, v9, hF9, _, _⟩; have HF9 := Aside0.mk hF9; clear hF9))
    go_roundw
    case rel => exact ⟨n + 1, v9, by first | rfl | (simp; omega) | (congr 1; omega), ⟨by have := HNL.out; omega⟩, ⟨by rw [bars_next]; exact HF9.out⟩⟩
    case measure => exact bl_meas2 e5 (Nat.le_trans HNL.out HG.out.1)
   ·have hcb : decide ((n : Int) ≤ (l0.length : Int)) = false := decide_eq_false (by omega)
    have hcc : decide (n ≤ l0.length) = false := decide_eq_false (by omega)
    have hn : n = l0.length + 1 := by have := HN.out; omega
    clear hc
    go_wp2
    go_ret
    subst hn
    exact ⟨vr, by first | rfl | (simp; done), Kd.S_mono HF.out.os (fun _ _ => trivial), HF.out.bel⟩
 ·rw [if_neg hg] at h
  cases h

/-! ### impl_pullOf: function 94 -/
/-! by hand: impl.pullOf -/
def impl_pullOf.f (l0_0 : List (S164)) (l0_1 : List (S115)) (a1_0 : Int) (a1_1 : Int) (a1_2 : Bool) (a2 : Int) : Option (Int × Int) := if 0 ≤ a1_1 then (if a1_1 < (l0_0.length : Int) then (if 0 ≤ a1_0 then (if a1_0 < (l0_0.length : Int) then (if a2 = a1_0 then (some (wrap64 (((rd_T164 l0_0 a1_1).f0) - ((rd_T164 l0_0 a1_0).f0)), wrap64 (((rd_T164 l0_0 a1_1).f1) - ((rd_T164 l0_0 a1_0).f1)))) else (if a2 = a1_1 then (some (wrap64 (-(wrap64 (((rd_T164 l0_0 a1_1).f0) - ((rd_T164 l0_0 a1_0).f0)))), wrap64 (-(wrap64 (((rd_T164 l0_0 a1_1).f1) - ((rd_T164 l0_0 a1_0).f1)))))) else (some (0, 0)))) else (none)) else (none)) else (none)) else (none)
set_option maxHeartbeats 8000000 in
set_option maxRecDepth 100000 in
theorem impl_pullOf.calls (A0_0 : Option Addr) (c0_0 : Nat) (l0_0 : List (S164)) (A0_1 : Option Addr) (c0_1 : Nat) (l0_1 : List (S115)) (a1_0 : Int) (a1_1 : Int) (a1_2 : Bool) (a2 : Int) (r1 : Int) (r2 : Int) (w : World) (hr0_0 : Kd.C k164 w A0_0 l0_0.length l0_0) (hc0_0 : l0_0.length ≤ c0_0) (hr0_1 : Kd.C k115 w A0_1 l0_1.length l0_1) (hc0_1 : l0_1.length ≤ c0_1) (h : impl_pullOf.f l0_0 l0_1 a1_0 a1_1 a1_2 a2 = some (r1, r2)) :
  Calls Try.prog 94 #[.agg #[.slice A0_0 l0_0.length c0_0, .slice A0_1 l0_1.length c0_1], .agg #[.int .i64 a1_0, .int .i64 a1_1, .bool a1_2], .int .i64 a2] w fun e w' => e = .returned (.tuple #[.int .i64 r1, .int .i64 r2]) ∧ Below w.heap.size w w' := by
 have hu27 := Try.underlying27
 have hu115 := Try.underlying115
 unfold impl_pullOf.f at h
 by_cases c1 : 0 ≤ a1_1 ∧ a1_1 < (l0_0.length : Int)
 ·rw [if_pos c1.1, if_pos c1.2] at h
  by_cases c2 : 0 ≤ a1_0 ∧ a1_0 < (l0_0.length : Int)
  ·rw [if_pos c2.1, if_pos c2.2] at h
   obtain ⟨ad, ea, hx0, hy0, _⟩ := at_T164 hr0_0 a1_0 c2.1 c2.2; subst ea; obtain ⟨ad', ea, hx1, hy1, _⟩ := at_T164 hr0_0 a1_1 c1.1 c1.2; obtain rfl := Option.some.inj ea
   generalize (rd_T164 l0_0 a1_0).f0 = x0 at h hx0
   generalize (rd_T164 l0_0 a1_0).f1 = y0 at h hy0
   generalize (rd_T164 l0_0 a1_1).f0 = x1 at h hx1
   generalize (rd_T164 l0_0 a1_1).f1 = y1 at h hy1
   have p1 : (0 ≤ a1_1) = True := eq_true c1.1; have q1 : (a1_1 < (l0_0.length : Int)) = True := eq_true c1.2; have p2 : (0 ≤ a1_0) = True := eq_true c2.1; have q2 : (a1_0 < (l0_0.length : Int)) = True := eq_true c2.2; have H := Aside0.mk h; clear c1 c2 h hr0_0 hc0_0 hr0_1 hc0_1
   go_enter Try.func94, Try.ntmps94
   go_wp2_with (first
    | ((with_reducible refine gate_dst (N := 3) rfl ?_); refine zbx (N := 3) (cs := #[.slice (some ad) l0_0.length c0_0, .slice A0_1 l0_1.length c0_1]) (t := 27) ?_; intro g3 hg w3 hbox hb; have HB3 := Aside0.mk hb; have B3 := Aside0.mk hbox; clear hb hbox hg)
    | ((with_reducible refine gate_dst (N := 4) rfl ?_); refine zbx (N := 4) (cs := #[.int .i64 a1_0, .int .i64 a1_1, .bool a1_2]) (t := 115) ?_; intro g4 hg w4 hbox hb; have HB4 := Aside0.mk (below_step HB3.out hb); have b3 : w4.cell? ⟨g3, 0, none⟩ = some (.slice (some ad) l0_0.length c0_0) := (blk_cell (blk_below B3.out hb) 0).trans rfl; have b40 : w4.cell? ⟨g4, 0, none⟩ = some (.int .i64 a1_0) := (blk_cell hbox 0).trans rfl; have b41 : w4.cell? ⟨g4, 1, none⟩ = some (.int .i64 a1_1) := (blk_cell hbox 1).trans rfl; clear hb hbox hg))
   replace hx0 := (HB4.out.cell (World.block_lt_of_cell? w _ hx0)).trans hx0; replace hx1 := (HB4.out.cell (World.block_lt_of_cell? w _ hx1)).trans hx1; replace hy0 := (HB4.out.cell (World.block_lt_of_cell? w _ hy0)).trans hy0; replace hy1 := (HB4.out.cell (World.block_lt_of_cell? w _ hy1)).trans hy1
   refine zs (fun w' => w'.cell? ⟨g3, 0, none⟩ = some (.slice (some ad) l0_0.length c0_0) ∧ w'.cell? ⟨g4, 0, none⟩ = some (.int .i64 a1_0) ∧ w'.cell? ⟨g4, 1, none⟩ = some (.int .i64 a1_1) ∧ w'.cell? (ad.add (a1_1.toNat * 3)) = some (.int .i64 x1) ∧ w'.cell? (ad.add (a1_0.toNat * 3)) = some (.int .i64 x0)) [] 16 ⟨b3, b40, b41, hx1, hx0⟩ (fun hHeld => ?_)
   refine zp 0 10 ?_
   refine zp 2 12 ?_
   refine zp 7 17 ?_
   refine zp 9 19 ?_
   refine zt 1 11 hHeld ?_
   refine zt 3 13 hHeld ?_
   refine zp 4 14 ?_
   refine zp 5 15 ?_
   refine zt 6 16 hHeld ?_
   refine zt 8 18 hHeld ?_
   refine zt 10 20 hHeld ?_
   refine zp 11 21 ?_
   refine zp 12 22 ?_
   refine zt 13 23 hHeld ?_
   refine zp 14 24 ?_
   refine zp 15 8 ?_
   refine done_ (by kernel_rfl) ?_
   try go_wp2
   refine zs (fun w' => w'.cell? ⟨g3, 0, none⟩ = some (.slice (some ad) l0_0.length c0_0) ∧ w'.cell? ⟨g4, 0, none⟩ = some (.int .i64 a1_0) ∧ w'.cell? ⟨g4, 1, none⟩ = some (.int .i64 a1_1) ∧ w'.cell? ⟨(ad.add (a1_1.toNat * 3)).block, (ad.add (a1_1.toNat * 3)).off + 1, none⟩ = some (.int .i64 y1) ∧ w'.cell? ⟨(ad.add (a1_0.toNat * 3)).block, (ad.add (a1_0.toNat * 3)).off + 1, none⟩ = some (.int .i64 y0)) [] 16 ⟨b3, b40, b41, hy1, hy0⟩ (fun hHeld => ?_)
   refine zp 0 25 ?_
   refine zp 2 27 ?_
   refine zp 7 32 ?_
   refine zp 9 34 ?_
   refine zt 1 26 hHeld ?_
   refine zt 3 28 hHeld ?_
   refine zp 4 29 ?_
   refine zp 5 30 ?_
   refine zt 6 31 hHeld ?_
   refine zt 8 33 hHeld ?_
   refine zt 10 35 hHeld ?_
   refine zp 11 36 ?_
   refine zp 12 37 ?_
   refine zt 13 38 hHeld ?_
   refine zp 14 39 ?_
   refine zp 15 9 ?_
   refine done_ (by kernel_rfl) ?_
   have h := H.out; clear H hx0 hx1 hy0 hy1 b3 p1 q1 p2 q2
   by_cases c3 : a2 = a1_0
   ·rw [if_pos c3] at h
    simp only [Option.some.injEq, Prod.mk.injEq] at h
    obtain ⟨rfl, rfl⟩ := h; have t1 : (a2 == a1_0) = true := beq_iff_eq.mpr c3; clear c3
    go_wp2
    go_ret2
    exact ⟨by first | rfl | (simp; done), by repeat (first | exact HB4.out | apply below_drew1 | apply pw_below_drewN)⟩
   ·rw [if_neg c3] at h
    have t1 : (a2 == a1_0) = false := beq_eq_false_iff_ne.mpr c3
    by_cases c4 : a2 = a1_1
    ·rw [if_pos c4] at h
     simp only [Option.some.injEq, Prod.mk.injEq] at h
     obtain ⟨rfl, rfl⟩ := h; have t2 : (a2 == a1_1) = true := beq_iff_eq.mpr c4; clear c3 c4
     go_wp2
     go_ret2
     exact ⟨by first | rfl | (simp; done), by repeat (first | exact HB4.out | apply below_drew1 | apply pw_below_drewN)⟩
    ·rw [if_neg c4] at h
     simp only [Option.some.injEq, Prod.mk.injEq] at h
     obtain ⟨rfl, rfl⟩ := h; have t2 : (a2 == a1_1) = false := beq_eq_false_iff_ne.mpr c4; clear c3 c4
     go_wp2
     go_ret2
     exact ⟨by first | rfl | (simp; done), by repeat (first | exact HB4.out | apply below_drew1 | apply pw_below_drewN)⟩
  ·by_cases c3 : 0 ≤ a1_0
   ·rw [if_pos c3, if_neg (fun h_ => c2 ⟨c3, h_⟩)] at h
    cases h
   ·rw [if_neg c3] at h
    cases h
 ·by_cases c3 : 0 ≤ a1_1
  ·rw [if_pos c3, if_neg (fun h_ => c1 ⟨c3, h_⟩)] at h
   cases h
  ·rw [if_neg c3] at h
   cases h

/-! ### impl_gcd: function 123 -/
mutual
def impl_gcd.j0 : Nat → Int → Int → Option (Int)
 | 0, _, _ => none
 | k + 1, x0, x1 => impl_gcd.l0 k x0 x1
def impl_gcd.l0 : Nat → Int → Int → Option (Int)
 | 0, _, _ => none
 | k + 1, x0, x1 => if x1 = 0 then (some x0) else (impl_gcd.l0 k x1 (Int.tmod x0 x1))
end
def impl_gcd.f (k : Nat) (a0 : Int) (a1 : Int) : Option (Int) := if a0 < 0 then (impl_gcd.j0 k (wrap64 (-a0)) a1) else (impl_gcd.j0 k a0 a1)
theorem impl_gcd.mono_l : ∀ k, (∀ y0 y1, LeO (impl_gcd.j0 k y0 y1) (impl_gcd.j0 (k + 1) y0 y1)) ∧ (∀ y0 y1, LeO (impl_gcd.l0 k y0 y1) (impl_gcd.l0 (k + 1) y0 y1))
 | 0 => ⟨fun _ _ r h => by simp [impl_gcd.j0] at h, fun _ _ r h => by simp [impl_gcd.l0] at h⟩
 | k + 1 => by
  obtain ⟨ih0, ih1⟩ := impl_gcd.mono_l k
  refine ⟨?_, ?_⟩
  ·intro y0 y1
   unfold impl_gcd.j0
   repeat' first
   | (with_reducible exact ih0 _ _)
   | (with_reducible exact ih1 _ _)
   | (with_reducible exact LeO.refl _)
   | (with_reducible exact LeO.none _)
   | (with_reducible refine LeO.ite ?_ ?_)
   | (with_reducible refine LeO.bind ?_ (fun _ => ?_))
   | exact ih0 _ _
   | exact ih1 _ _
   | exact LeO.none _
   | refine LeO.ite ?_ ?_
   | refine LeO.bind ?_ (fun _ => ?_)
  ·intro y0 y1
   unfold impl_gcd.l0
   repeat' first
   | (with_reducible exact ih0 _ _)
   | (with_reducible exact ih1 _ _)
   | (with_reducible exact LeO.refl _)
   | (with_reducible exact LeO.none _)
   | (with_reducible refine LeO.ite ?_ ?_)
   | (with_reducible refine LeO.bind ?_ (fun _ => ?_))
   | exact ih0 _ _
   | exact ih1 _ _
   | exact LeO.none _
   | refine LeO.ite ?_ ?_
   | refine LeO.bind ?_ (fun _ => ?_)
theorem impl_gcd.mono : ∀ a0 a1 k, LeO (impl_gcd.f k a0 a1) (impl_gcd.f (k + 1) a0 a1) := by
 intro a0 a1 k
 obtain ⟨ih0, ih1⟩ := impl_gcd.mono_l k
 unfold impl_gcd.f
 repeat' first
   | (with_reducible exact ih0 _ _)
   | (with_reducible exact ih1 _ _)
   | (with_reducible exact LeO.refl _)
   | (with_reducible exact LeO.none _)
   | (with_reducible refine LeO.ite ?_ ?_)
   | (with_reducible refine LeO.bind ?_ (fun _ => ?_))
   | exact ih0 _ _
   | exact ih1 _ _
   | exact LeO.none _
   | refine LeO.ite ?_ ?_
   | refine LeO.bind ?_ (fun _ => ?_)
set_option maxHeartbeats 8000000 in
set_option maxRecDepth 100000 in
theorem impl_gcd.calls (k : Nat) (a0 : Int) (a1 : Int) (r : Int) (w : World) (h : impl_gcd.f k a0 a1 = some r) :
  Calls Try.prog 123 #[.int .i64 a0, .int .i64 a1] w fun e w' => e = .returned (.int .i64 r) ∧ Drawn0 w w' := by
 have H : (if a0 < 0 then (impl_gcd.j0 k (wrap64 (-a0)) a1) else (impl_gcd.j0 k a0 a1)) = some r := h
 clear h
 have HC3 := Aside0.mk H
 clear H
 go_enter Try.func123, Try.ntmps123
 go_upto_if 6 with (fail)
 repeat (go_quiet (fail); go_upto_if 6 with (fail))
 go_cut [0] (fun v0 wc => ∃ (kq : Nat) (x0_2 : Int), v0 = .int .i64 x0_2 ∧ Aside0 (impl_gcd.j0 kq x0_2 a1 = some r) ∧ Aside0 (kq ≤ k) ∧ Drawn0 w wc)
 case first =>
  have H := HC3.out; clear HC3
  by_cases c4 : a0 < 0
  ·rw [if_pos c4] at H
   have c4b0 : decide (a0 < 0) = true := decide_eq_true c4; clear c4
   (first | rw [c4b0] | (simp only [i64_w, i32_w]; rw [c4b0]) | skip)
   have H' := Aside0.mk H; clear H
   go_wp2
   repeat (go_quiet (fail); try go_wp2)
   go_meet
   case rel => exact ⟨_, (wrap64 (-a0)), (zF), H', ⟨by first | omega | exact Nat.le_refl _⟩, by repeat (first | exact Drawn0.refl _ | apply Drawn0.step)⟩
  ·rw [if_neg c4] at H
   have c4b0 : decide (a0 < 0) = false := decide_eq_false c4; clear c4
   (first | rw [c4b0] | (simp only [i64_w, i32_w]; rw [c4b0]) | skip)
   have H' := Aside0.mk H; clear H
   go_wp2
   repeat (go_quiet (fail); try go_wp2)
   go_meet
   case rel => exact ⟨_, (a0), (zF), H', ⟨by first | omega | exact Nat.le_refl _⟩, by repeat (first | exact Drawn0.refl _ | apply Drawn0.step)⟩
 case rest =>
  clear HC3; (try clear c1); (try clear p2); (try clear c4); (try clear c4b0); obtain ⟨kq, x0_2, rfl, HA, HJ2, ⟨mc2, rfl⟩⟩ := hcut
  cases kq with
  | zero => exact absurd HA.out (by simp [impl_gcd.j0])
  | succ kj2 =>
   have H := HA.out; clear HA
   simp only [impl_gcd.j0] at H
   have H' := Aside0.mk H; clear H
   go_wp2
   repeat (go_quiet (fail); try go_wp2)
   go_loopg [0, 1] kj2 (fun kq v0 v1 w' => ∃ (x0_2 : Int) (x1_2 : Int), v0 = .int .i64 x0_2 ∧ v1 = .int .i64 x1_2 ∧ Aside0 (impl_gcd.l0 kq x0_2 x1_2 = some r) ∧ Aside0 (kq ≤ kj2) ∧ Drawn0 w w')
   case atStart => exact ⟨(x0_2), (a1), (zF), (zF), H', ⟨Nat.le_refl _⟩, by repeat (first | exact Drawn0.refl _ | apply Drawn0.step)⟩
   case round =>
    clear H'; (try clear c1); (try clear c2); (try clear p2); (try clear c4); (try clear c4b0); (try clear p2); obtain ⟨x0_2, x1_2, rfl, rfl, HA, HK2, ⟨m2, rfl⟩⟩ := hrel
    cases gk with
    | zero => exact absurd HA.out (by simp [impl_gcd.l0])
    | succ k2 =>
     have H := HA.out; clear HA
     simp only [impl_gcd.l0] at H
     by_cases c5 : x1_2 = 0
     ·rw [if_pos c5] at H
      have c5b0 : (x1_2 == 0) = true := beq_iff_eq.mpr c5; have c5b1 : (x1_2 != 0) = false := bne_eq_false_iff_eq.mpr c5; clear c5; obtain rfl := Option.some.inj H
      go_wp2
      repeat (go_quiet (fail); try go_wp2)
      go_ret
      exact ⟨zF, by repeat (first | exact Drawn0.refl _ | apply Drawn0.step)⟩
     ·rw [if_neg c5] at H
      have c5b0 : (x1_2 == 0) = false := beq_eq_false_iff_ne.mpr c5; have c5b1 : (x1_2 != 0) = true := bne_iff_ne.mpr c5; have H' := Aside0.mk H; clear H
      go_wp2
      repeat (go_quiet (fail); try go_wp2)
      go_roundg k2
      case measure => have := HJ2.out; have := HK2.out; omega
      case rel => exact ⟨(x1_2), (Int.tmod x0_2 x1_2), (zF), (zF), H', ⟨by have := HJ2.out; have := HK2.out; omega⟩, by repeat (first | exact Drawn0.refl _ | apply Drawn0.step)⟩

end Go.Proofs.Ytimjblgepbhoaaa.PFnExactCanHold
