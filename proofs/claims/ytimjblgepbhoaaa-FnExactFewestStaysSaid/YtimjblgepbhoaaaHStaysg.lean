import Derived.Test.YtimjblgepbhoaaaHStays0
import Derived.Test.YtimjblgepbhoaaaHStaysd
namespace Go.Proofs.Ytimjblgepbhoaaa.PStays
noncomputable section
open Go.RowKit Go.Proofs.YtimjblgepbhoaaaW.PrintWords Go.Proofs.YtimjblgepbhoaaaW.PrintLast Go.Proofs.YtimjblgepbhoaaaW.PrintMore
attribute [local go_sem] max2_int min2_int max_two min_two max_three min_three max_four min_four   -- for this text's walks alone
set_option linter.unusedVariables false
set_option linter.unusedSimpArgs false
set_option maxHeartbeats 8000000
set_option maxRecDepth 100000

theorem cell_of_block {w w' : World} {k : Nat} (h : w'.heap[k]? = w.heap[k]?) (j : Nat) : w'.cell? ⟨k, j, none⟩ = w.cell? ⟨k, j, none⟩ := by unfold World.cell?; rw [h]
theorem frozen_of_block {w w' : World} {k : Nat} (h : w'.heap[k]? = w.heap[k]?) (j : Nat) : w'.frozen? ⟨k, j, none⟩ = w.frozen? ⟨k, j, none⟩ := by unfold World.frozen?; rw [h]
theorem cset_same {w : World} {a : Addr} {u v : Value} (h : w.cell? a = some u) : (w.setCell a v).cell? a = some v := by apply World.cell?_setCell_same; exact h
theorem cset_other {w : World} {a b : Addr} {v : Value} (h : a ≠ b) : (w.setCell a v).cell? b = w.cell? b := by apply World.cell?_setCell_other; exact h
def swp (a b i : Nat) : Nat := if i = a then b else if i = b then a else i
theorem swp_lt {a b i m : Nat} (ha : a < m) (hb : b < m) (hi : i < m) : swp a b i < m := by unfold swp; split; exact hb; split; exact ha; exact hi
theorem swp_inj {a b i k : Nat} (h : swp a b i = swp a b k) : i = k := by unfold swp at h; split at h <;> split at h <;> (try split at h) <;> (try split at h) <;> omega
theorem swp_right (a i : Nat) : swp a i i = a := by
 unfold swp
 by_cases hia : i = a
 ·rw [if_pos hia]; exact hia
 ·rw [if_neg hia, if_pos rfl]
structure Tb (go m n L : Nat) (rb cp : Nat → Nat) (V : Nat → Nat → Value) (w : World) : Prop where
 o : ∀ i, i < m → w.cell? ⟨go, i, none⟩ = some (.slice (some ⟨rb i, 0, none⟩) n (cp i))
 of : ∀ i, i < m → w.frozen? ⟨go, i, none⟩ = false
 r : ∀ i, i < m → ∀ j, j < L → w.cell? ⟨rb i, j, none⟩ = some (V i j)
 rf : ∀ i, i < m → ∀ j, j < L → w.frozen? ⟨rb i, j, none⟩ = false
 inj : ∀ i, i < m → ∀ k, k < m → rb i = rb k → i = k
 ne : ∀ i, i < m → rb i ≠ go
theorem Tb.congr {go m n L : Nat} {rb cp : Nat → Nat} {V V' : Nat → Nat → Value} {w : World} (h : Tb go m n L rb cp V w) (hV : ∀ i, i < m → ∀ j, j < L → V i j = V' i j) : Tb go m n L rb cp V' w :=
 ⟨h.o, h.of, fun i hi j hj => by rw [← hV i hi j hj]; exact h.r i hi j hj, h.rf, h.inj, h.ne⟩
theorem Tb.move {go m n L : Nat} {rb cp : Nat → Nat} {V : Nat → Nat → Value} {w w' : World} (h : Tb go m n L rb cp V w) (ho : w'.heap[go]? = w.heap[go]?) (hr : ∀ i, i < m → w'.heap[rb i]? = w.heap[rb i]?) : Tb go m n L rb cp V w' :=
 ⟨fun i hi => (cell_of_block ho i).trans (h.o i hi), fun i hi => (frozen_of_block ho i).trans (h.of i hi), fun i hi j hj => (cell_of_block (hr i hi) j).trans (h.r i hi j hj), fun i hi j hj => (frozen_of_block (hr i hi) j).trans (h.rf i hi j hj), h.inj, h.ne⟩
theorem Tb.lt {go m n L : Nat} {rb cp : Nat → Nat} {V : Nat → Nat → Value} {w : World} (h : Tb go m n L rb cp V w) {i : Nat} (hi : i < m) : go < w.heap.size := World.block_lt_of_cell? w ⟨go, i, none⟩ (h.o i hi)
theorem Tb.ltr {go m n L : Nat} {rb cp : Nat → Nat} {V : Nat → Nat → Value} {w : World} (h : Tb go m n L rb cp V w) (hL : 0 < L) {i : Nat} (hi : i < m) : rb i < w.heap.size := World.block_lt_of_cell? w ⟨rb i, 0, none⟩ (h.r i hi 0 hL)
theorem Tb.kept {go m n L : Nat} {rb cp : Nat → Nat} {V : Nat → Nat → Value} {w w' : World} {S : Nat → Prop} (h : Tb go m n L rb cp V w) (hL : 0 < L) (hk : Kept w w' S) (h1 : 0 < m → ¬ S go) (h2 : ∀ i, i < m → ¬ S (rb i)) : Tb go m n L rb cp V w' := by
 by_cases hm : 0 < m
 ·exact h.move (hk.2 go (h.lt hm) (h1 hm)) (fun i hi => hk.2 _ (h.ltr hL hi) (h2 i hi))
 ·exact ⟨fun i hi => by omega, fun i hi => by omega, fun i hi => by omega, fun i hi => by omega, fun i hi => by omega, fun i hi => by omega⟩
theorem Tb.below {go m n L : Nat} {rb cp : Nat → Nat} {V : Nat → Nat → Value} {w w' : World} (h : Tb go m n L rb cp V w) (hL : 0 < L) (hb : Below w.heap.size w w') : Tb go m n L rb cp V w' :=
 h.kept hL (Kept.of_below hb (fun _ => False)) (fun _ => id) (fun _ _ => id)
theorem Tb.drewN {go m n L : Nat} {rb cp : Nat → Nat} {V : Nat → Nat → Value} {w : World} (h : Tb go m n L rb cp V w) (q : Nat) : Tb go m n L rb cp V (w.drewN q) := h.move rfl (fun _ _ => rfl)
theorem Tb.drew {go m n L : Nat} {rb cp : Nat → Nat} {V : Nat → Nat → Value} {w : World} (h : Tb go m n L rb cp V w) : Tb go m n L rb cp V w.drew := h.move rfl (fun _ _ => rfl)
theorem Tb.store {go m n L : Nat} {rb cp : Nat → Nat} {V : Nat → Nat → Value} {w : World} (h : Tb go m n L rb cp V w) {a b : Nat} (ha : a < m) (hb : b < L) (x : Value) :
  Tb go m n L rb cp (fun i j => if i = a ∧ j = b then x else V i j) (w.setCell ⟨rb a, b, none⟩ x) := by
 refine ⟨fun i hi => ?_, fun i hi => ?_, fun i hi j hj => ?_, fun i hi j hj => ?_, h.inj, h.ne⟩
 ·rw [cset_other (by intro e; injection e with e1 _ _; exact h.ne a ha e1)]; exact h.o i hi
 ·rw [World.frozen?_setCell]; exact h.of i hi
 ·by_cases hc : i = a ∧ j = b
  ·obtain ⟨rfl, rfl⟩ := hc
   rw [if_pos ⟨rfl, rfl⟩]
   exact cset_same (h.r i hi j hj)
  ·rw [if_neg hc, cset_other (by intro e; injection e with e1 e2 _; exact hc ⟨(h.inj a ha i hi e1).symm, e2.symm⟩)]
   exact h.r i hi j hj
 ·rw [World.frozen?_setCell]; exact h.rf i hi j hj
theorem Tb.swap {go m n L : Nat} {rb cp : Nat → Nat} {V : Nat → Nat → Value} {w : World} (h : Tb go m n L rb cp V w) {a b : Nat} (ha : a < m) (hb : b < m) :
  Tb go m n L (fun i => rb (swp a b i)) (fun i => cp (swp a b i)) (fun i j => V (swp a b i) j) ((w.setCell ⟨go, a, none⟩ (.slice (some ⟨rb b, 0, none⟩) n (cp b))).setCell ⟨go, b, none⟩ (.slice (some ⟨rb a, 0, none⟩) n (cp a))) := by
 have hrow : ∀ i, i < m → ∀ j, j < L → ((w.setCell ⟨go, a, none⟩ (.slice (some ⟨rb b, 0, none⟩) n (cp b))).setCell ⟨go, b, none⟩ (.slice (some ⟨rb a, 0, none⟩) n (cp a))).cell? ⟨rb i, j, none⟩ = some (V i j) := by
  intro i hi j hj
  rw [cset_other (by intro e; injection e with e1 _ _; exact h.ne i hi e1.symm), cset_other (by intro e; injection e with e1 _ _; exact h.ne i hi e1.symm)]
  exact h.r i hi j hj
 refine ⟨fun i hi => ?_, fun i hi => ?_, fun i hi j hj => hrow _ (swp_lt ha hb hi) j hj, fun i hi j hj => ?_, fun i hi k hk e => swp_inj (h.inj _ (swp_lt ha hb hi) _ (swp_lt ha hb hk) e), fun i hi => h.ne _ (swp_lt ha hb hi)⟩
 ·by_cases hib : i = b
  ·subst hib
   have hs : swp a i i = a := swp_right a i; have h1 : ∃ v, (w.setCell ⟨go, a, none⟩ (.slice (some ⟨rb i, 0, none⟩) n (cp i))).cell? ⟨go, i, none⟩ = some v := cell?_setCell_some (h.o i hb); obtain ⟨v, h1⟩ := h1; rw [cset_same h1, hs]
  ·rw [cset_other (by intro e; injection e with _ e2 _; exact hib e2.symm)]
   by_cases hia : i = a
   ·subst hia
    rw [cset_same (h.o i hi)]
    have hs : swp i b i = b := by unfold swp; rw [if_pos rfl]
    rw [hs]
   ·rw [cset_other (by intro e; injection e with _ e2 _; exact hia e2.symm), h.o i hi]
    have hs : swp a b i = i := by unfold swp; rw [if_neg hia, if_neg hib]
    rw [hs]
 ·rw [World.frozen?_setCell, World.frozen?_setCell]; exact h.of i hi
 ·rw [World.frozen?_setCell, World.frozen?_setCell]; exact h.rf _ (swp_lt ha hb hi) j hj
theorem info3R : (Try.prog.info? 3).map (fun i => (i.zero, i.size, i.bytes)) = some (some (.int .i64 0), 1, 8) := by kernel_rfl
theorem S_row {α : Type} {d : Kd α} {e eo : Nat} {w : World} {base : Nat} {ok : Nat → Prop} {go m cpo : Nat} {rows : List (List α)} {f : Nat → Nat} (h : (Kd.tag f (Kd.slice e d)).R eo w base ok (.slice (some ⟨go, 0, none⟩) m cpo) rows.zipIdx) (n : Nat) (hn : 1 ≤ n) (hrow : ∀ row ∈ rows, row.length = n) (i : Nat) (hi : i < m) :
  ∃ r c : Nat, w.cell? ⟨go, i, none⟩ = some (.slice (some ⟨r, 0, none⟩) n c) ∧ w.frozen? ⟨go, i, none⟩ = false ∧ ok r ∧ r ≠ go ∧ f r = i ∧ d.R e w base (fun k => (ok k ∧ k ≠ go) ∧ f k = i) (.slice (some ⟨r, 0, none⟩) n c) (rows.getD i []) := by
 have hm := (Kd.R_reads' h).1
 rw [List.length_zipIdx] at hm
 obtain ⟨c, hcl, hM, hcc, hfr⟩ := Kd.R_elem h (([] : List α), 0) (i : Int) (by omega) (by omega)
 have hx : rows.zipIdx.getD (i : Int).toNat (([] : List α), 0) = (rows.getD i [], i) := by
  rw [Int.toNat_natCast, List.getD_eq_getElem?_getD, Kd.zip_at (p := rows[i]'(by omega)) (List.getElem?_eq_getElem (by omega)), List.getD_eq_getElem?_getD, List.getElem?_eq_getElem (by omega)]
  rfl
 rw [hx] at hM
 obtain ⟨v, rfl, hR⟩ := hM
 have hmem : rows.getD i [] ∈ rows := by rw [List.getD_eq_getElem?_getD, List.getElem?_eq_getElem (by omega)]; exact List.getElem_mem _
 have hl := hrow _ hmem
 obtain ⟨A, cp, ev⟩ := Kd.R_slice hR
 rw [hl] at ev
 subst ev
 have hR2 : d.R e w base (fun k => (ok k ∧ k ≠ go) ∧ f k = i) (.slice A n cp) (rows.getD i []) := hR
 have hA : ∃ r, A = some ⟨r, 0, none⟩ := by
  obtain ⟨h0, inner, ho, hr⟩ := hR2
  rcases ho.2 with ⟨hv, h2⟩ | ⟨g, cap', cur, hv, _⟩
  ·injection hv with _ yB _; omega
  ·injection hv with ha _ _; exact ⟨g, ha⟩
 obtain ⟨r, rfl⟩ := hA
 have hok := hR2.1 r (by simp [Value.ownBlock])
 have h1 := hcc 0 _ rfl
 have h2 := hfr 0
 rw [Int.toNat_natCast, Nat.add_zero, show (Kd.tag f (Kd.slice e d)).sz = 1 from rfl, Nat.mul_one] at h1 h2
 exact ⟨r, cp, h1, h2, hok.1.1, hok.1.2, hok.2, hR2⟩
open Classical in
theorem Tb.of_S {α : Type} {d : Kd α} {z : α} {enc : α → Nat → Value} (hsz : 0 < d.sz) (henc : ∀ (w : World) base ok x c, d.M w base ok x c → ∀ j, j < d.sz → c[j]? = some (enc x j)) {e eo : Nat} {w : World} {base : Nat} {ok : Nat → Prop} {go m cpo : Nat} {rows : List (List α)} (h : Kd.S (Kd.slice e d) eo w base ok (.slice (some ⟨go, 0, none⟩) m cpo) rows) (n : Nat) (hn : 1 ≤ n) (hrow : ∀ row ∈ rows, row.length = n) :
  ∃ rb cp : Nat → Nat, Tb go m n (n * d.sz) rb cp (fun i j => enc ((rows.getD i []).getD (j / d.sz) z) (j % d.sz)) w ∧ ∀ i, i < m → ok (rb i) ∧ base ≤ rb i := by
 obtain ⟨f, h⟩ := h
 have hex := fun (i : Nat) (hi : i < m) => S_row h n hn hrow i hi
 let rb : Nat → Nat := fun i => if hi : i < m then (hex i hi).choose else 0
 let cp : Nat → Nat := fun i => if hi : i < m then (hex i hi).choose_spec.choose else 0
 have hs : ∀ i, i < m → w.cell? ⟨go, i, none⟩ = some (.slice (some ⟨rb i, 0, none⟩) n (cp i)) ∧ w.frozen? ⟨go, i, none⟩ = false ∧ ok (rb i) ∧ rb i ≠ go ∧ f (rb i) = i ∧ d.R e w base (fun k => (ok k ∧ k ≠ go) ∧ f k = i) (.slice (some ⟨rb i, 0, none⟩) n (cp i)) (rows.getD i []) := by
  intro i hi
  have h1 : rb i = (hex i hi).choose := dif_pos hi; have h2 : cp i = (hex i hi).choose_spec.choose := dif_pos hi; rw [h1, h2]
  exact (hex i hi).choose_spec.choose_spec
 have hcell : ∀ i, i < m → ∀ j, j < n * d.sz → w.cell? ⟨rb i, j, none⟩ = some (enc ((rows.getD i []).getD (j / d.sz) z) (j % d.sz)) ∧ w.frozen? ⟨rb i, j, none⟩ = false := by
  intro i hi j hj
  obtain ⟨_, _, _, _, _, hR⟩ := hs i hi; have hq : j / d.sz < n := Nat.div_lt_of_lt_mul (by rw [Nat.mul_comm]; exact hj); obtain ⟨c, hcl, hM, hcc, hfr⟩ := Kd.R_elem hR z ((j / d.sz : Nat) : Int) (Int.natCast_nonneg _) (Int.ofNat_lt.mpr hq); rw [Int.toNat_natCast] at hM hcc hfr; have h1 := hcc (j % d.sz) _ (henc _ _ _ _ _ hM _ (Nat.mod_lt _ hsz)); have h2 := hfr (j % d.sz); rw [show j / d.sz * d.sz + j % d.sz = j from by rw [Nat.mul_comm]; exact Nat.div_add_mod j d.sz] at h1 h2
  exact ⟨h1, h2⟩
 refine ⟨rb, cp, ⟨fun i hi => (hs i hi).1, fun i hi => (hs i hi).2.1, fun i hi j hj => (hcell i hi j hj).1, fun i hi j hj => (hcell i hi j hj).2, fun i hi k hk he => ?_, fun i hi => (hs i hi).2.2.2.1⟩, fun i hi => ⟨(hs i hi).2.2.1, ?_⟩⟩
 ·have h1 := (hs i hi).2.2.2.2.1
  have h2 := (hs k hk).2.2.2.2.1; rw [he] at h1
  exact h1.symm.trans h2
 ·obtain ⟨_, _, _, _, _, hR⟩ := hs i hi
  exact Kd.R_base hR (rb i) (by simp [Value.ownBlock])
theorem enc_int : ∀ (w : World) base ok (x : Int) c, (Kd.int .i64).M w base ok x c → ∀ j, j < (Kd.int .i64).sz → c[j]? = some ((fun (x : Int) (_ : Nat) => Value.int .i64 x) x j) := by
 intro w base ok x c h j hj
 have h2 : c = [.int .i64 x] := h
 have h3 : j = 0 := by
  have : (Kd.int .i64).sz = 1 := rfl
  omega
 rw [h2, h3]
 rfl
theorem R_someT {α : Type} {d : Kd α} {e : Nat} {W : World} {base : Nat} {ok : Nat → Prop} {A : Option Addr} {n c : Nat} {xs : List α} (h : d.R e W base ok (.slice A n c) xs) (h1 : 0 < n) : ∃ g, A = some ⟨g, 0, none⟩ := by
 obtain ⟨h0, inner, ho, hr⟩ := h
 rcases ho.2 with ⟨hv, h2⟩ | ⟨g, cap', cur, hv, _⟩
 ·injection hv with _ hn _; omega
 ·injection hv with ha _ _; exact ⟨g, ha⟩
theorem R_tell {α : Type} {d : Kd α} {e base : Nat} {ok ok' : Nat → Prop} {w : World} {v : Value} {xs : List α} (hE : d.E = []) (h : d.R e w base ok v xs) (hk : ∀ k, v.ownBlock = some k → ok k → base ≤ k → k < w.heap.size → ok' k) : d.R e w base ok' v xs :=
 Kd.R_reok hE h (fun k e_ => hk k e_ (h.1 k e_) (Kd.R_base h k e_) (Kd.R_lt h k e_))
def el (bf p q x y : Int) : Int := wrap64 (Int.tdiv (wrap64 (wrap64 (x * p) - wrap64 (q * y))) bf)
def fndS (M : Nat → Nat → Int) (c : Nat) : Nat → Nat → Nat
 | 0, f => f
 | k + 1, f => if M f c = 0 then fndS M c k (f + 1) else f
theorem fndS_eq {M : Nat → Nat → Int} {c m : Nat} : ∀ (k a f : Nat), a + k = m → a ≤ f → f ≤ m → (∀ i, a ≤ i → i < f → M i c = 0) → (f = m ∨ M f c ≠ 0) → fndS M c k a = f
 | 0, a, f, h1, h2, h3, _, _ => by show a = f; omega
 | k + 1, a, f, h1, h2, h3, h4, h5 => by
  show (if M a c = 0 then fndS M c k (a + 1) else a) = f
  by_cases he : a = f
  ·subst he
   rcases h5 with h5 | h5
   ·omega
   ·rw [if_neg h5]
  ·rw [if_pos (h4 a (Nat.le_refl a) (by omega))]
   exact fndS_eq k (a + 1) f (by omega) (by omega) h3 (fun i h6 h7 => h4 i (by omega) h7) h5
def mixS (M : Nat → Nat → Int) (a c : Nat) (bf : Int) (i j : Nat) : Nat → Nat → Int := fun x y => if x ≠ a ∧ (x < i ∨ x = i ∧ y < j) then el bf (M a c) (M x c) (M x y) (M a y) else M x y
structure StS where
 at_ : Nat
 bf : Int
 M : Nat → Nat → Int
 pv : List Int
def stepS (m : Nat) (s : StS) (c : Nat) : StS :=
 if s.at_ < m then (if fndS s.M c (m - s.at_) s.at_ = m then s else
  ⟨s.at_ + 1, s.M (fndS s.M c (m - s.at_) s.at_) c, mixS (fun i j => s.M (swp (fndS s.M c (m - s.at_) s.at_) s.at_ i) j) s.at_ c s.bf m 0, s.pv ++ [(c : Int)]⟩) else s
def redS (m : Nat) (M : Nat → Nat → Int) (c : Nat) : StS := (List.range c).foldl (stepS m) ⟨0, 1, M, []⟩
theorem redS_succ (m : Nat) (M : Nat → Nat → Int) (c : Nat) : redS m M (c + 1) = stepS m (redS m M c) c := by unfold redS; rw [List.range_succ, List.foldl_append]; rfl
theorem redS_full {m : Nat} {M : Nat → Nat → Int} {c : Nat} (h : ¬ (redS m M c).at_ < m) : ∀ d, redS m M (c + d) = redS m M c
 | 0 => rfl
 | d + 1 => by rw [← Nat.add_assoc, redS_succ, redS_full h d]; unfold stepS; rw [if_neg h]
structure TbS (S0 : Nat → Prop) (gm go m L cpo : Nat) (rb cp : Nat → Nat) (M : Nat → Nat → Int) (w : World) : Prop where
 bm : w.heap[gm]? = some (.cells #[.slice (some ⟨go, 0, none⟩) m cpo, .int .i64 ((L - 1 : Nat) : Int)] 157 (0, 0))
 t : Tb go m L L rb cp (fun i j => .int .i64 (M i j)) w
 sg : ¬ S0 gm
 so : S0 go
 sr : ∀ i, i < m → S0 (rb i)
 old : ∀ k, S0 k → k < w.heap.size
theorem TbS.keptB {S0 S : Nat → Prop} {gm go m L cpo : Nat} {rb cp : Nat → Nat} {M : Nat → Nat → Int} {w w' : World} (h : TbS S0 gm go m L cpo rb cp M w) (hL : 0 < L) (hk : Kept w w' S) (hg : ¬ S gm) (hS : ∀ k, S0 k → ¬ S k) : TbS S0 gm go m L cpo rb cp M w' :=
 ⟨blk_kept h.bm hk hg, h.t.kept hL hk (fun _ => hS _ h.so) (fun i hi => hS _ (h.sr i hi)), h.sg, h.so, h.sr, fun k hk' => Nat.lt_of_lt_of_le (h.old k hk') hk.1⟩
theorem TbS.below {S0 : Nat → Prop} {gm go m L cpo : Nat} {rb cp : Nat → Nat} {M : Nat → Nat → Int} {w w' : World} (h : TbS S0 gm go m L cpo rb cp M w) (hL : 0 < L) (hb : Below w.heap.size w w') : TbS S0 gm go m L cpo rb cp M w' :=
 h.keptB hL (Kept.of_below hb (fun _ => False)) id (fun _ _ => id)
theorem TbS.drewN {S0 : Nat → Prop} {gm go m L cpo : Nat} {rb cp : Nat → Nat} {M : Nat → Nat → Int} {w : World} (h : TbS S0 gm go m L cpo rb cp M w) (q : Nat) : TbS S0 gm go m L cpo rb cp M (w.drewN q) := ⟨h.bm, h.t.drewN q, h.sg, h.so, h.sr, h.old⟩
theorem TbS.congr {S0 : Nat → Prop} {gm go m L cpo : Nat} {rb cp : Nat → Nat} {M M' : Nat → Nat → Int} {w : World} (h : TbS S0 gm go m L cpo rb cp M w) (hV : ∀ i, i < m → ∀ j, j < L → M i j = M' i j) : TbS S0 gm go m L cpo rb cp M' w :=
 ⟨h.bm, h.t.congr (fun i hi j hj => by rw [hV i hi j hj]), h.sg, h.so, h.sr, h.old⟩
theorem TbS.store {S0 : Nat → Prop} {gm go m L cpo : Nat} {rb cp : Nat → Nat} {M : Nat → Nat → Int} {w : World} (h : TbS S0 gm go m L cpo rb cp M w) {a b : Nat} (ha : a < m) (hb : b < L) (x : Int) :
  TbS S0 gm go m L cpo rb cp (fun i j => if i = a ∧ j = b then x else M i j) (w.setCell ⟨rb a, b, none⟩ (.int .i64 x)) :=
 ⟨(Below.heap_setCell w ⟨rb a, b, none⟩ _ gm (fun e => h.sg (e ▸ h.sr a ha))).trans h.bm, (h.t.store ha hb (.int .i64 x)).congr (fun i _ j _ => by split <;> rfl), h.sg, h.so, h.sr, fun k hk => by simpa [World.setCell] using h.old k hk⟩
theorem TbS.swap {S0 : Nat → Prop} {gm go m L cpo : Nat} {rb cp : Nat → Nat} {M : Nat → Nat → Int} {w : World} (h : TbS S0 gm go m L cpo rb cp M w) {a b : Nat} (ha : a < m) (hb : b < m) :
  TbS S0 gm go m L cpo (fun i => rb (swp a b i)) (fun i => cp (swp a b i)) (fun i j => M (swp a b i) j) ((w.setCell ⟨go, a, none⟩ (.slice (some ⟨rb b, 0, none⟩) L (cp b))).setCell ⟨go, b, none⟩ (.slice (some ⟨rb a, 0, none⟩) L (cp a))) :=
 ⟨(Below.heap_setCell _ ⟨go, b, none⟩ _ gm (fun e => h.sg (e ▸ h.so))).trans ((Below.heap_setCell w ⟨go, a, none⟩ _ gm (fun e => h.sg (e ▸ h.so))).trans h.bm), h.t.swap ha hb, h.sg, h.so, fun i hi => h.sr _ (swp_lt ha hb hi), fun k hk => by simpa [World.setCell] using h.old k hk⟩
theorem TbS.drew {S0 : Nat → Prop} {gm go m L cpo : Nat} {rb cp : Nat → Nat} {M : Nat → Nat → Int} {w : World} (h : TbS S0 gm go m L cpo rb cp M w) : TbS S0 gm go m L cpo rb cp M w.drew := ⟨h.bm, h.t.drew, h.sg, h.so, h.sr, h.old⟩
theorem kept_store {w w' : World} {S : Nat → Prop} (h : Kept w w' S) {k j : Nat} (hk : S k) (x : Value) : Kept w (w'.setCell ⟨k, j, none⟩ x) S := Kept.setCell (p := ⟨k, j, none⟩) h (.inl hk) x
theorem mixS_zero (M : Nat → Nat → Int) (a c : Nat) (bf : Int) (i j : Nat) : mixS M a c bf 0 0 i j = M i j := by unfold mixS; rw [if_neg (fun h_ => by omega)]
theorem mixS_own {M : Nat → Nat → Int} {a c : Nat} {bf : Int} {i j x y : Nat} (h : x = a) : mixS M a c bf i j x y = M x y := by unfold mixS; rw [if_neg (fun h_ => h_.1 h)]
theorem mixS_skip (M : Nat → Nat → Int) (a c : Nat) (bf : Int) (x y : Nat) : mixS M a c bf a 0 x y = mixS M a c bf (a + 1) 0 x y := by
 unfold mixS
 by_cases h : x ≠ a ∧ (x < a ∨ x = a ∧ y < 0)
 ·rw [if_pos h, if_pos ⟨h.1, by omega⟩]
 ·rw [if_neg h, if_neg (fun h_ => h ⟨h_.1, by omega⟩)]
theorem mixS_late {M : Nat → Nat → Int} {a c : Nat} {bf : Int} {i j x y : Nat} (h : i < x ∨ i = x ∧ j ≤ y) : mixS M a c bf i j x y = M x y := by unfold mixS; rw [if_neg (fun h_ => by omega)]
theorem mixS_row {M : Nat → Nat → Int} {a c : Nat} {bf : Int} {i L x y : Nat} (hy : y < L) : mixS M a c bf i L x y = mixS M a c bf (i + 1) 0 x y := by
 unfold mixS
 by_cases h : x ≠ a ∧ (x < i ∨ x = i ∧ y < L)
 ·rw [if_pos h, if_pos ⟨h.1, by omega⟩]
 ·rw [if_neg h, if_neg (fun h_ => h ⟨h_.1, by omega⟩)]
theorem mixS_put {M : Nat → Nat → Int} {a c : Nat} {bf : Int} {i j : Nat} (hi : i ≠ a) (x y : Nat) : (if x = i ∧ y = j then el bf (M a c) (M i c) (M i j) (M a j) else mixS M a c bf i j x y) = mixS M a c bf i (j + 1) x y := by
 by_cases h : x = i ∧ y = j
 ·rw [if_pos h]
  obtain ⟨rfl, rfl⟩ := h
  unfold mixS
  rw [if_pos ⟨hi, by omega⟩]
 ·rw [if_neg h]
  unfold mixS
  by_cases h1 : x ≠ a ∧ (x < i ∨ x = i ∧ y < j)
  ·rw [if_pos h1, if_pos ⟨h1.1, by omega⟩]
  ·rw [if_neg h1, if_neg (fun h_ => h1 ⟨h_.1, by omega⟩)]
theorem reduce_calls (w0 w : World) (S0 : Nat → Prop) (gm go m L cpo : Nat) (rb cp : Nat → Nat) (M : Nat → Nat → Int) (XB : m ≤ 1048576) (hL6 : L ≤ 1048576) (hL1 : 1 ≤ L) (hT : TbS S0 gm go m L cpo rb cp M w) (hB : Below w0.heap.size w0 w) (hS0 : ∀ k, S0 k → w0.heap.size ≤ k) :
  Calls Try.prog 128 #[.pointer (some ⟨gm, 0, none⟩)] w fun e w' => ∃ (v : Value) (rb' cp' : Nat → Nat), e = .returned (.tuple #[v, .int .i64 (redS m M (L - 1)).bf]) ∧ Kd.R (Kd.int .i64) 3 w' w.heap.size (fun k => w.heap.size ≤ k) v (redS m M (L - 1)).pv ∧ TbS S0 gm go m L cpo rb' cp' (redS m M (L - 1)).M w' ∧ Below w0.heap.size w0 w' ∧ Kept w w' S0 := by
 have pA := Try.underlying157
 have JA := Try.underlying142
 have HA := Try.underlying88
 have IA := Try.underlying31
 have HT := zQ hT
 have HB := zQ hB
 have HS0 := zQ hS0
 clear hT hB hS0
 go_enter Try.func128, Try.ntmps128
 go_wp2_with (first
  | ((with_reducible refine zd 14 ?_); refine Kd.R_lit (Kd.int .i64) _ 3 ?hg (N := 14) ?hd (xs := ([] : List Int)) (inner := []) (ok := fun k => w.heap.size ≤ k) (okp := fun k => w.heap.size ≤ k) ?hr ?hp (fun _ hk => hk) (Nat.le_refl _) (Below.refl _ _) (Nat.le_refl _) (by simp) ?_; (case hd => rfl); (case hg => rfl); (case hr => first | (go_simp; done) | (go_simp; rfl)); (case hp => exact (Reps.none _ _)); intro v1 w1 xA iA hg_ hnew_; clear hg_ hnew_; have tA := zQ xA; have HB1 := zQ iA; clear xA iA))
 go_loopw [4, 5, 6, 7] (fun v4 v5 v6 v7 wr => ∃ (s : StS) (c : Nat) (rb1 cp1 : Nat → Nat), v5 = .int .i64 s.bf ∧ v6 = .int .i64 (s.at_ : Int) ∧ v7 = .int .i64 (c : Int) ∧ c ≤ L - 1 ∧ s.at_ ≤ m ∧ s.pv.length ≤ c ∧ Aside0 (s.bf ≠ 0) ∧ Aside0 (redS m M c = s) ∧ Aside0 (TbS S0 gm go m L cpo rb1 cp1 s.M wr) ∧ Aside0 (Kd.R (Kd.int .i64) 3 wr w.heap.size (fun k => w.heap.size ≤ k) v4 s.pv) ∧ Aside0 (Below w0.heap.size w0 wr) ∧ Aside0 (Kept w wr S0)) (fun _ _ _ v7 _ => ((L : Int) - intOf v7).toNat)
 case atStart => exact ⟨⟨0, 1, M, []⟩, 0, rb, cp, by first | rfl | (simp; done), by first | rfl | (simp; done), by first | rfl | (simp; done), by omega, by show 0 ≤ m; omega, by simp, ⟨by show (1 : Int) ≠ 0; decide⟩, ⟨rfl⟩, ⟨HT.out.below hL1 HB1.out⟩, tA, ⟨below_step HB.out HB1.out⟩, ⟨Kept.of_below HB1.out _⟩⟩
 case round =>
  obtain ⟨s, c, rb1, cp1, rfl, rfl, rfl, hcL, hat, hpl, HNB, HRD, HT1, tA, HB1, ZA⟩ := hrel; have cm0 : wr.cell? ⟨gm, 0, none⟩ = some (.slice (some ⟨go, 0, none⟩) m cpo) := (blk_cell HT1.out.bm 0).trans rfl; have cm1 : wr.cell? ⟨gm, 1, none⟩ = some (.int .i64 ((L - 1 : Nat) : Int)) := (blk_cell HT1.out.bm 1).trans rfl
  by_cases hc : c < L - 1
  ·have hcb : decide ((c : Int) < ((L - 1 : Nat) : Int)) = true := decide_eq_true (by omega)
   have hcb' : decide (c < L - 1) = true := decide_eq_true hc
   by_cases hm : s.at_ < m
   ·have hmb : decide ((s.at_ : Int) < (m : Int)) = true := decide_eq_true (by omega)
    have hmb' : decide (s.at_ < m) = true := decide_eq_true hm
    go_wp2
    go_loop [8] (fun v8 => ∃ (f : Nat), v8 = .int .i64 (f : Int) ∧ s.at_ ≤ f ∧ f ≤ m ∧ Aside0 (∀ i, s.at_ ≤ i → i < f → s.M i c = 0)) (fun v8 => ((m : Int) - intOf v8).toNat)
    case atStart => exact ⟨s.at_, rfl, Nat.le_refl _, by omega, ⟨fun i h1 h2 => by omega⟩⟩
    case round =>
     obtain ⟨f, rfl, BB, RB, HZ⟩ := hrel
     by_cases hfm : f < m
     ·have hfb : decide ((f : Int) < (m : Int)) = true := decide_eq_true (by omega)
      have hfb' : decide (f < m) = true := decide_eq_true hfm; have p1 : (0 ≤ (f : Int)) = True := eq_true (by omega); have q1 : ((f : Int) < (m : Int)) = True := eq_true (by omega); have p2 : (0 ≤ (c : Int)) = True := eq_true (by omega); have q2 : ((c : Int) < (L : Int)) = True := eq_true (by omega); have co := HT1.out.t.o f hfm; have cr : wr.cell? ⟨rb1 f, c, none⟩ = some (.int .i64 (s.M f c)) := HT1.out.t.r f hfm c (by omega); obtain ⟨x, hx⟩ : ∃ x, s.M f c = x := ⟨_, rfl⟩; rw [hx] at cr; have HX := zQ hx; clear hx
      by_cases hz : x = 0
      ·have hzb : (x == 0) = true := beq_iff_eq.mpr hz
       clear hz
       go_wp2
       go_round
       case rel => exact ⟨f + 1, by first | rfl | (simp; omega) | (congr 1; omega), by omega, by omega, ⟨fun i h1 h2 => by
        by_cases he : i = f
        ·rw [he, HX.out]; exact beq_iff_eq.mp hzb
        ·exact HZ.out i h1 (by omega)⟩⟩
       case measure => simp [intOf]; omega
      ·have hzb : (x == 0) = false := beq_eq_false_iff_ne.mpr hz
       have HNZ := zQ hz; clear hz
       have hne : ((f : Int) == (m : Int)) = false := by rw [beq_eq_false_iff_ne]; omega
       have p3 : (0 ≤ (s.at_ : Int)) = True := eq_true (by omega); have q3 : ((s.at_ : Int) < (m : Int)) = True := eq_true (by omega); have ca := HT1.out.t.o s.at_ hm; have ff := HT1.out.t.of f hfm; have fa := HT1.out.t.of s.at_ hm
       go_wp2
       go_region
       generalize oA : wr.setCell ⟨go, f, none⟩ (.slice (some ⟨rb1 s.at_, 0, none⟩) L (cp1 s.at_)) = w2
       have hsw := HT1.out.swap hfm hm; rw [oA] at hsw
       have zB : Kept w w2 S0 := by rw [← oA]; exact kept_store ZA.out HT1.out.so _
       have NA : Kept wr w2 S0 := by rw [← oA]; exact kept_store (Kept.refl _ _) HT1.out.so _
       have dA : Below w0.heap.size w0 w2 := by rw [← oA]; exact below_set HB1.out (HS0.out _ HT1.out.so)
       have QA : w2.heap[gm]? = some (.cells #[.slice (some ⟨go, 0, none⟩) m cpo, .int .i64 ((L - 1 : Nat) : Int)] 157 (0, 0)) := by rw [← oA]; exact (Below.heap_setCell wr ⟨go, f, none⟩ _ gm (fun e => HT1.out.sg (e ▸ HT1.out.so))).trans HT1.out.bm
       have cm2 : w2.cell? ⟨gm, 0, none⟩ = some (.slice (some ⟨go, 0, none⟩) m cpo) := (blk_cell QA 0).trans rfl
       have fa2 : w2.frozen? ⟨go, s.at_, none⟩ = false := by rw [← oA, World.frozen?_setCell]; exact fa
       have ca2 : ∃ v, w2.cell? ⟨go, s.at_, none⟩ = some v := by rw [← oA]; exact cell?_setCell_some ca
       obtain ⟨va2, ca2⟩ := ca2; have HSW := zQ hsw; have HK2 := zQ zB; have HKr2 := zQ NA; have HB2 := zQ dA; clear oA hsw zB NA dA QA cm0 cm1 co cr ca ff fa
       go_wp2_with (first
        | ((with_reducible refine gate_store (t := 31) (p := 88) rfl ?_); refine store_event (t := 31) (p := 88) (v := ?vo) (w1 := (w2.setCell ⟨go, s.at_, none⟩ (.slice (some ⟨rb1 f, 0, none⟩) L (cp1 f))).drew) ?hg ?ho ?hn ?hr ?_; (case ho => rfl); (case hg => rfl); (case hn => rfl); (case hr => first | (go_simp; done) | (go_simp; rfl)); intro w3 GA; have HT3 := zQ (show TbS S0 gm go m L cpo (fun i => rb1 (swp f s.at_ i)) (fun i => cp1 (swp f s.at_ i)) (fun i j => s.M (swp f s.at_ i) j) w3 from by rw [GA]; exact HSW.out.drew); have HK3 := zQ (show Kept w w3 S0 from by rw [GA]; exact Kept.drew (kept_store HK2.out HT1.out.so _)); have HKr3 := zQ (show Kept wr w3 S0 from by rw [GA]; exact Kept.drew (kept_store HKr2.out HT1.out.so _)); have HB3 := zQ (show Below w0.heap.size w0 w3 from by rw [GA]; exact below_drew1 (below_set HB2.out (HS0.out _ HT1.out.so))); have cr3 : w3.cell? ⟨rb1 f, c, none⟩ = some (.int .i64 x) := (by have h_ := HT3.out.t.r s.at_ hm c (by omega); rw [swp_right, HX.out] at h_; exact h_); clear GA cm2 fa2 ca2))
       obtain ⟨rb2, vA⟩ : ∃ r : Nat → Nat, (fun i => rb1 (swp f s.at_ i)) = r := ⟨_, rfl⟩; obtain ⟨cp2, PA⟩ : ∃ r : Nat → Nat, (fun i => cp1 (swp f s.at_ i)) = r := ⟨_, rfl⟩; obtain ⟨M2, hM2⟩ : ∃ r : Nat → Nat → Int, (fun i j => s.M (swp f s.at_ i) j) = r := ⟨_, rfl⟩; have lA := HT3.out; rw [vA, PA, hM2] at lA; have yA := zQ (show rb2 s.at_ = rb1 f from by rw [← vA]; show rb1 (swp f s.at_ s.at_) = _; rw [swp_right]); have TB := zQ (show M2 s.at_ c = x from by rw [← hM2]; show s.M (swp f s.at_ s.at_) c = _; rw [swp_right, HX.out]); have HM2 := zQ hM2; have HTT := zQ lA; have HFD := zQ (fndS_eq (M := s.M) (c := c) (m := m) (m - s.at_) s.at_ f (by omega) BB RB HZ.out (.inr (by rw [HX.out]; exact HNZ.out))); clear HT3 lA vA PA hM2 HT1 HSW HK2 HB2
       go_loopw [11] (fun jA w4 => ∃ (i : Nat), jA = .int .i64 (i : Int) ∧ i ≤ m ∧ Aside0 (TbS S0 gm go m L cpo rb2 cp2 (mixS M2 s.at_ c s.bf i 0) w4) ∧ Aside0 (Kept w w4 S0) ∧ Aside0 (Kept wr w4 S0) ∧ Aside0 (Below w0.heap.size w0 w4)) (fun jA _ => ((m : Int) - intOf jA).toNat)
       case atStart => exact ⟨0, by first | rfl | (simp; done), by omega, ⟨HTT.out.congr (fun i _ j _ => (mixS_zero M2 _ _ _ i j).symm)⟩, HK3, HKr3, HB3⟩
       case round =>
        obtain ⟨i, rfl, hi, HT4, HK4, HKr4, HB4⟩ := hrel; have cm0 : wr.cell? ⟨gm, 0, none⟩ = some (.slice (some ⟨go, 0, none⟩) m cpo) := (blk_cell HT4.out.bm 0).trans rfl; have cm1 : wr.cell? ⟨gm, 1, none⟩ = some (.int .i64 ((L - 1 : Nat) : Int)) := (blk_cell HT4.out.bm 1).trans rfl
        by_cases him : i < m
        ·have hib : decide ((i : Int) < (m : Int)) = true := decide_eq_true (by omega)
         have hib' : decide (i < m) = true := decide_eq_true him
         by_cases hia : i = s.at_
         ·have hiab : ((i : Int) == (s.at_ : Int)) = true := by rw [hia]; exact beq_self_eq_true _
          go_wp2
          go_roundw
          case rel => exact ⟨i + 1, by first | rfl | (simp; omega) | (congr 1; omega), by omega, ⟨HT4.out.congr (fun x _ y _ => by rw [hia]; exact mixS_skip M2 _ _ _ x y)⟩, HK4, HKr4, HB4⟩
          case measure => simp [intOf]; omega
         ·have hiab : ((i : Int) == (s.at_ : Int)) = false := by rw [beq_eq_false_iff_ne]; omega
          have HIA := zQ hia; have p1 : (0 ≤ (i : Int)) = True := eq_true (by omega); have q1 : ((i : Int) < (m : Int)) = True := eq_true (by omega); have p2 : (0 ≤ (c : Int)) = True := eq_true (by omega); have q2 : ((c : Int) < (L : Int)) = True := eq_true (by omega); have co := HT4.out.t.o i him
          have cq : wr.cell? ⟨rb2 i, c, none⟩ = some (.int .i64 (M2 i c)) := by
           have h_ := HT4.out.t.r i him c (by omega); rw [mixS_late (.inr ⟨rfl, Nat.zero_le _⟩)] at h_
           exact h_
          clear hia cr3
          go_wp2
          go_loopw [13] (fun uA w5 => ∃ (j : Nat), uA = .int .i64 (j : Int) ∧ j ≤ L ∧ Aside0 (TbS S0 gm go m L cpo rb2 cp2 (mixS M2 s.at_ c s.bf i j) w5) ∧ Aside0 (Kept w w5 S0) ∧ Aside0 (Kept wr w5 S0) ∧ Aside0 (Below w0.heap.size w0 w5)) (fun uA _ => ((L : Int) - intOf uA).toNat)
          case atStart => exact ⟨0, by first | rfl | (simp; done), by omega, HT4, HK4, ⟨Kept.refl _ _⟩, HB4⟩
          case round =>
           obtain ⟨j, rfl, hj, HT5, HK5, HKr5, HB5⟩ := hrel; have cm0 : wr.cell? ⟨gm, 0, none⟩ = some (.slice (some ⟨go, 0, none⟩) m cpo) := (blk_cell HT5.out.bm 0).trans rfl; have cm1 : wr.cell? ⟨gm, 1, none⟩ = some (.int .i64 ((L - 1 : Nat) : Int)) := (blk_cell HT5.out.bm 1).trans rfl
           by_cases hjL : j < L
           ·have hjb : decide ((j : Int) ≤ ((L - 1 : Nat) : Int)) = true := decide_eq_true (by omega)
            have hjb' : decide (j ≤ L - 1) = true := decide_eq_true (by omega); have p3 : (0 ≤ (j : Int)) = True := eq_true (by omega); have q3 : ((j : Int) < (L : Int)) = True := eq_true (by omega); have co := HT5.out.t.o i him
            have cx : wr.cell? ⟨rb2 i, j, none⟩ = some (.int .i64 (M2 i j)) := by
             have h_ := HT5.out.t.r i him j hjL; rw [mixS_late (.inr ⟨rfl, Nat.le_refl _⟩)] at h_
             exact h_
            have fx := HT5.out.t.rf i him j hjL
            have cy : wr.cell? ⟨rb1 f, j, none⟩ = some (.int .i64 (M2 s.at_ j)) := by
             have h_ := HT5.out.t.r s.at_ hm j hjL; rw [mixS_own rfl, yA.out] at h_
             exact h_
            have nb0 : (s.bf == 0) = false := beq_eq_false_iff_ne.mpr HNB.out; have nb1 : (s.bf != 0) = true := bne_iff_ne.mpr HNB.out; have nb2 : ¬ s.bf = 0 := HNB.out
            go_wp2
            go_region
            have hst := HT5.out.store him hjL (el s.bf (M2 s.at_ c) (M2 i c) (M2 i j) (M2 s.at_ j)); have HST := zQ (TbS.drew (hst.congr (fun x _ y _ => mixS_put HIA.out x y))); clear hst; have HS1 := zQ (Kept.drew (kept_store HK5.out (HT5.out.sr i him) (.int .i64 (el s.bf (M2 s.at_ c) (M2 i c) (M2 i j) (M2 s.at_ j))) (j := j))); have HS2 := zQ (Kept.drew (kept_store HKr5.out (HT5.out.sr i him) (.int .i64 (el s.bf (M2 s.at_ c) (M2 i c) (M2 i j) (M2 s.at_ j))) (j := j))); have HS3 := zQ (below_drew1 (below_set (g := rb2 i) (j := j) (v := .int .i64 (el s.bf (M2 s.at_ c) (M2 i c) (M2 i j) (M2 s.at_ j))) HB5.out (HS0.out _ (HT5.out.sr i him)))); rw [TB.out] at HST HS1 HS2 HS3
            unfold el at HST HS1 HS2 HS3
            clear cm0 cm1 co cx fx cy
            go_wp2
            go_roundw
            case rel => exact ⟨j + 1, by first | rfl | (simp; omega) | (congr 1; omega), by omega, HST, HS1, HS2, HS3⟩
            case measure => simp [intOf]; omega
           ·have hjb : decide ((j : Int) ≤ ((L - 1 : Nat) : Int)) = false := decide_eq_false (by omega)
            have hjb' : decide (j ≤ L - 1) = false := decide_eq_false (by omega)
            obtain rfl : j = L := by omega
            go_wp2
            go_roundw
            case rel => exact ⟨i + 1, by first | rfl | (simp; omega) | (congr 1; omega), by omega, ⟨HT5.out.congr (fun x _ y hy => mixS_row hy)⟩, HK5, ⟨Kept.then_ HKr4.out HKr5.out (fun k hk => .inl hk)⟩, HB5⟩
            case measure => simp [intOf]; omega
        ·have hib : decide ((i : Int) < (m : Int)) = false := decide_eq_false (by omega)
         have hib' : decide (i < m) = false := decide_eq_false him
         obtain rfl : i = m := by omega
         clear cr3; have AA := zQ (Kd.R_kept tA.out HKr4.out (fun k h1 h2 => Nat.not_lt.2 h1 (HT.out.old k h2))); have HBW := zQ (Nat.le_trans (below_size HB4.out) (Nat.le_refl _))
         go_wp2_with (first
          | ((with_reducible refine gate_builtin (b := .append) (xs := #[.tmp 153, .tmp 155]) rfl ?_); at_builtin; refine Kd.R_append (Kd.int .i64) (w0 := wr) w.heap.size rfl (.tmp 153) (.tmp 155) 142 3 (.int .i64 0) 8 rfl Try.underlying142 info3R rfl (by decide) (by omega) _ s.pv (c : Int) [.int .i64 (c : Int)] (fun k => w.heap.size ≤ k) (fun _ => False) rfl (by first | (go_simp; done) | (go_simp; rfl)) ?aP (fun _ hk => hk.elim) ?aF AA.out ?aB ?aS ?aL ?_; (case aP => exact rfl); (case aF => exact (fun k hk => Nat.le_trans HK4.out.1 hk)); (case aB => exact Below.refl _ _); (case aS => exact HK4.out.1); (case aL => omega); intro v6 w6 ho hb hg nB; have hkw : Kept wr w6 (fun k => w.heap.size ≤ k) := Kept.of_grown hg (Kept.refl _ _) (fun k hk => .inl (AA.out.1 k hk)); have rB := zQ ho; have HT6 := zQ (TbS.keptB HT4.out hL1 hkw (Nat.not_le.2 (blk_lt HT.out.bm)) (fun k hk => Nat.not_le.2 (HT.out.old k hk))); have HK6 := zQ (Kept.then_ HK4.out hkw (fun k h_ => .inr h_)); have HB6 := zQ (HB4.out.grown hg (below_size HB4.out) (fun k hk => Nat.le_trans (below_size HB.out) (AA.out.1 k hk))); clear ho hb hg nB hkw cm0 cm1))
         go_roundw
         case rel => exact ⟨⟨s.at_ + 1, x, mixS M2 s.at_ c s.bf i 0, s.pv ++ [(c : Int)]⟩, c + 1, rb2, cp2, by first | rfl | (simp; done), by first | rfl | (simp; omega) | (simp; done), by first | rfl | (simp; omega) | (congr 1; omega), by omega, by show s.at_ + 1 ≤ i; omega, by rw [List.length_append]; simp; omega, HNZ, ⟨by
          rw [redS_succ, HRD.out]
          unfold stepS
          rw [if_pos hm, HFD.out, if_neg (by omega), HX.out, HM2.out]⟩, HT6, rB, HB6, HK6⟩
         case measure => simp [intOf]; omega
     ·have hfb : decide ((f : Int) < (m : Int)) = false := decide_eq_false (by omega)
      have hfb' : decide (f < m) = false := decide_eq_false hfm
      obtain rfl : f = m := by omega
      have hee : ((f : Int) == (f : Int)) = true := beq_self_eq_true _
      go_wp2
      go_roundw
      case rel => exact ⟨s, c + 1, rb1, cp1, by first | rfl | (simp; done), by first | rfl | (simp; done), by first | rfl | (simp; omega) | (congr 1; omega), by omega, hat, by omega, HNB, ⟨by
       rw [redS_succ, HRD.out]
       unfold stepS
       rw [if_pos hm, if_pos (fndS_eq (m := f) _ _ f (by omega) BB (Nat.le_refl _) HZ.out (.inl rfl))]⟩, HT1, tA, HB1, ZA⟩
      case measure => simp [intOf]; omega
   ·have hmb : decide ((s.at_ : Int) < (m : Int)) = false := decide_eq_false (by omega)
    have hmb' : decide (s.at_ < m) = false := decide_eq_false hm
    have HF := zQ (show redS m M (L - 1) = s from by
     have e := redS_full (m := m) (M := M) (c := c) (by rw [HRD.out]; exact hm) (L - 1 - c); rw [show c + (L - 1 - c) = L - 1 from by omega, HRD.out] at e
     exact e)
    go_wp2
    go_ret2
    rw [HF.out]
    exact ⟨_, _, _, by first | rfl | (simp; done), tA.out, HT1.out, HB1.out, ZA.out⟩
  ·have hcb : decide ((c : Int) < ((L - 1 : Nat) : Int)) = false := decide_eq_false (by omega)
   have hcb' : decide (c < L - 1) = false := decide_eq_false hc; have HF := zQ (show redS m M (L - 1) = s from by rw [show L - 1 = c from by omega]; exact HRD.out)
   go_wp2
   go_ret2
   rw [HF.out]
   exact ⟨_, _, _, by first | rfl | (simp; done), tA.out, HT1.out, HB1.out, ZA.out⟩
def dT (kn : List S164) (b : S115) (i : Int) : Int × Int :=
 if b.f0 ≠ i ∧ b.f1 ≠ i then (0, 0) else
 if b.f1 = i then (wrap64 (-(wrap64 ((rd_T164 kn b.f1).f0 - (rd_T164 kn b.f0).f0))), wrap64 (-(wrap64 ((rd_T164 kn b.f1).f1 - (rd_T164 kn b.f0).f1)))) else
 (wrap64 ((rd_T164 kn b.f1).f0 - (rd_T164 kn b.f0).f0), wrap64 ((rd_T164 kn b.f1).f1 - (rd_T164 kn b.f0).f1))
def rowX (kn : List S164) (br : List S115) (ld : List S113) (bs : List Int) (i : Nat) : List Int := bs.map (fun k => (dT kn (rd_T115 br k) (i : Int)).1) ++ [wrap64 (-(rd_T113 ld (i : Int)).f0)]
def rowY (kn : List S164) (br : List S115) (ld : List S113) (bs : List Int) (i : Nat) : List Int := bs.map (fun k => (dT kn (rd_T115 br k) (i : Int)).2) ++ [wrap64 (-(rd_T113 ld (i : Int)).f1)]
def tabU (kn : List S164) (br : List S115) (ld : List S113) (bs : List Int) : Nat → List (List Int)
 | 0 => []
 | i + 1 => if (rd_T164 kn (i : Int)).f2 = true then tabU kn br ld bs i else tabU kn br ld bs i ++ [rowX kn br ld bs i] ++ [rowY kn br ld bs i]
def TabOk (kn : List S164) (br : List S115) (ld : List S113) (bs : List Int) : Prop :=
 kn.length ≤ ld.length ∧ kn.length ≤ 1024 ∧ bs.length ≤ 1024 ∧ br.length ≤ 1024 ∧ ∀ q, q < bs.length → 0 ≤ bs.getD q 0 ∧ bs.getD q 0 < br.length ∧ (0 ≤ (rd_T115 br (bs.getD q 0)).f0 ∧ (rd_T115 br (bs.getD q 0)).f0 < kn.length) ∧ 0 ≤ (rd_T115 br (bs.getD q 0)).f1 ∧ (rd_T115 br (bs.getD q 0)).f1 < kn.length
theorem tabU_len (kn : List S164) (br : List S115) (ld : List S113) (bs : List Int) : ∀ i, (tabU kn br ld bs i).length ≤ 2 * i
 | 0 => Nat.le_refl 0
 | i + 1 => by
  unfold tabU
  have := tabU_len kn br ld bs i
  split
  ·omega
  ·simp; omega
theorem tabU_row (kn : List S164) (br : List S115) (ld : List S113) (bs : List Int) : ∀ i, ∀ row ∈ tabU kn br ld bs i, row.length = bs.length + 1
 | 0 => fun row h => by simp [tabU] at h
 | i + 1 => fun row h => by
  unfold tabU at h
  split at h
  ·exact tabU_row kn br ld bs i row h
  ·rcases List.mem_append.1 h with h | h
   ·rcases List.mem_append.1 h with h | h
    ·exact tabU_row kn br ld bs i row h
    ·rw [List.mem_singleton.1 h]; simp [rowX]
   ·rw [List.mem_singleton.1 h]; simp [rowY]
theorem take_next {α : Type} (f : Int → α) (bs : List Int) (q : Nat) (h : q < bs.length) : (bs.take q).map f ++ [f (bs.getD q 0)] = (bs.take (q + 1)).map f := by
 rw [List.take_succ_eq_append_getElem h, List.map_append, List.getD_eq_getElem?_getD, List.getElem?_eq_getElem h]
 rfl
theorem S_head {α : Type} {d : Kd α} {e base n cap b : Nat} {ok : Nat → Prop} {w : World} {A : Option Addr} {xs : List α} (h : Kd.S d e w base ok (.slice A n cap) xs) (hb : (Value.slice A n cap).ownBlock = some b) : ∃ g, A = some ⟨g, 0, none⟩ := by
 obtain ⟨_, inner, ho, _⟩ := Kd.S_R h
 rcases ho.2 with ⟨hv, _⟩ | ⟨g, cap', cur, hv, _⟩
 ·injection hv with ha _ _
  subst ha
  simp [Value.ownBlock] at hb
 ·injection hv with ha _ _
  exact ⟨g, ha⟩
structure TXY (w0 : World) (gm go cpo : Nat) (last : Int) (rows : List (List Int)) (xs ys : List Int) (vx vy : Value) (w : World) : Prop where
 hm : w.heap[gm]? = some (.cells #[.slice (some ⟨go, 0, none⟩) rows.length cpo, .int .i64 last] 157 (0, 0))
 hs : Kd.S (Kd.slice 2 (Kd.int .i64)) 31 w w0.heap.size (fun k => ((w0.heap.size ≤ k ∧ k ≠ gm) ∧ some k ≠ vx.ownBlock) ∧ some k ≠ vy.ownBlock) (.slice (some ⟨go, 0, none⟩) rows.length cpo) rows
 hx : Kd.R (Kd.int .i64) 2 w w0.heap.size (fun k => (w0.heap.size ≤ k ∧ k ≠ gm) ∧ some k ≠ vy.ownBlock) vx xs
 hy : Kd.R (Kd.int .i64) 2 w w0.heap.size (fun k => (w0.heap.size ≤ k ∧ k ≠ gm) ∧ some k ≠ vx.ownBlock) vy ys
 hb : Below w0.heap.size w0 w
theorem TXY.below {w0 w w' : World} {gm go cpo : Nat} {last : Int} {rows : List (List Int)} {xs ys : List Int} {vx vy : Value} (h : TXY w0 gm go cpo last rows xs ys vx vy w) (hb : Below w.heap.size w w') : TXY w0 gm go cpo last rows xs ys vx vy w' :=
 ⟨blk_below h.hm hb, Kd.S_below h.hs hb, Kd.R_below h.hx hb, Kd.R_below h.hy hb, below_step h.hb hb⟩
theorem TXY.putx {w0 W w1 : World} {gm go cpo : Nat} {last : Int} {rows : List (List Int)} {xs ys xs1 : List Int} {vx vy v1 : Value} (h : TXY w0 gm go cpo last rows xs ys vx vy W) (hr : Kd.R (Kd.int .i64) 2 w1 w0.heap.size (fun k => (w0.heap.size ≤ k ∧ k ≠ gm) ∧ some k ≠ vy.ownBlock) v1 xs1) (hg : W.grownBy w1 vx.ownBlock) (hat : v1.ownBlock = vx.ownBlock ∨ ∃ b, v1.ownBlock = some b ∧ W.heap.size ≤ b) : TXY w0 gm go cpo last rows xs1 ys v1 vy w1 :=
 ⟨blk_grown h.hm hg (fun e => (h.hx.1 gm e.symm).1.2 rfl), Kd.S_mono (Kd.S_after (ok := fun k => (w0.heap.size ≤ k ∧ k ≠ gm) ∧ some k ≠ vy.ownBlock) (Kd.S_mono h.hs (fun k hk => ⟨⟨hk.1.1, hk.2⟩, hk.1.2⟩)) hg hat) (fun k hk => ⟨⟨hk.1.1, hk.2⟩, hk.1.2⟩), hr, Kd.R_after h.hy hg hat, h.hb.grown hg (below_size h.hb) (fun k hk => (h.hx.1 k hk).1.1)⟩
theorem TXY.puty {w0 W w1 : World} {gm go cpo : Nat} {last : Int} {rows : List (List Int)} {xs ys ys1 : List Int} {vx vy v1 : Value} (h : TXY w0 gm go cpo last rows xs ys vx vy W) (hr : Kd.R (Kd.int .i64) 2 w1 w0.heap.size (fun k => (w0.heap.size ≤ k ∧ k ≠ gm) ∧ some k ≠ vx.ownBlock) v1 ys1) (hg : W.grownBy w1 vy.ownBlock) (hat : v1.ownBlock = vy.ownBlock ∨ ∃ b, v1.ownBlock = some b ∧ W.heap.size ≤ b) : TXY w0 gm go cpo last rows xs ys1 vx v1 w1 :=
 ⟨blk_grown h.hm hg (fun e => (h.hy.1 gm e.symm).1.2 rfl), Kd.S_after (ok := fun k => (w0.heap.size ≤ k ∧ k ≠ gm) ∧ some k ≠ vx.ownBlock) h.hs hg hat, Kd.R_after h.hx hg hat, hr, h.hb.grown hg (below_size h.hb) (fun k hk => (h.hy.1 k hk).1.1)⟩
theorem TXY.freshx {w0 W : World} {gm go cpo : Nat} {last : Int} {rows : List (List Int)} {xs ys : List Int} {vx vy : Value} (h : TXY w0 gm go cpo last rows xs ys vx vy W) (k : Nat) (hk : W.heap.size ≤ k) : (w0.heap.size ≤ k ∧ k ≠ gm) ∧ some k ≠ vy.ownBlock :=
 ⟨⟨Nat.le_trans (below_size h.hb) hk, fun e => by have := blk_lt h.hm; omega⟩, fun e => by have := Kd.R_lt h.hy k e.symm; omega⟩
theorem TXY.freshy {w0 W : World} {gm go cpo : Nat} {last : Int} {rows : List (List Int)} {xs ys : List Int} {vx vy : Value} (h : TXY w0 gm go cpo last rows xs ys vx vy W) (k : Nat) (hk : W.heap.size ≤ k) : (w0.heap.size ≤ k ∧ k ≠ gm) ∧ some k ≠ vx.ownBlock :=
 ⟨⟨Nat.le_trans (below_size h.hb) hk, fun e => by have := blk_lt h.hm; omega⟩, fun e => by have := Kd.R_lt h.hx k e.symm; omega⟩
theorem TXY.drewN {w0 w : World} {gm go cpo : Nat} {last : Int} {rows : List (List Int)} {xs ys : List Int} {vx vy : Value} (h : TXY w0 gm go cpo last rows xs ys vx vy w) (m : Nat) : TXY w0 gm go cpo last rows xs ys vx vy (w.drewN m) := h.below (pw_below_drewN (Below.refl _ _) m)
theorem TXY.okp {w0 W : World} {gm go cpo : Nat} {last : Int} {rows : List (List Int)} {xs ys : List Int} {vx vy : Value} (h : TXY w0 gm go cpo last rows xs ys vx vy W) (k : Nat) (hk : some k = vx.ownBlock) : ((w0.heap.size ≤ k ∧ k ≠ gm) ∧ some k ≠ vy.ownBlock) ∧ some k ≠ (Value.slice (some ⟨go, 0, none⟩) rows.length cpo).ownBlock :=
 ⟨h.hx.1 k hk.symm, fun e => ((Kd.S_R h.hs).1 k e.symm).1.2 hk⟩
theorem TXY.push {w0 W w1 : World} {gm go cpo : Nat} {last : Int} {rows : List (List Int)} {xs ys : List Int} {vx vy v1 : Value} (h : TXY w0 gm go cpo last rows xs ys vx vy W) (lB : w0.heap.size ≤ gm) (hr : Kd.S (Kd.slice 2 (Kd.int .i64)) 31 w1 w0.heap.size (fun k => (w0.heap.size ≤ k ∧ k ≠ gm) ∧ some k ≠ vy.ownBlock) v1 (rows ++ [xs])) (hg : W.grownBy w1 (Value.slice (some ⟨go, 0, none⟩) rows.length cpo).ownBlock) :
  ∃ XA cpo2, v1 = .slice (some ⟨XA, 0, none⟩) (rows ++ [xs]).length cpo2 ∧ w1.heap[gm]? = some (.cells #[.slice (some ⟨go, 0, none⟩) rows.length cpo, .int .i64 last] 157 (0, 0)) ∧ Below w0.heap.size w0 w1 ∧ TXY w0 gm XA cpo2 last (rows ++ [xs]) [] ys (.slice none 0 0) vy (w1.setCell ⟨gm, 0, none⟩ v1) := by
 obtain ⟨XA, cpo2, e1, _, _, _⟩ := Kd.S_form hr (by simp)
 have hgm : w1.heap[gm]? = some (.cells #[.slice (some ⟨go, 0, none⟩) rows.length cpo, .int .i64 last] 157 (0, 0)) := blk_grown h.hm hg (fun e => ((Kd.S_R h.hs).1 gm e.symm).1.1.2 rfl)
 have iA : Below w0.heap.size w0 w1 := h.hb.grown hg (below_size h.hb) (fun k hk => ((Kd.S_R h.hs).1 k hk).1.1.1)
 have DA := Kd.R_grown (R_tell (ok' := fun k => some k = vy.ownBlock ∧ (w0.heap.size ≤ k ∧ k ≠ gm)) rfl h.hy (fun k e hk _ _ => ⟨e.symm, hk.1⟩)) hg (fun k hk e => ((Kd.S_R h.hs).1 k e.symm).2 hk.1)
 refine ⟨XA, cpo2, e1, hgm, iA, ⟨by rw [e1]; exact blk_put hgm 0 _ rfl, ?_, Kd.R_nil _ _ _ _ _, ?_, below_set iA lB⟩⟩
 ·rw [← e1]
  exact Kd.S_mono (Kd.S_far (p := ⟨gm, 0, none⟩) hr (fun k hk => hk.1.2) v1) (fun k hk => ⟨⟨hk.1, by simp [Value.ownBlock]⟩, hk.2⟩)
 ·exact Kd.R_mono (Kd.R_far (p := ⟨gm, 0, none⟩) DA (fun k hk => hk.2.2) v1) (fun k hk => ⟨hk.2, by simp [Value.ownBlock]⟩)
theorem TXY.turn {w0 w : World} {gm go cpo : Nat} {last : Int} {rows : List (List Int)} {xs ys : List Int} {vx vy : Value} (h : TXY w0 gm go cpo last rows xs ys vx vy w) : TXY w0 gm go cpo last rows ys xs vy vx w :=
 ⟨h.hm, Kd.S_mono h.hs (fun k hk => ⟨⟨hk.1.1, hk.2⟩, hk.1.2⟩), h.hy, h.hx, h.hb⟩
def tableR.T22 : Bool × List (List Nat × List Nat) := (true, [([], []), ([], []), ([1], [1]), ([2], [2]), ([3], [3]), ([], []), ([], []), ([], []), ([6, 7], [6, 7]), ([8], [8]), ([9], [9]), ([10], [10]), ([11], [11]), ([5, 12], [5, 12]), ([13], [13]), ([4, 14, 13], [4, 14]), ([0, 0, 1, 2, 3, 4, 5, 6, 7, 8, 9, 10, 11, 12, 13, 14, 15], [0]), ([16, 0, 1, 2, 3, 4, 5, 6, 7, 8, 9, 10, 11, 12, 13, 14, 15], [16]), ([17, 15, 15, 0, 1, 2, 3, 4, 5, 6, 7, 8, 9, 10, 11, 12, 13, 14, 15], [15, 17])])
def tableR.B22 : List Nat := [0, 0, 2, 6, 14, 0, 0, 0, 192, 448, 960, 1984, 4032, 8160, 16352, 32766, 65535, 131071, 262143]
theorem tableR.tab22 : rtab .any (opsOf Try.f127 22) = tableR.T22 := by kernel_rfl
theorem tableR.bits22 : waitsOk tableR.T22.2 tableR.B22 = true := by kernel_rfl
def tableR.T23 : Bool × List (List Nat × List Nat) := (true, [([], []), ([], []), ([1], [1]), ([2], [2]), ([3], [3]), ([], []), ([], []), ([], []), ([6, 7], [6, 7]), ([8], [8]), ([9], [9]), ([10], [10]), ([11], [11]), ([5, 12], [5, 12]), ([13], [13]), ([4, 14, 13], [4, 14]), ([0, 0, 1, 2, 3, 4, 5, 6, 7, 8, 9, 10, 11, 12, 13, 14, 15], [0]), ([16, 0, 1, 2, 3, 4, 5, 6, 7, 8, 9, 10, 11, 12, 13, 14, 15], [16]), ([17, 15, 15, 0, 1, 2, 3, 4, 5, 6, 7, 8, 9, 10, 11, 12, 13, 14, 15], [15, 17])])
def tableR.B23 : List Nat := [0, 0, 2, 6, 14, 0, 0, 0, 192, 448, 960, 1984, 4032, 8160, 16352, 32766, 65535, 131071, 262143]
theorem tableR.tab23 : rtab .any (opsOf Try.f127 23) = tableR.T23 := by kernel_rfl
theorem tableR.bits23 : waitsOk tableR.T23.2 tableR.B23 = true := by kernel_rfl
theorem info31R : (Try.prog.info? 31).map (fun i => (i.zero, i.size, i.bytes)) = some (some (.slice none 0 0), 1, 24) := by kernel_rfl
theorem table_calls (g0 : Nat) (A0 A1 A2 A3 : Option Addr) (c0 c1 c2 c3 : Nat) (kn : List S164) (br : List S115) (ld : List S113) (bs : List Int) (w : World) (hbk : w.heap[g0]? = some (.cells #[.slice A0 kn.length c0, .slice A1 br.length c1] 27 (0, 0)))
  (wB : Kd.C k164 w A0 kn.length kn) (LA : Kd.C k115 w A1 br.length br) (KA : Kd.C k113 w A2 ld.length ld) (vB : Kd.C (Kd.int .i64) w A3 bs.length bs) (ho : TabOk kn br ld bs) :
  Calls Try.prog 127 #[.pointer (some ⟨g0, 0, none⟩), .slice A2 ld.length c2, .slice A3 bs.length c3] w fun e w' => ∃ (gm go cpo : Nat), e = .returned (.pointer (some ⟨gm, 0, none⟩)) ∧ w.heap.size ≤ gm ∧ w'.heap[gm]? = some (.cells #[.slice (some ⟨go, 0, none⟩) (tabU kn br ld bs kn.length).length cpo, .int .i64 (bs.length : Int)] 157 (0, 0)) ∧ Kd.S (Kd.slice 2 (Kd.int .i64)) 31 w' w.heap.size (fun k => w.heap.size ≤ k ∧ k ≠ gm) (.slice (some ⟨go, 0, none⟩) (tabU kn br ld bs kn.length).length cpo) (tabU kn br ld bs kn.length) ∧ Below w.heap.size w w' := by
 have pA := Try.underlying157
 have HA := Try.underlying88
 have IA := Try.underlying31
 have gB := Try.underlying27
 have MB := Try.underlying24
 have iB := Try.underlying25
 have LB := Try.underlying28
 have sB := Try.underlying164
 have tB := Try.underlying115
 have uB := Try.underlying113
 have HBK := zQ hbk
 have zA := zQ wB
 have VA := zQ LA
 have yA := zQ KA
 have CA := zQ vB
 obtain ⟨h1, h2, h3, h4, h5⟩ := ho
 have HO := zQ h5
 clear hbk wB LA KA vB h5
 go_enter Try.func127, Try.ntmps127
 go_wp2_with (first
  | ((with_reducible refine zd 15 ?_); refine Kd.S_lit (Kd.slice 2 (Kd.int .i64)) (w0 := w) w.heap.size 31 ?hg (N := 15) ?hd (xs := ([] : List (List Int))) (inner := []) (ok := fun k => w.heap.size ≤ k) (okp := fun k => w.heap.size ≤ k) ?hr (Reps.none _ _) (fun _ hk => hk) (Nat.le_refl _) (Below.refl _ _) (Nat.le_refl _) (by simp) ?_; (case hd => rfl); (case hg => rfl); (case hr => first | (go_simp; done) | (go_simp; rfl)); intro v1 w1 xA iA hg_ hnew_; clear hg_; obtain ⟨A9, c9, ev9⟩ := Kd.S_slice xA; subst ev9; obtain ⟨go, hgo⟩ : ∃ go, A9 = some ⟨go, 0, none⟩ := (by obtain ⟨b, h_, _⟩ := hnew_; exact S_head xA h_); subst hgo; have tA := zQ xA; have HB1 := zQ iA; clear xA iA hnew_)
  | ((with_reducible refine zd 19 ?_); refine zbx (N := 19) (cs := #[.slice (some ⟨go, 0, none⟩) 0 c9, .int .i64 (bs.length : Int)]) (t := 157) ?_; intro gm hgm w2 dA kB; have HB2 := zQ (below_step HB1.out kB); have HM2 := zQ dA; have HGM := zQ (show w.heap.size ≤ gm from by rw [hgm]; exact below_size HB1.out); have UB := zQ (show Kd.S (Kd.slice 2 (Kd.int .i64)) 31 w2 w.heap.size (fun k => w.heap.size ≤ k ∧ k ≠ gm) (.slice (some ⟨go, 0, none⟩) 0 c9) [] from Kd.S_mono (Kd.S_below (Kd.S_bound tA.out) kB) (fun k h_ => ⟨h_.1, by have := h_.2.2.1; omega⟩)); clear dA kB hgm))
 go_loopw [8] (fun v8 wr => ∃ (i nA cpo : Nat), v8 = .int .i64 (i : Int) ∧ i ≤ kn.length ∧ Aside0 (wr.heap[gm]? = some (.cells #[.slice (some ⟨nA, 0, none⟩) (tabU kn br ld bs i).length cpo, .int .i64 (bs.length : Int)] 157 (0, 0))) ∧ Aside0 (Kd.S (Kd.slice 2 (Kd.int .i64)) 31 wr w.heap.size (fun k => w.heap.size ≤ k ∧ k ≠ gm) (.slice (some ⟨nA, 0, none⟩) (tabU kn br ld bs i).length cpo) (tabU kn br ld bs i)) ∧ Aside0 (Below w.heap.size w wr)) (fun v8 _ => ((kn.length : Int) - intOf v8).toNat)
 case atStart => exact ⟨0, go, c9, by first | rfl | (simp; done), by omega, HM2, UB, HB2⟩
 case round =>
  obtain ⟨i, nA, cpo, rfl, hi, HM, HS, HB⟩ := hrel; have cz0 : wr.cell? ⟨g0, 0, none⟩ = some (.slice A0 kn.length c0) := (blk_cell (blk_below HBK.out HB.out) 0).trans rfl; have cz1 : wr.cell? ⟨g0, 1, none⟩ = some (.slice A1 br.length c1) := (blk_cell (blk_below HBK.out HB.out) 1).trans rfl
  by_cases hik : i < kn.length
  ·have hib : decide ((i : Int) < (kn.length : Int)) = true := decide_eq_true (by omega)
   have hib' : decide (i < kn.length) = true := decide_eq_true hik; have p1 : (0 ≤ (i : Int)) = True := eq_true (by omega); have q1 : ((i : Int) < (kn.length : Int)) = True := eq_true (by omega); obtain ⟨GB, ea0, k0, k1, k2⟩ := at_T164 (Kd.C_below zA.out HB.out) (i : Int) (by omega) (by omega); subst ea0; rw [Int.toNat_natCast] at k0 k1 k2; obtain ⟨fx, hfx⟩ : ∃ b, (rd_T164 kn (i : Int)).f2 = b := ⟨_, rfl⟩; rw [hfx] at k2; have HFX := zQ hfx; clear hfx k0 k1
   cases fx with
   | true =>
    go_wp2
    have HU := zQ (show tabU kn br ld bs (i + 1) = tabU kn br ld bs i from by show (if _ then _ else _) = _; rw [if_pos HFX.out])
    go_roundw
    case rel => exact ⟨i + 1, nA, cpo, by first | rfl | (simp; omega) | (congr 1; omega), by omega, by rw [HU.out]; exact HM, by rw [HU.out]; exact HS, HB⟩
    case measure => simp [intOf]; omega
   | false =>
    go_wp2_with (first
     | ((with_reducible refine zd 37 ?_); refine Kd.R_lit (Kd.int .i64) _ 2 ?hg (N := 37) ?hd (xs := ([] : List Int)) (inner := []) (ok := fun k => wr.heap.size ≤ k) (okp := fun k => wr.heap.size ≤ k) ?hr ?hp (fun _ hk => hk) (Nat.le_refl _) (Below.refl _ _) (Nat.le_refl _) (by simp) ?_; (case hd => rfl); (case hg => rfl); (case hr => first | (go_simp; done) | (go_simp; rfl)); (case hp => exact (Reps.none _ _)); intro v3 w3 xB gA hg_ hnew_; clear hg_ hnew_; have YA := zQ xB; have HB3 := zQ gA; clear xB gA)
     | ((with_reducible refine zd 38 ?_); refine Kd.R_lit (Kd.int .i64) _ 2 ?hg (N := 38) ?hd (xs := ([] : List Int)) (inner := []) (ok := fun k => w3.heap.size ≤ k) (okp := fun k => w3.heap.size ≤ k) ?hr ?hp (fun _ hk => hk) (Nat.le_refl _) (Below.refl _ _) (Nat.le_refl _) (by simp) ?_; (case hd => rfl); (case hg => rfl); (case hr => first | (go_simp; done) | (go_simp; rfl)); (case hp => exact (Reps.none _ _)); intro v4 w4 wA TA hg_ hnew_; clear hg_ hnew_; have AA := zQ wA; have HB4 := zQ TA; clear wA TA))
    have HXY := zQ (show TXY w gm nA cpo (bs.length : Int) (tabU kn br ld bs i) [] [] v3 v4 w4 from
     ⟨blk_below (blk_below HM.out HB3.out) HB4.out,
      Kd.S_below (Kd.S_mono (Kd.S_below (Kd.S_bound HS.out) HB3.out) (fun k hk => ⟨⟨hk.1, fun e => by have := YA.out.1 k e.symm; have := hk.2.2.1; omega⟩, fun e => by have := AA.out.1 k e.symm; have := hk.2.2.1; have := below_size HB3.out; omega⟩)) HB4.out,
      Kd.R_lower (R_tell rfl (Kd.R_below YA.out HB4.out) (fun k e h1_ h2_ h3_ => ⟨⟨Nat.le_trans (below_size HB.out) h1_, fun e_ => by have := blk_lt HM.out; omega⟩, fun e_ => by have := AA.out.1 k e_.symm; have := Kd.R_lt YA.out k e; omega⟩)) (below_size HB.out),
      Kd.R_lower (R_tell rfl AA.out (fun k e h1_ h2_ h3_ => ⟨⟨Nat.le_trans (below_size HB.out) (Nat.le_trans (below_size HB3.out) h1_), fun e_ => by have := blk_lt HM.out; have := below_size HB3.out; omega⟩, fun e_ => by have := Kd.R_lt YA.out k e_.symm; omega⟩)) (Nat.le_trans (below_size HB.out) (below_size HB3.out)),
      below_step (below_step HB.out HB3.out) HB4.out⟩)
    clear cz0 cz1 k2 HM HS HB
    go_loopw [9, 10, 11] (fun v9 JB jA wr => ∃ (q : Nat), jA = .int .i64 (q : Int) ∧ q ≤ bs.length ∧ Aside0 (TXY w gm nA cpo (bs.length : Int) (tabU kn br ld bs i) ((bs.take q).map (fun k => (dT kn (rd_T115 br k) (i : Int)).1)) ((bs.take q).map (fun k => (dT kn (rd_T115 br k) (i : Int)).2)) v9 JB wr)) (fun _ _ jA _ => ((bs.length : Int) - intOf jA).toNat)
    case atStart => exact ⟨0, by first | rfl | (simp; done), by omega, HXY⟩
    case round =>
     obtain ⟨q, rfl, hq, HXY⟩ := hrel; have cz0 : wr.cell? ⟨g0, 0, none⟩ = some (.slice (some GB) kn.length c0) := (blk_cell (blk_below HBK.out HXY.out.hb) 0).trans rfl; have cz1 : wr.cell? ⟨g0, 1, none⟩ = some (.slice A1 br.length c1) := (blk_cell (blk_below HBK.out HXY.out.hb) 1).trans rfl
     by_cases hqk : q < bs.length
     ·have hqb : decide ((q : Int) < (bs.length : Int)) = true := decide_eq_true (by omega)
      have hqb' : decide (q < bs.length) = true := decide_eq_true hqk; have hqo := HO.out q hqk; obtain ⟨kq, hkq⟩ : ∃ z, bs.getD q 0 = z := ⟨_, rfl⟩; rw [hkq] at hqo; obtain ⟨bq, hbq⟩ : ∃ z, rd_T115 br kq = z := ⟨_, rfl⟩; rw [hbq] at hqo; obtain ⟨b0, b1, b2⟩ := bq; obtain ⟨z1, z2, z3, z4⟩ := hqo; have z3' : 0 ≤ b0 ∧ b0 < (kn.length : Int) := z3; have z4' : 0 ≤ b1 ∧ b1 < (kn.length : Int) := z4; obtain ⟨SB, ea3, hc3_⟩ := Kd.at_int (Kd.C_below CA.out HXY.out.hb) (q : Int) (by omega) (by omega); subst ea3
      have hrd : rd bs (q : Int) = kq := by show bs.getD (Int.toNat (q : Int)) 0 = _; rw [Int.toNat_natCast]; exact hkq
      rw [hrd, Int.toNat_natCast] at hc3_; obtain ⟨UA, ea1, kb0, kb1, kb2⟩ := at_T115 (Kd.C_below VA.out HXY.out.hb) kq z1 z2; subst ea1; rw [hbq] at kb0 kb1 kb2; have kb0' : wr.cell? (UA.add (kq.toNat * 3)) = some (.int .i64 b0) := kb0; have kb1' : wr.cell? ⟨(UA.add (kq.toNat * 3)).block, (UA.add (kq.toNat * 3)).off + 1, none⟩ = some (.int .i64 b1) := kb1; have kb2' : wr.cell? ⟨(UA.add (kq.toNat * 3)).block, (UA.add (kq.toNat * 3)).off + 2, none⟩ = some (.bool b2) := kb2; have p1 : (0 ≤ (q : Int)) = True := eq_true (by omega); have q1 : ((q : Int) < (bs.length : Int)) = True := eq_true (by omega); have p2 : (0 ≤ kq) = True := eq_true z1; have q2 : (kq < (br.length : Int)) = True := eq_true z2; have HKQ := zQ hkq; have HBQ := zQ hbq; clear hkq hbq hrd kb0 kb1 kb2 z1 z2 z3 z4
      have hal : ∀ a v, wr.cell? a = some v → (wr.alloc (Obj.cells #[.int .i64 0, .int .i64 0, .bool false] 115)).cell? a = some v := fun a v h => (World.cell?_alloc_lt _ _ _ (World.block_lt_of_cell? _ _ h)).trans h
      have a1_ := hal _ _ cz1; have a2_ := hal _ _ hc3_; have a3_ := hal _ _ kb0'; have a4_ := hal _ _ kb1'; have a5_ := hal _ _ kb2'; clear hal
      go_wp2
      go_region
      generalize eB : (wr.alloc (Obj.cells #[.int .i64 b0, .int .i64 b1, .bool b2] 115)).drew = w5
      obtain ⟨gb, hgb⟩ : ∃ g, wr.heap.size = g := ⟨_, rfl⟩
      have EB : Below wr.heap.size wr w5 := by rw [← eB]; exact below_drew1 (below_alloc (Below.refl _ _) _)
      have hbb : w5.heap[gb]? = some (.cells #[.int .i64 b0, .int .i64 b1, .bool b2] 115 (0, 0)) := by rw [← eB, ← hgb]; exact heap_alloc_new wr _
      rw [hgb]; have cA := zQ (HXY.out.below EB); have cb0 : w5.cell? ⟨gb, 0, none⟩ = some (.int .i64 b0) := (blk_cell hbb 0).trans rfl; have cb1 : w5.cell? ⟨gb, 1, none⟩ = some (.int .i64 b1) := (blk_cell hbb 1).trans rfl; have cz5 : w5.cell? ⟨g0, 0, none⟩ = some (.slice (some GB) kn.length c0) := (blk_cell (blk_below HBK.out cA.out.hb) 0).trans rfl; obtain ⟨bC, ea4, m0, m1, _⟩ := at_T164 (Kd.C_below zA.out cA.out.hb) b0 z3'.1 z3'.2; obtain rfl := Option.some.inj ea4; obtain ⟨aC, ea5, n0, n1, _⟩ := at_T164 (Kd.C_below zA.out cA.out.hb) b1 z4'.1 z4'.2; obtain rfl := Option.some.inj ea5; obtain ⟨x0, dB⟩ : ∃ z, (rd_T164 kn b0).f0 = z := ⟨_, rfl⟩; obtain ⟨y0, bB⟩ : ∃ z, (rd_T164 kn b0).f1 = z := ⟨_, rfl⟩; obtain ⟨x1, cB⟩ : ∃ z, (rd_T164 kn b1).f0 = z := ⟨_, rfl⟩; obtain ⟨y1, DA⟩ : ∃ z, (rd_T164 kn b1).f1 = z := ⟨_, rfl⟩; rw [dB] at m0; rw [bB] at m1; rw [cB] at n0; rw [DA] at n1; have pB := zQ dB; have HY0 := zQ bB; have oB := zQ cB; have HY1 := zQ DA; have p3 : (0 ≤ b0) = True := eq_true z3'.1; have q3 : (b0 < (kn.length : Int)) = True := eq_true z3'.2; have p4 : (0 ≤ b1) = True := eq_true z4'.1; have q4 : (b1 < (kn.length : Int)) = True := eq_true z4'.2; clear eB hgb EB hbb dB bB cB DA a1_ a2_ a3_ a4_ a5_ kb0' kb1' kb2' hc3_ cz0 cz1 HXY z3' z4'
      by_cases hcB : b1 = (i : Int)
      ·have t1 : (b1 == (i : Int)) = true := beq_iff_eq.mpr hcB
       have t2 : (b1 != (i : Int)) = false := bne_eq_false_iff_eq.mpr hcB; have HCB := zQ hcB
       by_cases hcA : b0 = (i : Int)
       ·have t3 : (b0 == (i : Int)) = true := beq_iff_eq.mpr hcA
        have t4 : (b0 != (i : Int)) = false := bne_eq_false_iff_eq.mpr hcA
        have HD := zQ (show dT kn (rd_T115 br kq) (i : Int) = (wrap64 (-(wrap64 (x1 - x0))), wrap64 (-(wrap64 (y1 - y0)))) from by
         rw [HBQ.out]
         show (if b0 ≠ (i : Int) ∧ b1 ≠ (i : Int) then ((0, 0) : Int × Int) else if b1 = (i : Int) then _ else _) = _
         rw [if_neg (fun h_ => h_.2 HCB.out), if_pos HCB.out]; first | rfl | (rw [pB.out, oB.out, HY0.out, HY1.out]))
        (try clear hcA); (try clear hcB)
        go_wp2_with fail
        repeat (go_quiet (fail); try go_wp2_with (first
         | ((with_reducible refine gate_builtin (b := .append) (xs := #[.tmp 111, .tmp 113]) rfl ?_); at_builtin; refine Kd.R_append (Kd.int .i64) (w0 := w) w.heap.size rfl (.tmp 111) (.tmp 113) 31 2 (.int .i64 0) 8 rfl Try.underlying31 info2 rfl (by decide) (by omega) _ _ (wrap64 (-(wrap64 (x1 - x0)))) [.int .i64 (wrap64 (-(wrap64 (x1 - x0))))] (fun k => (w.heap.size ≤ k ∧ k ≠ gm) ∧ some k ≠ u10.ownBlock) (fun _ => False) rfl (by first | (go_simp; done) | (go_simp; rfl)) ?aP (fun _ hk => hk.elim) ?aF (TXY.drewN cA.out _).hx ?aB ?aS ?aL ?_; (case aP => exact rfl); (case aF => exact (TXY.drewN cA.out _).freshx); (case aB => exact (TXY.drewN cA.out _).hb); (case aS => exact below_size (TXY.drewN cA.out _).hb); (case aL => have := List.length_take_le q bs; simp; omega); intro v6 w6 ho hb hg hat; have bA := zQ (TXY.putx (TXY.drewN cA.out _) ho hg hat); clear ho hb hg hat)
         | ((with_reducible refine gate_builtin (b := .append) (xs := #[.tmp 115, .tmp 117]) rfl ?_); at_builtin; refine Kd.R_append (Kd.int .i64) (w0 := w) w.heap.size rfl (.tmp 115) (.tmp 117) 31 2 (.int .i64 0) 8 rfl Try.underlying31 info2 rfl (by decide) (by omega) _ _ (wrap64 (-(wrap64 (y1 - y0)))) [.int .i64 (wrap64 (-(wrap64 (y1 - y0))))] (fun k => (w.heap.size ≤ k ∧ k ≠ gm) ∧ some k ≠ v6.ownBlock) (fun _ => False) rfl (by first | (go_simp; done) | (go_simp; rfl)) ?aP (fun _ hk => hk.elim) ?aF bA.out.hy ?aB ?aS ?aL ?_; (case aP => exact rfl); (case aF => exact bA.out.freshy); (case aB => exact bA.out.hb); (case aS => exact below_size bA.out.hb); (case aL => have := List.length_take_le q bs; simp; omega); intro v7 w7 ho hb hg hat; have kA := zQ (TXY.puty bA.out ho hg hat); clear ho hb hg hat)))
        go_roundw
        case rel => exact ⟨q + 1, by first | rfl | (simp; omega) | (congr 1; omega), by omega, ⟨by
         have e1 := take_next (fun k => (dT kn (rd_T115 br k) (i : Int)).1) bs q hqk; have e2 := take_next (fun k => (dT kn (rd_T115 br k) (i : Int)).2) bs q hqk; rw [HKQ.out] at e1 e2
         simp only [HD.out] at e1 e2
         rw [← e1, ← e2]
         exact kA.out⟩⟩
        case measure => simp [intOf]; omega
       ·have t3 : (b0 == (i : Int)) = false := beq_eq_false_iff_ne.mpr hcA
        have t4 : (b0 != (i : Int)) = true := bne_iff_ne.mpr hcA
        have HD := zQ (show dT kn (rd_T115 br kq) (i : Int) = (wrap64 (-(wrap64 (x1 - x0))), wrap64 (-(wrap64 (y1 - y0)))) from by
         rw [HBQ.out]
         show (if b0 ≠ (i : Int) ∧ b1 ≠ (i : Int) then ((0, 0) : Int × Int) else if b1 = (i : Int) then _ else _) = _
         rw [if_neg (fun h_ => h_.2 HCB.out), if_pos HCB.out]; first | rfl | (rw [pB.out, oB.out, HY0.out, HY1.out]))
        (try clear hcA); (try clear hcB)
        go_wp2_with fail
        repeat (go_quiet (fail); try go_wp2_with (first
         | ((with_reducible refine gate_builtin (b := .append) (xs := #[.tmp 111, .tmp 113]) rfl ?_); at_builtin; refine Kd.R_append (Kd.int .i64) (w0 := w) w.heap.size rfl (.tmp 111) (.tmp 113) 31 2 (.int .i64 0) 8 rfl Try.underlying31 info2 rfl (by decide) (by omega) _ _ (wrap64 (-(wrap64 (x1 - x0)))) [.int .i64 (wrap64 (-(wrap64 (x1 - x0))))] (fun k => (w.heap.size ≤ k ∧ k ≠ gm) ∧ some k ≠ u10.ownBlock) (fun _ => False) rfl (by first | (go_simp; done) | (go_simp; rfl)) ?aP (fun _ hk => hk.elim) ?aF (TXY.drewN cA.out _).hx ?aB ?aS ?aL ?_; (case aP => exact rfl); (case aF => exact (TXY.drewN cA.out _).freshx); (case aB => exact (TXY.drewN cA.out _).hb); (case aS => exact below_size (TXY.drewN cA.out _).hb); (case aL => have := List.length_take_le q bs; simp; omega); intro v6 w6 ho hb hg hat; have bA := zQ (TXY.putx (TXY.drewN cA.out _) ho hg hat); clear ho hb hg hat)
         | ((with_reducible refine gate_builtin (b := .append) (xs := #[.tmp 115, .tmp 117]) rfl ?_); at_builtin; refine Kd.R_append (Kd.int .i64) (w0 := w) w.heap.size rfl (.tmp 115) (.tmp 117) 31 2 (.int .i64 0) 8 rfl Try.underlying31 info2 rfl (by decide) (by omega) _ _ (wrap64 (-(wrap64 (y1 - y0)))) [.int .i64 (wrap64 (-(wrap64 (y1 - y0))))] (fun k => (w.heap.size ≤ k ∧ k ≠ gm) ∧ some k ≠ v6.ownBlock) (fun _ => False) rfl (by first | (go_simp; done) | (go_simp; rfl)) ?aP (fun _ hk => hk.elim) ?aF bA.out.hy ?aB ?aS ?aL ?_; (case aP => exact rfl); (case aF => exact bA.out.freshy); (case aB => exact bA.out.hb); (case aS => exact below_size bA.out.hb); (case aL => have := List.length_take_le q bs; simp; omega); intro v7 w7 ho hb hg hat; have kA := zQ (TXY.puty bA.out ho hg hat); clear ho hb hg hat)))
        go_roundw
        case rel => exact ⟨q + 1, by first | rfl | (simp; omega) | (congr 1; omega), by omega, ⟨by
         have e1 := take_next (fun k => (dT kn (rd_T115 br k) (i : Int)).1) bs q hqk; have e2 := take_next (fun k => (dT kn (rd_T115 br k) (i : Int)).2) bs q hqk; rw [HKQ.out] at e1 e2
         simp only [HD.out] at e1 e2
         rw [← e1, ← e2]
         exact kA.out⟩⟩
        case measure => simp [intOf]; omega
      ·have t1 : (b1 == (i : Int)) = false := beq_eq_false_iff_ne.mpr hcB
       have t2 : (b1 != (i : Int)) = true := bne_iff_ne.mpr hcB
       by_cases hcA : b0 = (i : Int)
       ·have t3 : (b0 == (i : Int)) = true := beq_iff_eq.mpr hcA
        have t4 : (b0 != (i : Int)) = false := bne_eq_false_iff_eq.mpr hcA
        have HD := zQ (show dT kn (rd_T115 br kq) (i : Int) = (wrap64 (x1 - x0), wrap64 (y1 - y0)) from by
         rw [HBQ.out]
         show (if b0 ≠ (i : Int) ∧ b1 ≠ (i : Int) then ((0, 0) : Int × Int) else if b1 = (i : Int) then _ else _) = _
         rw [if_neg (fun h_ => h_.1 hcA), if_neg hcB]; first | rfl | (rw [pB.out, oB.out, HY0.out, HY1.out]))
        (try clear hcA); (try clear hcB)
        go_wp2_with fail
        repeat (go_quiet (fail); try go_wp2_with (first
         | ((with_reducible refine gate_builtin (b := .append) (xs := #[.tmp 111, .tmp 113]) rfl ?_); at_builtin; refine Kd.R_append (Kd.int .i64) (w0 := w) w.heap.size rfl (.tmp 111) (.tmp 113) 31 2 (.int .i64 0) 8 rfl Try.underlying31 info2 rfl (by decide) (by omega) _ _ (wrap64 (x1 - x0)) [.int .i64 (wrap64 (x1 - x0))] (fun k => (w.heap.size ≤ k ∧ k ≠ gm) ∧ some k ≠ u10.ownBlock) (fun _ => False) rfl (by first | (go_simp; done) | (go_simp; rfl)) ?aP (fun _ hk => hk.elim) ?aF (TXY.drewN cA.out _).hx ?aB ?aS ?aL ?_; (case aP => exact rfl); (case aF => exact (TXY.drewN cA.out _).freshx); (case aB => exact (TXY.drewN cA.out _).hb); (case aS => exact below_size (TXY.drewN cA.out _).hb); (case aL => have := List.length_take_le q bs; simp; omega); intro v6 w6 ho hb hg hat; have bA := zQ (TXY.putx (TXY.drewN cA.out _) ho hg hat); clear ho hb hg hat)
         | ((with_reducible refine gate_builtin (b := .append) (xs := #[.tmp 115, .tmp 117]) rfl ?_); at_builtin; refine Kd.R_append (Kd.int .i64) (w0 := w) w.heap.size rfl (.tmp 115) (.tmp 117) 31 2 (.int .i64 0) 8 rfl Try.underlying31 info2 rfl (by decide) (by omega) _ _ (wrap64 (y1 - y0)) [.int .i64 (wrap64 (y1 - y0))] (fun k => (w.heap.size ≤ k ∧ k ≠ gm) ∧ some k ≠ v6.ownBlock) (fun _ => False) rfl (by first | (go_simp; done) | (go_simp; rfl)) ?aP (fun _ hk => hk.elim) ?aF bA.out.hy ?aB ?aS ?aL ?_; (case aP => exact rfl); (case aF => exact bA.out.freshy); (case aB => exact bA.out.hb); (case aS => exact below_size bA.out.hb); (case aL => have := List.length_take_le q bs; simp; omega); intro v7 w7 ho hb hg hat; have kA := zQ (TXY.puty bA.out ho hg hat); clear ho hb hg hat)))
        go_roundw
        case rel => exact ⟨q + 1, by first | rfl | (simp; omega) | (congr 1; omega), by omega, ⟨by
         have e1 := take_next (fun k => (dT kn (rd_T115 br k) (i : Int)).1) bs q hqk; have e2 := take_next (fun k => (dT kn (rd_T115 br k) (i : Int)).2) bs q hqk; rw [HKQ.out] at e1 e2
         simp only [HD.out] at e1 e2
         rw [← e1, ← e2]
         exact kA.out⟩⟩
        case measure => simp [intOf]; omega
       ·have t3 : (b0 == (i : Int)) = false := beq_eq_false_iff_ne.mpr hcA
        have t4 : (b0 != (i : Int)) = true := bne_iff_ne.mpr hcA
        have HD := zQ (show dT kn (rd_T115 br kq) (i : Int) = (0, 0) from by
         rw [HBQ.out]
         show (if b0 ≠ (i : Int) ∧ b1 ≠ (i : Int) then ((0, 0) : Int × Int) else if b1 = (i : Int) then _ else _) = _
         rw [if_pos ⟨hcA, hcB⟩])
        (try clear hcA); (try clear hcB)
        go_wp2_with fail
        repeat (go_quiet (fail); try go_wp2_with (first
         | ((with_reducible refine gate_builtin (b := .append) (xs := #[.tmp 111, .tmp 113]) rfl ?_); at_builtin; refine Kd.R_append (Kd.int .i64) (w0 := w) w.heap.size rfl (.tmp 111) (.tmp 113) 31 2 (.int .i64 0) 8 rfl Try.underlying31 info2 rfl (by decide) (by omega) _ _ (0) [.int .i64 (0)] (fun k => (w.heap.size ≤ k ∧ k ≠ gm) ∧ some k ≠ u10.ownBlock) (fun _ => False) rfl (by first | (go_simp; done) | (go_simp; rfl)) ?aP (fun _ hk => hk.elim) ?aF (TXY.drewN cA.out _).hx ?aB ?aS ?aL ?_; (case aP => exact rfl); (case aF => exact (TXY.drewN cA.out _).freshx); (case aB => exact (TXY.drewN cA.out _).hb); (case aS => exact below_size (TXY.drewN cA.out _).hb); (case aL => have := List.length_take_le q bs; simp; omega); intro v6 w6 ho hb hg hat; have bA := zQ (TXY.putx (TXY.drewN cA.out _) ho hg hat); clear ho hb hg hat)
         | ((with_reducible refine gate_builtin (b := .append) (xs := #[.tmp 115, .tmp 117]) rfl ?_); at_builtin; refine Kd.R_append (Kd.int .i64) (w0 := w) w.heap.size rfl (.tmp 115) (.tmp 117) 31 2 (.int .i64 0) 8 rfl Try.underlying31 info2 rfl (by decide) (by omega) _ _ (0) [.int .i64 (0)] (fun k => (w.heap.size ≤ k ∧ k ≠ gm) ∧ some k ≠ v6.ownBlock) (fun _ => False) rfl (by first | (go_simp; done) | (go_simp; rfl)) ?aP (fun _ hk => hk.elim) ?aF bA.out.hy ?aB ?aS ?aL ?_; (case aP => exact rfl); (case aF => exact bA.out.freshy); (case aB => exact bA.out.hb); (case aS => exact below_size bA.out.hb); (case aL => have := List.length_take_le q bs; simp; omega); intro v7 w7 ho hb hg hat; have kA := zQ (TXY.puty bA.out ho hg hat); clear ho hb hg hat)))
        go_roundw
        case rel => exact ⟨q + 1, by first | rfl | (simp; omega) | (congr 1; omega), by omega, ⟨by
         have e1 := take_next (fun k => (dT kn (rd_T115 br k) (i : Int)).1) bs q hqk; have e2 := take_next (fun k => (dT kn (rd_T115 br k) (i : Int)).2) bs q hqk; rw [HKQ.out] at e1 e2
         simp only [HD.out] at e1 e2
         rw [← e1, ← e2]
         exact kA.out⟩⟩
        case measure => simp [intOf]; omega
     ·have hqb : decide ((q : Int) < (bs.length : Int)) = false := decide_eq_false (by omega)
      have hqb' : decide (q < bs.length) = false := decide_eq_false hqk
      obtain rfl : q = bs.length := by omega
      have htk : bs.take bs.length = bs := List.take_length; have hx_ := HXY.out; rw [htk] at hx_; have HX := zQ hx_; obtain ⟨HYS_, hys_⟩ : ∃ z, bs.map (fun k => (dT kn (rd_T115 br k) (i : Int)).2) = z := ⟨_, rfl⟩; rw [hys_] at HX; have HYS := zQ hys_; have HYL := zQ (show HYS_.length ≤ 1048576 from by rw [← hys_]; simp; omega); obtain ⟨BA, ea2, l0, l1⟩ := at_T113 yA.out (i : Int) (by omega) (by omega); subst ea2; rw [Int.toNat_natCast] at l0 l1; obtain ⟨lx, hlx_⟩ : ∃ z, (rd_T113 ld (i : Int)).f0 = z := ⟨_, rfl⟩; obtain ⟨ly, hly_⟩ : ∃ z, (rd_T113 ld (i : Int)).f1 = z := ⟨_, rfl⟩
      have hllx : w.cell? (BA.add (i * 2)) = some (.int .i64 lx) := by rw [← hlx_]; exact l0
      have hlly : w.cell? ⟨(BA.add (i * 2)).block, (BA.add (i * 2)).off + 1, none⟩ = some (.int .i64 ly) := by rw [← hly_]; exact l1
      have hrow_ : rowX kn br ld bs i = bs.map (fun k => (dT kn (rd_T115 br k) (i : Int)).1) ++ [wrap64 (-lx)] := by rw [← hlx_]; rfl
      have hrow2_ : rowY kn br ld bs i = HYS_ ++ [wrap64 (-ly)] := by rw [← hly_, ← hys_]; rfl
      have HRW := zQ hrow_; have qB := zQ hrow2_; have p3 : (0 ≤ (i : Int)) = True := eq_true (by omega); have q3 : ((i : Int) < (ld.length : Int)) = True := eq_true (by omega); clear htk hx_ hys_ l0 l1 hlx_ hly_ HXY hrow_ hrow2_ cz0 cz1
      go_wp2
      refine zs (fun w' => w'.cell? ⟨gm, 0, none⟩ = some (.slice (some ⟨nA, 0, none⟩) (tabU kn br ld bs i).length cpo) ∧ w'.cell? (BA.add (i * 2)) = some (.int .i64 lx)) [18] 19 ⟨(blk_cell HX.out.hm 0).trans rfl, (HX.out.hb.cell (World.block_lt_of_cell? w _ hllx)).trans hllx⟩ (fun aA => ?_); refine with_tabW tableR.tab22 tableR.bits22 (fun HT_ HW_ => ?_)
      have H20 := zQ (HX.out.below (below_drew1 (Below.refl _ _)))
      generalize wr.drew = IB at H20 aA ⊢
      refine zp 0 119 ?_
      refine zp 1 120 ?_
      refine zp 2 121 ?_
      refine zp 3 122 ?_
      refine zp 5 124 ?_
      refine zp 6 125 ?_
      refine zp 7 126 ?_
      refine zp 8 127 ?_
      refine zp 9 128 ?_
      refine zt 4 123 aA ?_
      refine zt 10 129 aA ?_
      refine zp 11 130 ?_
      refine zo 12 (some 131) (fun K hK => ?_)
      refine value_ (w1 := ?_) (v := ?_) (by rfl) rfl ?_ ?_
      rotate_left 2
      ·go_simp
       constructor
       ·rfl
       ·rfl
      have H21 := zQ (H20.out.below (below_alloc (Below.refl _ _) (.cells #[.int .i64 (wrap64 (-lx))] 2)))
      refine hK.out _ _ ⟨(blk_cell H21.out.hm 0).trans rfl, (H21.out.hb.cell (World.block_lt_of_cell? w _ hllx)).trans hllx⟩ (fun aA => ?_)
      clear hK K
      refine zn 131 ?_
      refine zo 13 (some 132) (fun K hK => ?_)
      refine Kd.R_append_step (Kd.int .i64) (w0 := w) w.heap.size (by rfl) (.tmp 124) (.tmp 131) 31 2 (.int .i64 0) 8 rfl Try.underlying31 info2 rfl (by decide) (by omega) u9 (bs.map (fun k => (dT kn (rd_T115 br k) (i : Int)).1)) (wrap64 (-lx)) [.int .i64 (wrap64 (-lx))] (fun k => (w.heap.size ≤ k ∧ k ≠ gm) ∧ some k ≠ u10.ownBlock) (fun _ => False) rfl rfl rfl (fun _ hk => hk.elim) H20.out.freshx H20.out.hx H20.out.hb (below_size H20.out.hb) (by first | (have := HYL.out; omega) | (simp; omega)) ?_
      intro v6 w6 ho hb hg hat
      have H22 := zQ (show TXY w gm nA cpo (bs.length : Int) (tabU kn br ld bs i) (rowX kn br ld bs i) HYS_ v6 u10 w6 from TXY.putx H20.out (by rw [HRW.out]; exact ho) hg hat); clear ho hb hg hat H20 H21; obtain ⟨A6, c6, ev6⟩ := Kd.R_slice H22.out.hx; subst ev6
      refine hK.out _ _ ⟨(blk_cell H22.out.hm 0).trans rfl, (H22.out.hb.cell (World.block_lt_of_cell? w _ hllx)).trans hllx⟩ (fun aA => ?_)
      clear hK K
      refine zn 132 ?_
      refine zo 14 (some 133) (fun K hK => ?_)
      refine value_ (w1 := ?_) (v := ?_) (by rfl) rfl ?_ ?_
      rotate_left 2
      ·go_simp
       constructor
       ·rfl
       ·rfl
      have H23 := zQ (H22.out.below (below_alloc (Below.refl _ _) (.cells #[.slice A6 (rowX kn br ld bs i).length c6] 31)))
      refine hK.out _ _ ⟨(blk_cell H23.out.hm 0).trans rfl, (H23.out.hb.cell (World.block_lt_of_cell? w _ hllx)).trans hllx⟩ (fun aA => ?_)
      clear hK K
      refine zn 133 ?_
      refine zo 15 (some 134) (fun K hK => ?_)
      refine Kd.S_append_step (Kd.slice 2 (Kd.int .i64)) (w0 := w) w.heap.size (by rfl) (.tmp 123) (.tmp 133) 88 31 (.slice none 0 0) 24 rfl Try.underlying88 info31R rfl (by decide) (by omega) (.slice (some ⟨nA, 0, none⟩) (tabU kn br ld bs i).length cpo) (tabU kn br ld bs i) (rowX kn br ld bs i) [.slice A6 (rowX kn br ld bs i).length c6] (fun k => (w.heap.size ≤ k ∧ k ≠ gm) ∧ some k ≠ u10.ownBlock) (fun k => some k = (.slice A6 (rowX kn br ld bs i).length c6 : Value).ownBlock) rfl rfl ⟨.slice A6 (rowX kn br ld bs i).length c6, rfl, Kd.R_tight rfl H22.out.hx⟩ H22.out.okp (fun k hk => ⟨⟨Nat.le_trans (below_size H22.out.hb) hk, fun e => by have := blk_lt H22.out.hm; omega⟩, fun e => by have := Kd.R_lt H22.out.hy k e.symm; omega⟩) (Kd.S_mono H22.out.hs (fun k hk => ⟨⟨hk.1.1, hk.2⟩, hk.1.2⟩)) H22.out.hb (below_size H22.out.hb) (by have := tabU_len kn br ld bs i; first | omega | (have := HR2L.out; omega) | (simp; omega)) ?_
      intro v7 w7 ho hb hg hat
      obtain ⟨WA, cpo3, e7, MA, SA, EA⟩ := TXY.push H22.out HGM.out ho hg; have H24 := zQ EA; have H25 := zQ MA; have H26 := zQ SA; subst e7; clear ho hb hg hat EA MA SA H22 H23
      refine hK.out _ _ ⟨(blk_cell H25.out 0).trans rfl, (H26.out.cell (World.block_lt_of_cell? w _ hllx)).trans hllx⟩ (fun aA => ?_)
      clear hK K
      refine zn 134 ?_
      refine zp 16 135 ?_
      refine zp 17 136 ?_
      refine last_ (i := 18) (N := none) (zm 19 524287) rfl rfl (one_of HT_.out (by kernel_rfl)) (by decide) (fun K hK => ?_)
      have cm7 := (blk_cell H25.out 0).trans rfl; have fm7 := zfz H25.out 0
      refine skip_ (w1 := ?_) (by rfl) rfl ?_ ?_
      rotate_left
      ·go_simp
       rfl
      refine hK.out _ _ ?_
      clear hK K cm7 fm7
      refine done_ (done_of HT_.out (by kernel_rfl)) ?_
      go_wp2_with fail
      have H24' := H24.out; rw [show (tabU kn br ld bs i ++ [rowX kn br ld bs i]).length = (tabU kn br ld bs i).length + 1 from by simp] at H24'
      generalize FA : w7.setCell ⟨gm, 0, none⟩ (.slice (some ⟨WA, 0, none⟩) ((tabU kn br ld bs i).length + 1) cpo3) = w9 at H24' ⊢
      obtain ⟨R2, hR2⟩ : ∃ z, tabU kn br ld bs i ++ [rowX kn br ld bs i] = z := ⟨_, rfl⟩; rw [hR2] at H24'; have HR2' := zQ hR2
      have hR2l : R2.length ≤ 2 * i + 1 := by rw [← hR2]; have := tabU_len kn br ld bs i; simp; omega
      have HR2L := zQ hR2l; clear hR2 hR2l; have HY := zQ H24'.turn; clear H24' FA H24 H25 H26
      refine zs (fun w' => w'.cell? ⟨gm, 0, none⟩ = some (.slice (some ⟨WA, 0, none⟩) R2.length cpo3) ∧ w'.cell? (⟨(BA.add (i * 2)).block, (BA.add (i * 2)).off + 1, none⟩) = some (.int .i64 ly)) [18] 19 ⟨(blk_cell HY.out.hm 0).trans rfl, (HY.out.hb.cell (World.block_lt_of_cell? w _ hlly)).trans hlly⟩ (fun aA => ?_); refine with_tabW tableR.tab23 tableR.bits23 (fun HT_ HW_ => ?_)
      have H20 := zQ (HY.out.below (below_drew1 (Below.refl _ _)))
      generalize w9.drew = IB at H20 aA ⊢
      refine zp 0 137 ?_
      refine zp 1 138 ?_
      refine zp 2 139 ?_
      refine zp 3 140 ?_
      refine zp 5 142 ?_
      refine zp 6 143 ?_
      refine zp 7 144 ?_
      refine zp 8 145 ?_
      refine zp 9 146 ?_
      refine zt 4 141 aA ?_
      refine zt 10 147 aA ?_
      refine zp 11 148 ?_
      refine zo 12 (some 149) (fun K hK => ?_)
      refine value_ (w1 := ?_) (v := ?_) (by rfl) rfl ?_ ?_
      rotate_left 2
      ·go_simp
       constructor
       ·rfl
       ·rfl
      have H21 := zQ (H20.out.below (below_alloc (Below.refl _ _) (.cells #[.int .i64 (wrap64 (-ly))] 2)))
      refine hK.out _ _ ⟨(blk_cell H21.out.hm 0).trans rfl, (H21.out.hb.cell (World.block_lt_of_cell? w _ hlly)).trans hlly⟩ (fun aA => ?_)
      clear hK K
      refine zn 149 ?_
      refine zo 13 (some 150) (fun K hK => ?_)
      refine Kd.R_append_step (Kd.int .i64) (w0 := w) w.heap.size (by rfl) (.tmp 142) (.tmp 149) 31 2 (.int .i64 0) 8 rfl Try.underlying31 info2 rfl (by decide) (by omega) u10 HYS_ (wrap64 (-ly)) [.int .i64 (wrap64 (-ly))] (fun k => (w.heap.size ≤ k ∧ k ≠ gm) ∧ some k ≠ (Value.slice none 0 0).ownBlock) (fun _ => False) rfl rfl rfl (fun _ hk => hk.elim) H20.out.freshx H20.out.hx H20.out.hb (below_size H20.out.hb) (by first | (have := HYL.out; omega) | (simp; omega)) ?_
      intro v6 w6 ho hb hg hat
      have H22 := zQ (show TXY w gm WA cpo3 (bs.length : Int) R2 (rowY kn br ld bs i) [] v6 (Value.slice none 0 0) w6 from TXY.putx H20.out (by rw [qB.out]; exact ho) hg hat); clear ho hb hg hat H20 H21; obtain ⟨A6, c6, ev6⟩ := Kd.R_slice H22.out.hx; subst ev6
      refine hK.out _ _ ⟨(blk_cell H22.out.hm 0).trans rfl, (H22.out.hb.cell (World.block_lt_of_cell? w _ hlly)).trans hlly⟩ (fun aA => ?_)
      clear hK K
      refine zn 150 ?_
      refine zo 14 (some 151) (fun K hK => ?_)
      refine value_ (w1 := ?_) (v := ?_) (by rfl) rfl ?_ ?_
      rotate_left 2
      ·go_simp
       constructor
       ·rfl
       ·rfl
      have H23 := zQ (H22.out.below (below_alloc (Below.refl _ _) (.cells #[.slice A6 (rowY kn br ld bs i).length c6] 31)))
      refine hK.out _ _ ⟨(blk_cell H23.out.hm 0).trans rfl, (H23.out.hb.cell (World.block_lt_of_cell? w _ hlly)).trans hlly⟩ (fun aA => ?_)
      clear hK K
      refine zn 151 ?_
      refine zo 15 (some 152) (fun K hK => ?_)
      refine Kd.S_append_step (Kd.slice 2 (Kd.int .i64)) (w0 := w) w.heap.size (by rfl) (.tmp 141) (.tmp 151) 88 31 (.slice none 0 0) 24 rfl Try.underlying88 info31R rfl (by decide) (by omega) (.slice (some ⟨WA, 0, none⟩) R2.length cpo3) R2 (rowY kn br ld bs i) [.slice A6 (rowY kn br ld bs i).length c6] (fun k => (w.heap.size ≤ k ∧ k ≠ gm) ∧ some k ≠ (Value.slice none 0 0).ownBlock) (fun k => some k = (.slice A6 (rowY kn br ld bs i).length c6 : Value).ownBlock) rfl rfl ⟨.slice A6 (rowY kn br ld bs i).length c6, rfl, Kd.R_tight rfl H22.out.hx⟩ H22.out.okp (fun k hk => ⟨⟨Nat.le_trans (below_size H22.out.hb) hk, fun e => by have := blk_lt H22.out.hm; omega⟩, fun e => by have := Kd.R_lt H22.out.hy k e.symm; omega⟩) (Kd.S_mono H22.out.hs (fun k hk => ⟨⟨hk.1.1, hk.2⟩, hk.1.2⟩)) H22.out.hb (below_size H22.out.hb) (by have := tabU_len kn br ld bs i; first | omega | (have := HR2L.out; omega) | (simp; omega)) ?_
      intro v7 w7 ho hb hg hat
      obtain ⟨FB, cpo4, e7, MA, SA, EA⟩ := TXY.push H22.out HGM.out ho hg; have H24 := zQ EA; have H25 := zQ MA; have H26 := zQ SA; subst e7; clear ho hb hg hat EA MA SA H22 H23
      refine hK.out _ _ ⟨(blk_cell H25.out 0).trans rfl, (H26.out.cell (World.block_lt_of_cell? w _ hlly)).trans hlly⟩ (fun aA => ?_)
      clear hK K
      refine zn 152 ?_
      refine zp 16 153 ?_
      refine zp 17 154 ?_
      refine last_ (i := 18) (N := none) (zm 19 524287) rfl rfl (one_of HT_.out (by kernel_rfl)) (by decide) (fun K hK => ?_)
      have cm7 := (blk_cell H25.out 0).trans rfl; have fm7 := zfz H25.out 0
      refine skip_ (w1 := ?_) (by rfl) rfl ?_ ?_
      rotate_left
      ·go_simp
       rfl
      refine hK.out _ _ ?_
      clear hK K cm7 fm7
      refine done_ (done_of HT_.out (by kernel_rfl)) ?_
      have HUL := zQ (show tabU kn br ld bs (i + 1) = R2 ++ [rowY kn br ld bs i] from by rw [← HR2'.out]; show (if _ then _ else _) = _; rw [if_neg (by rw [HFX.out]; exact Bool.false_ne_true)]); have H24' := H24.out; rw [show (R2 ++ [rowY kn br ld bs i]).length = R2.length + 1 from by simp] at H24'
      generalize fB : w7.setCell ⟨gm, 0, none⟩ (.slice (some ⟨FB, 0, none⟩) (R2.length + 1) cpo4) = VB at H24' ⊢
      have HZ := zQ H24'; clear H24' fB H24 H25 H26 HY
      go_wp2
      go_roundw
      case rel => exact ⟨i + 1, FB, cpo4, by first | rfl | (simp; omega) | (congr 1; omega), by omega, by rw [HUL.out]; exact ⟨HZ.out.hm⟩, by rw [HUL.out]; exact ⟨Kd.S_mono HZ.out.hs (fun k hk => hk.1.1)⟩, ⟨HZ.out.hb⟩⟩
      case measure => simp [intOf]; omega
  ·have hib : decide ((i : Int) < (kn.length : Int)) = false := decide_eq_false (by omega)
   have hib' : decide (i < kn.length) = false := decide_eq_false hik
   obtain rfl : i = kn.length := by omega
   go_wp2
   go_ret
   exact ⟨gm, nA, cpo, by first | rfl | (simp; done), HGM.out, HM.out, HS.out, HB.out⟩
def tabM (kn : List S164) (br : List S115) (ld : List S113) (bs : List Int) : Nat → Nat → Int := fun i j => ((tabU kn br ld bs kn.length).getD i []).getD j 0
def solS (kn : List S164) (br : List S115) (ld : List S113) (bs : List Int) : StS := redS (tabU kn br ld bs kn.length).length (tabM kn br ld bs) bs.length
def badS (s : StS) (m l : Nat) : Prop := ∃ x, s.pv.length ≤ x ∧ x < m ∧ s.M x l ≠ 0
def numsU (s : StS) (n : Nat) (bs : List Int) (l : Nat) : Nat → List Int
 | 0 => List.replicate n 0
 | i + 1 => (numsU s n bs l i).set (bs.getD i 0).toNat (s.M i l)
theorem numsU_len (s : StS) (n : Nat) (bs : List Int) (l : Nat) : ∀ i, (numsU s n bs l i).length = n
 | 0 => List.length_replicate
 | i + 1 => by show ((numsU s n bs l i).set _ _).length = n; rw [List.length_set]; exact numsU_len s n bs l i
theorem redS_pv (m : Nat) (M : Nat → Nat → Int) : ∀ c, (redS m M c).pv.length ≤ c ∧ (redS m M c).pv.length = (redS m M c).at_ ∧ (redS m M c).at_ ≤ m
 | 0 => ⟨Nat.le_refl 0, rfl, Nat.zero_le _⟩
 | c + 1 => by
  obtain ⟨h1, h2, h3⟩ := redS_pv m M c; rw [redS_succ]
  unfold stepS
  split
  ·split
   ·exact ⟨by omega, h2, h3⟩
   ·exact ⟨by rw [List.length_append]; simp; omega, by rw [List.length_append]; simp; omega, by show _ + 1 ≤ m; omega⟩
  ·exact ⟨by omega, h2, h3⟩
open Classical in
noncomputable def spec_l09Solve.f (k : Nat) (l0_0 : List S164) (l0_1 : List S115) (l1 : List S113) (l2 : List Int) : Option (List Int × Int × Bool) :=
 if TabOk l0_0 l0_1 l1 l2 then (if (solS l0_0 l0_1 l1 l2).pv.length < l2.length then some ([], 0, false) else if badS (solS l0_0 l0_1 l1 l2) (tabU l0_0 l0_1 l1 l2 l0_0.length).length l2.length then some ([], 0, false) else
  (spec_l09Lowest.f k (numsU (solS l0_0 l0_1 l1 l2) l0_1.length l2 l2.length l2.length) (solS l0_0 l0_1 l1 l2).bf).bind fun d => some (d.1, d.2, true)) else none
theorem spec_l09Solve.cases {k : Nat} {kn : List S164} {br : List S115} {ld : List S113} {bs : List Int} {r1 : List Int} {r2 : Int} {r3 : Bool} (h : spec_l09Solve.f k kn br ld bs = some (r1, r2, r3)) : TabOk kn br ld bs ∧ ((decide ((solS kn br ld bs).pv.length < bs.length) = true ∧ r1 = [] ∧ r2 = 0 ∧ r3 = false) ∨
  (decide ((solS kn br ld bs).pv.length < bs.length) = false ∧ badS (solS kn br ld bs) (tabU kn br ld bs kn.length).length bs.length ∧ r1 = [] ∧ r2 = 0 ∧ r3 = false) ∨
  (decide ((solS kn br ld bs).pv.length < bs.length) = false ∧ ¬ badS (solS kn br ld bs) (tabU kn br ld bs kn.length).length bs.length ∧ spec_l09Lowest.f k (numsU (solS kn br ld bs) br.length bs bs.length bs.length) (solS kn br ld bs).bf = some (r1, r2) ∧ r3 = true)) := by
 unfold spec_l09Solve.f at h
 split at h
 ·rename_i h0
  refine ⟨h0, ?_⟩
  split at h
  ·rename_i h1
   simp at h
   exact .inl ⟨decide_eq_true h1, h.1.symm ▸ rfl, h.2.1.symm, h.2.2⟩
  ·rename_i h1
   split at h
   ·rename_i h2
    simp at h
    exact .inr (.inl ⟨decide_eq_false h1, h2, h.1.symm ▸ rfl, h.2.1.symm, h.2.2⟩)
   ·rename_i h2
    obtain ⟨v, h3, h4⟩ := Option.bind_eq_some_iff.mp h
    simp at h4
    refine .inr (.inr ⟨decide_eq_false h1, h2, ?_, h4.2.2⟩)
    rw [h3, ← h4.1, ← h4.2.1]
 ·cases h
theorem spec_l09Solve.calls (k : Nat) (g0 : Nat) (A0_0 : Option Addr) (c0_0 : Nat) (l0_0 : List S164) (A0_1 : Option Addr) (c0_1 : Nat) (l0_1 : List S115) (A1 : Option Addr) (c1 : Nat) (l1 : List S113) (A2 : Option Addr) (c2 : Nat) (l2 : List Int) (r1 : List Int) (r2 : Int) (r3 : Bool) (w : World) (RA : w.heap[g0]? = some (.cells #[.slice A0_0 l0_0.length c0_0, .slice A0_1 l0_1.length c0_1] 27 (0, 0))) (rA : Kd.C k164 w A0_0 l0_0.length l0_0) (DB : l0_0.length ≤ c0_0) (qA : Kd.C k115 w A0_1 l0_1.length l0_1) (CB : l0_1.length ≤ c0_1) (LA : Kd.C k113 w A1 l1.length l1) (ZB : l1.length ≤ c1) (KA : Kd.C (Kd.int .i64) w A2 l2.length l2) (YB : l2.length ≤ c2) (h : spec_l09Solve.f k l0_0 l0_1 l1 l2 = some (r1, r2, r3)) :
  Calls Try.prog 80 #[.pointer (some ⟨g0, 0, none⟩), .slice A1 l1.length c1, .slice A2 l2.length c2] w fun e w' => ∃ v0_ : Value, e = .returned (.tuple #[.agg #[v0_, .int .i64 r2], .bool r3]) ∧ Kd.R (Kd.int .i64) 2 w' w.heap.size (fun _ => True) v0_ r1 ∧ Below w.heap.size w w' := by
 have KB := Try.underlying35
 have pA := Try.underlying157
 have HA := Try.underlying88
 have IA := Try.underlying31
 have gB := Try.underlying27
 have iB := Try.underlying25
 have JA := Try.underlying142
 obtain ⟨hok, hk⟩ := spec_l09Solve.cases h
 clear h
 have HBK := zQ RA
 have zA := zQ rA
 have VA := zQ qA
 have yA := zQ LA
 have CA := zQ KA
 have HOK := zQ hok
 obtain ⟨T, hT⟩ : ∃ z, tabU l0_0 l0_1 l1 l2 l0_0.length = z := ⟨_, rfl⟩
 obtain ⟨s, hs⟩ : ∃ z, solS l0_0 l0_1 l1 l2 = z := ⟨_, rfl⟩
 have hTl : T.length ≤ 2048 := by rw [← hT]; have := tabU_len l0_0 l0_1 l1 l2 l0_0.length; have := hok.2.1; omega
 have hpv : s.pv.length ≤ l2.length ∧ s.pv.length ≤ T.length := by
  rw [← hs, ← hT]; obtain ⟨h1, h2, h3⟩ := redS_pv (tabU l0_0 l0_1 l1 l2 l0_0.length).length (tabM l0_0 l0_1 l1 l2) l2.length
  exact ⟨h1, by show (redS _ _ _).pv.length ≤ _; omega⟩
 have mB := hok.2.2.1
 have WB := hok.2.2.2.1
 rw [hT, hs] at hk
 have HT := zQ hT
 have HS := zQ hs
 clear RA rA qA LA KA hok hT hs
 have hkind : (decide (s.pv.length < l2.length) = true ∧ r1 = [] ∧ r2 = 0 ∧ r3 = false) ∨ (decide (s.pv.length < l2.length) = false ∧ Aside0 (badS s T.length l2.length) ∧ r1 = [] ∧ r2 = 0 ∧ r3 = false) ∨ (decide (s.pv.length < l2.length) = false ∧ Aside0 (¬ badS s T.length l2.length) ∧ Aside0 (spec_l09Lowest.f k (numsU s l0_1.length l2 l2.length l2.length) s.bf = some (r1, r2)) ∧ r3 = true) := by
  rcases hk with h_ | h_ | h_
  ·exact .inl h_
  ·exact .inr (.inl ⟨h_.1, ⟨h_.2.1⟩, h_.2.2⟩)
  ·exact .inr (.inr ⟨h_.1, ⟨h_.2.1⟩, ⟨h_.2.2.1⟩, h_.2.2.2⟩)
 clear hk
 rcases hkind with ⟨kp, rfl, rfl, rfl⟩ | ⟨kp, HBD, rfl, rfl, rfl⟩ | ⟨kp, HBD, HLW, rfl⟩
 ·skip
  have kp' : decide ((s.pv.length : Int) < (l2.length : Int)) = true := decide_eq_true (by have := of_decide_eq_true kp; omega)
  go_enter Try.func80, Try.ntmps80
  go_wp2_with (first
   | ((with_reducible refine zd 6 ?_); refine zbx (N := 6) (cs := #[.slice none 0 0, .int .i64 0]) (t := 35) ?_; intro gr hgr w1 iA sA; have HB1 := zQ sA; have BR1 := zQ iA; have GR := zQ (show w.heap.size ≤ gr from by rw [hgr]; exact Nat.le_refl _); clear iA sA hgr)
   | (
     go_at_call 127; refine (table_calls g0 A0_0 A0_1 A1 A2 c0_0 c0_1 c1 c2 l0_0 l0_1 l1 l2 _ (blk_below HBK.out HB1.out) (Kd.C_below zA.out HB1.out) (Kd.C_below VA.out HB1.out) (Kd.C_below yA.out HB1.out) (Kd.C_below CA.out HB1.out) HOK.out).mono ?_; rintro e w2 ⟨gm, go, cpo, rfl, hgm, mA, eA, dA⟩; rw [HT.out] at mA eA; have HB12 := zQ dA; have HB2 := zQ (below_step HB1.out dA); have BR2 := zQ (blk_below BR1.out dA); have HRG := zQ (show gr ≠ gm from by have := blk_lt BR1.out; omega);
      obtain ⟨rb, cp, htb, hrb⟩ := Tb.of_S (z := (0 : Int)) (by decide) enc_int eA (l2.length + 1) (by omega) (by rw [← HT.out]; exact tabU_row _ _ _ _ _); have hgo := (Kd.S_R eA).1 go (by simp [Value.ownBlock]);
      have HTB := zQ (show TbS (fun k => k = go ∨ ∃ i, i < T.length ∧ k = rb i) gm go T.length (l2.length + 1) cpo rb cp (tabM l0_0 l0_1 l1 l2) w2 from
        ⟨mA, by
          have e1 : (l2.length + 1) * (Kd.int .i64).sz = l2.length + 1 := Nat.mul_one _; rw [e1] at htb
          exact htb.congr (fun i _ j _ => by show Value.int .i64 (((T.getD i []).getD (j / 1) 0)) = _; rw [Nat.div_one, ← HT.out]; rfl), fun h_ => by rcases h_ with h_ | ⟨i, hi, h_⟩; exact hgo.2 h_.symm; exact (hrb i hi).1.2 h_.symm, .inl rfl, fun i hi => .inr ⟨i, hi, rfl⟩, fun k hk => by rcases hk with rfl | ⟨i, hi, rfl⟩; exact Kd.S_lt eA k (by simp [Value.ownBlock]); exact htb.ltr (by show 0 < (l2.length + 1) * 1; omega) hi⟩);
      have HSG := zQ (show ∀ k, (k = go ∨ ∃ i, i < T.length ∧ k = rb i) → w1.heap.size ≤ k from fun k hk => by rcases hk with rfl | ⟨i, hi, rfl⟩; exact hgo.1; exact (hrb i hi).1.1);
      clear mA eA dA htb hrb hgo)
   | (go_at_call 128; have hred := reduce_calls w1 _ _ gm go T.length (l2.length + 1) cpo rb cp (tabM l0_0 l0_1 l1 l2) (by omega) (by omega) (by omega) HTB.out HB12.out HSG.out; rw [Nat.add_sub_cancel, show redS T.length (tabM l0_0 l0_1 l1 l2) l2.length = s from by rw [← HS.out, ← HT.out]; rfl] at hred; refine hred.mono ?_; clear hred; rintro e w3 ⟨v3, rb3, cp3, rfl, fA, lA, gA, OA⟩; obtain ⟨Ap, cpv, evp⟩ := Kd.R_slice fA; subst evp; have HT3 := zQ lA; have HB13 := zQ gA; have HB3 := zQ (below_step HB1.out gA); have BR3 := zQ (blk_below BR1.out gA); have cm0 : w3.cell? ⟨gm, 0, none⟩ = some (.slice (some ⟨go, 0, none⟩) T.length cpo) := (blk_cell HT3.out.bm 0).trans rfl; have cm1 : w3.cell? ⟨gm, 1, none⟩ = some (.int .i64 (l2.length : Int)) := (blk_cell HT3.out.bm 1).trans rfl; have cr0 := (blk_cell BR3.out 0).trans rfl; have cr1 := (blk_cell BR3.out 1).trans rfl; have fr0 := zfz BR3.out 0; have fr1 := zfz BR3.out 1; clear fA lA gA OA))
  refine bodyPost_ret (results_ct rfl _ _ gr 35 #[.slice none 0 0, .int .i64 0] (0, 0) _ rfl (by refine zb ?_; refine blk_put (cs := #[.slice none 0 0, .int .i64 0]) ?_ 1 _ rfl; refine blk_put (cs := #[.slice none 0 0, .int .i64 0]) ?_ 0 _ rfl; refine zb ?_; exact BR3.out) Try.underlying35 rfl (by kernel_rfl)) rfl ?_
  exact ⟨_, by first | rfl | (simp; done), Kd.R_nil _ _ _ _ _, by repeat (first | (with_reducible first | exact HB3.out | apply pw_below_drewN | apply below_drew1 | refine below_set ?_ GR.out) | exact HB3.out)⟩
 ·skip
  have kp' : decide ((s.pv.length : Int) < (l2.length : Int)) = false := decide_eq_false (by have := of_decide_eq_false kp; omega)
  have hpe : s.pv.length = l2.length := by have := of_decide_eq_false kp; omega
  have HPE := zQ hpe; clear hpe
  go_enter Try.func80, Try.ntmps80
  go_wp2_with (first
   | ((with_reducible refine zd 6 ?_); refine zbx (N := 6) (cs := #[.slice none 0 0, .int .i64 0]) (t := 35) ?_; intro gr hgr w1 iA sA; have HB1 := zQ sA; have BR1 := zQ iA; have GR := zQ (show w.heap.size ≤ gr from by rw [hgr]; exact Nat.le_refl _); clear iA sA hgr)
   | (
     go_at_call 127; refine (table_calls g0 A0_0 A0_1 A1 A2 c0_0 c0_1 c1 c2 l0_0 l0_1 l1 l2 _ (blk_below HBK.out HB1.out) (Kd.C_below zA.out HB1.out) (Kd.C_below VA.out HB1.out) (Kd.C_below yA.out HB1.out) (Kd.C_below CA.out HB1.out) HOK.out).mono ?_; rintro e w2 ⟨gm, go, cpo, rfl, hgm, mA, eA, dA⟩; rw [HT.out] at mA eA; have HB12 := zQ dA; have HB2 := zQ (below_step HB1.out dA); have BR2 := zQ (blk_below BR1.out dA); have HRG := zQ (show gr ≠ gm from by have := blk_lt BR1.out; omega);
      obtain ⟨rb, cp, htb, hrb⟩ := Tb.of_S (z := (0 : Int)) (by decide) enc_int eA (l2.length + 1) (by omega) (by rw [← HT.out]; exact tabU_row _ _ _ _ _); have hgo := (Kd.S_R eA).1 go (by simp [Value.ownBlock]);
      have HTB := zQ (show TbS (fun k => k = go ∨ ∃ i, i < T.length ∧ k = rb i) gm go T.length (l2.length + 1) cpo rb cp (tabM l0_0 l0_1 l1 l2) w2 from
        ⟨mA, by
          have e1 : (l2.length + 1) * (Kd.int .i64).sz = l2.length + 1 := Nat.mul_one _; rw [e1] at htb
          exact htb.congr (fun i _ j _ => by show Value.int .i64 (((T.getD i []).getD (j / 1) 0)) = _; rw [Nat.div_one, ← HT.out]; rfl), fun h_ => by rcases h_ with h_ | ⟨i, hi, h_⟩; exact hgo.2 h_.symm; exact (hrb i hi).1.2 h_.symm, .inl rfl, fun i hi => .inr ⟨i, hi, rfl⟩, fun k hk => by rcases hk with rfl | ⟨i, hi, rfl⟩; exact Kd.S_lt eA k (by simp [Value.ownBlock]); exact htb.ltr (by show 0 < (l2.length + 1) * 1; omega) hi⟩);
      have HSG := zQ (show ∀ k, (k = go ∨ ∃ i, i < T.length ∧ k = rb i) → w1.heap.size ≤ k from fun k hk => by rcases hk with rfl | ⟨i, hi, rfl⟩; exact hgo.1; exact (hrb i hi).1.1);
      clear mA eA dA htb hrb hgo)
   | (go_at_call 128; have hred := reduce_calls w1 _ _ gm go T.length (l2.length + 1) cpo rb cp (tabM l0_0 l0_1 l1 l2) (by omega) (by omega) (by omega) HTB.out HB12.out HSG.out; rw [Nat.add_sub_cancel, show redS T.length (tabM l0_0 l0_1 l1 l2) l2.length = s from by rw [← HS.out, ← HT.out]; rfl] at hred; refine hred.mono ?_; clear hred; rintro e w3 ⟨v3, rb3, cp3, rfl, fA, lA, gA, OA⟩; obtain ⟨Ap, cpv, evp⟩ := Kd.R_slice fA; subst evp; have HT3 := zQ lA; have HB13 := zQ gA; have HB3 := zQ (below_step HB1.out gA); have BR3 := zQ (blk_below BR1.out gA); have cm0 : w3.cell? ⟨gm, 0, none⟩ = some (.slice (some ⟨go, 0, none⟩) T.length cpo) := (blk_cell HT3.out.bm 0).trans rfl; have cm1 : w3.cell? ⟨gm, 1, none⟩ = some (.int .i64 (l2.length : Int)) := (blk_cell HT3.out.bm 1).trans rfl; have cr0 := (blk_cell BR3.out 0).trans rfl; have cr1 := (blk_cell BR3.out 1).trans rfl; have fr0 := zfz BR3.out 0; have fr1 := zfz BR3.out 1; clear fA lA gA OA))
  go_loopw [11] (fun jA wr => ∃ (i : Nat), jA = .int .i64 (i : Int) ∧ s.pv.length ≤ i ∧ i ≤ T.length ∧ Aside0 (∀ x, s.pv.length ≤ x → x < i → s.M x l2.length = 0) ∧ Drawn0 w3 wr) (fun jA _ => ((T.length : Int) - intOf jA).toNat)
  case atStart => exact ⟨s.pv.length, by first | rfl | (simp; done), Nat.le_refl _, hpv.2, ⟨fun x h1 h2 => by omega⟩, by repeat (first | exact Drawn0.refl _ | apply Drawn0.step)⟩
  case round =>
   obtain ⟨i, rfl, AB, PB, HZ, ⟨m1, rfl⟩⟩ := hrel
   by_cases hit : i < T.length
   ·have hib : decide ((i : Int) < (T.length : Int)) = true := decide_eq_true (by omega)
    have hib' : decide (i < T.length) = true := decide_eq_true hit; have p1 : (0 ≤ (i : Int)) = True := eq_true (by omega); have q1 : ((i : Int) < (T.length : Int)) = True := eq_true (by omega); have p2 : (0 ≤ (l2.length : Int)) = True := eq_true (by omega); have q2 : ((l2.length : Int) < ((l2.length + 1 : Nat) : Int)) = True := eq_true (by omega); have q2' : ((l2.length : Int) < (l2.length : Int) + 1) = True := eq_true (by omega); have co := HT3.out.t.o i hit; have cx : w3.cell? ⟨rb3 i, l2.length, none⟩ = some (.int .i64 (s.M i l2.length)) := HT3.out.t.r i hit l2.length (by omega); obtain ⟨x, hx⟩ : ∃ x, s.M i l2.length = x := ⟨_, rfl⟩; rw [hx] at cx; have HX := zQ hx; clear hx
    by_cases hz : x = 0
    ·have hzb : (x == 0) = true := beq_iff_eq.mpr hz
     have hzb' : (x != 0) = false := bne_eq_false_iff_eq.mpr hz; have HXZ := zQ hz; clear hz
     go_wp2
     repeat (go_quiet (fail); try go_wp2)
     go_roundw
     case rel => exact ⟨i + 1, by first | rfl | (simp; omega) | (congr 1; omega), by omega, by omega, ⟨fun y h1 h2 => by
      by_cases he : y = i
      ·rw [he, HX.out]; exact HXZ.out
      ·exact HZ.out y h1 (by omega)⟩, by repeat (first | exact Drawn0.refl _ | apply Drawn0.step)⟩
     case measure => simp [intOf]; omega
    ·have hzb : (x == 0) = false := beq_eq_false_iff_ne.mpr hz
     have hzb' : (x != 0) = true := bne_iff_ne.mpr hz; clear hz
     go_wp2
     repeat (go_quiet (fail); try go_wp2)
     refine bodyPost_ret (results_ct rfl _ _ gr 35 #[.slice none 0 0, .int .i64 0] (0, 0) _ rfl (by refine zb ?_; refine blk_put (cs := #[.slice none 0 0, .int .i64 0]) ?_ 1 _ rfl; refine blk_put (cs := #[.slice none 0 0, .int .i64 0]) ?_ 0 _ rfl; refine zb ?_; exact BR3.out) Try.underlying35 rfl (by kernel_rfl)) rfl ?_
     exact ⟨_, by first | rfl | (simp; done), Kd.R_nil _ _ _ _ _, by repeat (first | (with_reducible first | exact HB3.out | apply pw_below_drewN | apply below_drew1 | refine below_set ?_ GR.out) | exact HB3.out)⟩
   ·have hib : decide ((i : Int) < (T.length : Int)) = false := decide_eq_false (by omega)
    have hib' : decide (i < T.length) = false := decide_eq_false hit
    obtain rfl : i = T.length := by omega
    obtain ⟨x, h1, h2, h3⟩ := HBD.out
    exact absurd (HZ.out x h1 h2) h3
 ·skip
  have kp' : decide ((s.pv.length : Int) < (l2.length : Int)) = false := decide_eq_false (by have := of_decide_eq_false kp; omega)
  have hpe : s.pv.length = l2.length := by have := of_decide_eq_false kp; omega
  have HPE := zQ hpe; clear hpe
  go_enter Try.func80, Try.ntmps80
  go_wp2_with (first
   | ((with_reducible refine zd 6 ?_); refine zbx (N := 6) (cs := #[.slice none 0 0, .int .i64 0]) (t := 35) ?_; intro gr hgr w1 iA sA; have HB1 := zQ sA; have BR1 := zQ iA; have GR := zQ (show w.heap.size ≤ gr from by rw [hgr]; exact Nat.le_refl _); clear iA sA hgr)
   | (
     go_at_call 127; refine (table_calls g0 A0_0 A0_1 A1 A2 c0_0 c0_1 c1 c2 l0_0 l0_1 l1 l2 _ (blk_below HBK.out HB1.out) (Kd.C_below zA.out HB1.out) (Kd.C_below VA.out HB1.out) (Kd.C_below yA.out HB1.out) (Kd.C_below CA.out HB1.out) HOK.out).mono ?_; rintro e w2 ⟨gm, go, cpo, rfl, hgm, mA, eA, dA⟩; rw [HT.out] at mA eA; have HB12 := zQ dA; have HB2 := zQ (below_step HB1.out dA); have BR2 := zQ (blk_below BR1.out dA); have HRG := zQ (show gr ≠ gm from by have := blk_lt BR1.out; omega);
      obtain ⟨rb, cp, htb, hrb⟩ := Tb.of_S (z := (0 : Int)) (by decide) enc_int eA (l2.length + 1) (by omega) (by rw [← HT.out]; exact tabU_row _ _ _ _ _); have hgo := (Kd.S_R eA).1 go (by simp [Value.ownBlock]);
      have HTB := zQ (show TbS (fun k => k = go ∨ ∃ i, i < T.length ∧ k = rb i) gm go T.length (l2.length + 1) cpo rb cp (tabM l0_0 l0_1 l1 l2) w2 from
        ⟨mA, by
          have e1 : (l2.length + 1) * (Kd.int .i64).sz = l2.length + 1 := Nat.mul_one _; rw [e1] at htb
          exact htb.congr (fun i _ j _ => by show Value.int .i64 (((T.getD i []).getD (j / 1) 0)) = _; rw [Nat.div_one, ← HT.out]; rfl), fun h_ => by rcases h_ with h_ | ⟨i, hi, h_⟩; exact hgo.2 h_.symm; exact (hrb i hi).1.2 h_.symm, .inl rfl, fun i hi => .inr ⟨i, hi, rfl⟩, fun k hk => by rcases hk with rfl | ⟨i, hi, rfl⟩; exact Kd.S_lt eA k (by simp [Value.ownBlock]); exact htb.ltr (by show 0 < (l2.length + 1) * 1; omega) hi⟩);
      have HSG := zQ (show ∀ k, (k = go ∨ ∃ i, i < T.length ∧ k = rb i) → w1.heap.size ≤ k from fun k hk => by rcases hk with rfl | ⟨i, hi, rfl⟩; exact hgo.1; exact (hrb i hi).1.1);
      clear mA eA dA htb hrb hgo)
   | (go_at_call 128; have hred := reduce_calls w1 _ _ gm go T.length (l2.length + 1) cpo rb cp (tabM l0_0 l0_1 l1 l2) (by omega) (by omega) (by omega) HTB.out HB12.out HSG.out; rw [Nat.add_sub_cancel, show redS T.length (tabM l0_0 l0_1 l1 l2) l2.length = s from by rw [← HS.out, ← HT.out]; rfl] at hred; refine hred.mono ?_; clear hred; rintro e w3 ⟨v3, rb3, cp3, rfl, fA, lA, gA, OA⟩; obtain ⟨Ap, cpv, evp⟩ := Kd.R_slice fA; subst evp; have HT3 := zQ lA; have HB13 := zQ gA; have HB3 := zQ (below_step HB1.out gA); have BR3 := zQ (blk_below BR1.out gA); have cm0 : w3.cell? ⟨gm, 0, none⟩ = some (.slice (some ⟨go, 0, none⟩) T.length cpo) := (blk_cell HT3.out.bm 0).trans rfl; have cm1 : w3.cell? ⟨gm, 1, none⟩ = some (.int .i64 (l2.length : Int)) := (blk_cell HT3.out.bm 1).trans rfl; have cr0 := (blk_cell BR3.out 0).trans rfl; have cr1 := (blk_cell BR3.out 1).trans rfl; have fr0 := zfz BR3.out 0; have fr1 := zfz BR3.out 1; clear fA lA gA OA))
  go_loopw [11] (fun jA wr => ∃ (i : Nat), jA = .int .i64 (i : Int) ∧ s.pv.length ≤ i ∧ i ≤ T.length ∧ Aside0 (∀ x, s.pv.length ≤ x → x < i → s.M x l2.length = 0) ∧ Drawn0 w3 wr) (fun jA _ => ((T.length : Int) - intOf jA).toNat)
  case atStart => exact ⟨s.pv.length, by first | rfl | (simp; done), Nat.le_refl _, hpv.2, ⟨fun x h1 h2 => by omega⟩, by repeat (first | exact Drawn0.refl _ | apply Drawn0.step)⟩
  case round =>
   obtain ⟨i, rfl, AB, PB, HZ, ⟨m1, rfl⟩⟩ := hrel
   by_cases hit : i < T.length
   ·have hib : decide ((i : Int) < (T.length : Int)) = true := decide_eq_true (by omega)
    have hib' : decide (i < T.length) = true := decide_eq_true hit; have p1 : (0 ≤ (i : Int)) = True := eq_true (by omega); have q1 : ((i : Int) < (T.length : Int)) = True := eq_true (by omega); have p2 : (0 ≤ (l2.length : Int)) = True := eq_true (by omega); have q2 : ((l2.length : Int) < ((l2.length + 1 : Nat) : Int)) = True := eq_true (by omega); have q2' : ((l2.length : Int) < (l2.length : Int) + 1) = True := eq_true (by omega); have co := HT3.out.t.o i hit; have cx : w3.cell? ⟨rb3 i, l2.length, none⟩ = some (.int .i64 (s.M i l2.length)) := HT3.out.t.r i hit l2.length (by omega); obtain ⟨x, hx⟩ : ∃ x, s.M i l2.length = x := ⟨_, rfl⟩; rw [hx] at cx; have HX := zQ hx; clear hx
    by_cases hz : x = 0
    ·have hzb : (x == 0) = true := beq_iff_eq.mpr hz
     have hzb' : (x != 0) = false := bne_eq_false_iff_eq.mpr hz; have HXZ := zQ hz; clear hz
     go_wp2
     repeat (go_quiet (fail); try go_wp2)
     go_roundw
     case rel => exact ⟨i + 1, by first | rfl | (simp; omega) | (congr 1; omega), by omega, by omega, ⟨fun y h1 h2 => by
      by_cases he : y = i
      ·rw [he, HX.out]; exact HXZ.out
      ·exact HZ.out y h1 (by omega)⟩, by repeat (first | exact Drawn0.refl _ | apply Drawn0.step)⟩
     case measure => simp [intOf]; omega
    ·exact absurd ⟨i, AB, hit, by rw [HX.out]; exact hz⟩ HBD.out
   ·have hib : decide ((i : Int) < (T.length : Int)) = false := decide_eq_false (by omega)
    have hib' : decide (i < T.length) = false := decide_eq_false hit
    obtain rfl : i = T.length := by omega
    clear cr0 cr1 fr0 fr1; have cb1 : w3.cell? ⟨g0, 1, none⟩ = some (.slice A0_1 l0_1.length c0_1) := (blk_cell (blk_below HBK.out HB3.out) 1).trans rfl
    go_wp2_with (first
     | ((with_reducible refine zd 60 ?_); refine Kd.R_make (Kd.int .i64) (w0 := w3) w3.heap.size 2 ?hg (N := 60) ?hd 31 (.tmp 59) (.tmp 59) rfl (l0_1.length : Int) rfl rfl Try.underlying31 (.int .i64 0) 8 info2 rfl (by decide) (by omega) 0 (ok := fun k => w3.heap.size ≤ k) (okp := fun k => w3.heap.size ≤ k) rfl (fun _ hk => hk) (below_size (pw_below_drewN (Below.refl _ _) _)) (by omega) (by simp; omega) (pw_below_drewN (Below.refl _ _) _) (below_size (pw_below_drewN (Below.refl _ _) _)) ?_; (case hd => rfl); (case hg => rfl); intro v4 w4 wA TA QB NB; rw [Int.toNat_natCast] at wA; obtain ⟨A4, c4, ev4⟩ := Kd.R_slice wA; rw [List.length_replicate] at ev4; subst ev4; have HN4 := zQ wA; have HB34 := zQ TA; clear wA TA QB NB))
    go_loopw [13] (fun uA wr => ∃ (q : Nat), uA = .int .i64 (q : Int) ∧ q ≤ l2.length ∧ Aside0 (Kd.R (Kd.int .i64) 2 wr w3.heap.size (fun k => w3.heap.size ≤ k) (.slice A4 l0_1.length c4) (numsU s l0_1.length l2 l2.length q)) ∧ Aside0 (Below w3.heap.size w3 wr)) (fun uA _ => ((l2.length : Int) - intOf uA).toNat)
    case atStart => exact ⟨0, by first | rfl | (simp; done), by omega, HN4, HB34⟩
    case round =>
     obtain ⟨q, rfl, hq, HN, HBq⟩ := hrel
     by_cases hql : q < l2.length
     ·have hqb : decide ((q : Int) < (s.pv.length : Int)) = true := decide_eq_true (by have := HPE.out; omega)
      have hqb' : decide (q < s.pv.length) = true := decide_eq_true (by have := HPE.out; omega); have hqo := HOK.out.2.2.2.2 q hql; obtain ⟨kq, hkq⟩ : ∃ z, l2.getD q 0 = z := ⟨_, rfl⟩; rw [hkq] at hqo; have z1 := hqo.1; have z2 := hqo.2.1; obtain ⟨gn, rfl⟩ := R_someT HN.out (by omega); obtain ⟨SB, ea3, hc3_⟩ := Kd.at_int (Kd.C_below (Kd.C_below CA.out HB3.out) HBq.out) (q : Int) (by omega) (by omega); subst ea3
      have hrd : rd l2 (q : Int) = kq := by show l2.getD (Int.toNat (q : Int)) 0 = _; rw [Int.toNat_natCast]; exact hkq
      rw [hrd, Int.toNat_natCast] at hc3_; have HTq := zQ (HT3.out.below (by omega) HBq.out); have cm0 : wr.cell? ⟨gm, 0, none⟩ = some (.slice (some ⟨go, 0, none⟩) T.length cpo) := (blk_cell HTq.out.bm 0).trans rfl; have cm1 : wr.cell? ⟨gm, 1, none⟩ = some (.int .i64 (l2.length : Int)) := (blk_cell HTq.out.bm 1).trans rfl
      have hqT : q < T.length := by have := HPE.out; omega
      have co := HTq.out.t.o q hqT; have cx : wr.cell? ⟨rb3 q, l2.length, none⟩ = some (.int .i64 (s.M q l2.length)) := HTq.out.t.r q hqT l2.length (by omega); obtain ⟨x, hx⟩ : ∃ x, s.M q l2.length = x := ⟨_, rfl⟩; rw [hx] at cx; obtain ⟨OB, yB⟩ := Kd.R_celln 0 HN.out kq z1 z2; have hput := Kd.R_putn HN.out kq x; have HX := zQ hx; have HKQ := zQ hkq; have HPUT := zQ hput; have HGN := zQ (HN.out.1 gn (by simp [Value.ownBlock])); have p1 : (0 ≤ (q : Int)) = True := eq_true (by omega); have q1 : ((q : Int) < (l2.length : Int)) = True := eq_true (by omega); have q1' : ((q : Int) < (T.length : Int)) = True := eq_true (by omega); have p2 : (0 ≤ (l2.length : Int)) = True := eq_true (by omega); have q2' : ((l2.length : Int) < (l2.length : Int) + 1) = True := eq_true (by omega); have p3 : (0 ≤ kq) = True := eq_true z1; have q3 : (kq < (l0_1.length : Int)) = True := eq_true z2; clear hx hkq hput hqo hrd z1 z2
      go_wp2
      go_region
      generalize FA : wr.setCell ⟨gn, kq.toNat, none⟩ (.int .i64 x) = w9
      have HN9 := zQ (show Kd.R (Kd.int .i64) 2 w9 w3.heap.size (fun k => w3.heap.size ≤ k) (.slice (some ⟨gn, 0, none⟩) l0_1.length c4) (numsU s l0_1.length l2 l2.length (q + 1)) from by
       show Kd.R _ 2 w9 _ _ _ ((numsU s l0_1.length l2 l2.length q).set (l2.getD q 0).toNat (s.M q l2.length))
       rw [HKQ.out, HX.out, ← FA]
       exact HPUT.out)
      have HB9 := zQ (show Below w3.heap.size w3 w9 from by rw [← FA]; exact below_set HBq.out HGN.out); clear FA cm0 cm1 co cx OB yB hc3_
      go_wp2
      go_roundw
      case rel => exact ⟨q + 1, by first | rfl | (simp; omega) | (congr 1; omega), by omega, ⟨Kd.R_drew HN9.out⟩, ⟨below_drew1 HB9.out⟩⟩
      case measure => simp [intOf]; omega
     ·have hqb : decide ((q : Int) < (s.pv.length : Int)) = false := decide_eq_false (by have := HPE.out; omega)
      have hqb' : decide (q < s.pv.length) = false := decide_eq_false (by have := HPE.out; omega)
      obtain rfl : q = l2.length := by omega
      have hnl := numsU_len s l0_1.length l2 l2.length l2.length; obtain ⟨NU, hNU⟩ : ∃ z, numsU s l0_1.length l2 l2.length l2.length = z := ⟨_, rfl⟩; rw [hNU] at hnl; have HNU := zQ hNU; have HNL := zQ hnl; clear hNU hnl
      go_wp2_with (first
       | (go_at_call 129; refine calls_of_args (args' := #[.slice A4 NU.length c4, .int .i64 s.bf]) (by rw [HNL.out]) ?_; refine (spec_l09Lowest.calls k A4 c4 NU s.bf r1 r2 _ (by have h_ := HN.out; rw [HNU.out] at h_; rw [← HNL.out] at h_; exact (Kd.R_reads' h_).2.2) (by have h_ := (Kd.R_reads' HN.out).2.1; rw [HNL.out]; exact h_) (by rw [← HNU.out]; exact HLW.out)).mono ?_; rintro e w6 ⟨v6, rfl, jB, mB⟩; have HB36 := zQ (below_step HBq.out mB); have HB6 := zQ (below_step HB3.out HB36.out); have BR6 := zQ (blk_below BR3.out HB36.out); obtain ⟨A6, c6, ev6⟩ := Kd.R_slice jB; subst ev6; have rB := zQ (Kd.R_lower (R_tell (ok' := fun k => k ≠ gr) rfl jB (fun k e _ hb_ _ => by have := blk_lt BR3.out; have := below_size HBq.out; omega)) (Nat.le_trans (below_size HB3.out) (below_size HBq.out))); have cr0 := (blk_cell BR6.out 0).trans rfl; have cr1 := (blk_cell BR6.out 1).trans rfl; have fr0 := zfz BR6.out 0; have fr1 := zfz BR6.out 1; clear jB mB))
      refine bodyPost_ret (results_ct rfl _ _ gr 35 #[.slice A6 r1.length c6, .int .i64 r2] (0, 0) _ rfl (by refine zb ?_; refine blk_put (cs := #[.slice A6 r1.length c6, .int .i64 0]) ?_ 1 _ rfl; refine blk_put (cs := #[.slice none 0 0, .int .i64 0]) ?_ 0 _ rfl; refine zb ?_; exact BR6.out) Try.underlying35 rfl (by kernel_rfl)) rfl ?_
      exact ⟨_, by first | rfl | (simp; done), by (with_reducible repeat (first | apply Kd.R_alloc | apply Kd.R_drewN | apply Kd.R_drew)); exact Kd.R_mono (Kd.R_far (p := ⟨gr, 1, none⟩) (Kd.R_far (p := ⟨gr, 0, none⟩) rB.out (fun _ hk => hk) _) (fun _ hk => hk) _) (fun _ _ => trivial), by repeat (first | (with_reducible first | exact HB6.out | apply pw_below_drewN | apply below_drew1 | refine below_set ?_ GR.out) | exact HB6.out)⟩

end
end Go.Proofs.Ytimjblgepbhoaaa.PStays

