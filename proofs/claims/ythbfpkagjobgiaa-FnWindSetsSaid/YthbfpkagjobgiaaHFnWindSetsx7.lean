/- The walks of the functions that the law reaches: each computes what its Lean function says. No condition beyond each contract's own. -/
import Derived.Test.YthbfpkagjobgiaaHFnWindSetsx0
import Derived.Test.YthbfpkagjobgiaaHFnWindSetsx4
import Derived.Test.YthbfpkagjobgiaaHFnWindSetsx6
namespace Go.Proofs.Ythbfpkagjobgiaa.PFnWindSets
noncomputable section
open Go.RowKit Go.Proofs.YthbfpkagjobgiaaW.PrintWords Go.Proofs.YthbfpkagjobgiaaW.PrintLast Go.Proofs.YthbfpkagjobgiaaW.PrintMore
attribute [local go_sem] max2_int min2_int max_two min_two max_three min_three max_four min_four   -- for this text's walks alone
set_option linter.unusedVariables false
set_option linter.unusedSimpArgs false

/-! ### impl_BestSet: function 39 -/
/-! by hand: all sets, one after another (what stands goes on) -/
def wk (st : List Int → Bool) (fo : List Int → Int) (N : Nat) : Nat → List Int × Int → List Int → Nat → List Int × Int
  | 0, s, _, _ => s
  | m + 1, s, set, i => if st set = true then (List.range' i (N - i)).foldl (fun s (j : Nat) => wk st fo N m s (set ++ [(j : Int)]) (j + 1)) (if s.2 < fo set then (set, fo set) else s) else s
def SetIn (set : List Int) (i : Nat) : Prop := set.length ≤ i ∧ ∀ x ∈ set, 0 ≤ x ∧ x < (i : Int)
theorem SetIn.snoc {set : List Int} {i j : Nat} (h : SetIn set i) (hj : i ≤ j) : SetIn (set ++ [(j : Int)]) (j + 1) := by
  refine ⟨by have := h.1; rw [List.length_append]; show _ + 1 ≤ _; omega, fun x hx => ?_⟩
  rcases List.mem_append.1 hx with h1 | h1
  · have := h.2 x h1; omega
  · rw [List.mem_singleton.1 h1]; omega
theorem wk_next {S : Type} (f : S → Nat → S) (s : S) {i j : Nat} (h : i ≤ j) : (List.range' i (j + 1 - i)).foldl f s = f ((List.range' i (j - i)).foldl f s) j := by
  rw [show j + 1 - i = (j - i) + 1 from by omega, ← List.range'_append_1, List.foldl_append, show i + (j - i) = j from by omega]
  rfl
open Classical in
noncomputable def theOf {α : Type} (z : α) (g : Nat → Option α) : α := if h : ∃ r, ∃ k, g k = some r then h.choose else z
theorem leO_le {α : Type} {g : Nat → Option α} (hm : ∀ k, LeO (g k) (g (k + 1))) {r : α} {k : Nat} (h : g k = some r) : ∀ d, g (k + d) = some r
  | 0 => h
  | d + 1 => hm (k + d) r (leO_le hm h d)
theorem theOf_eq {α : Type} {z : α} {g : Nat → Option α} (hm : ∀ k, LeO (g k) (g (k + 1))) {r : α} (h : ∃ k, g k = some r) : theOf z g = r := by
  unfold theOf
  rw [dif_pos ⟨r, h⟩]
  obtain ⟨k', h'⟩ := (⟨r, h⟩ : ∃ r, ∃ k, g k = some r).choose_spec
  obtain ⟨k, h⟩ := h
  have e1 := leO_le hm h k'
  have e2 := leO_le hm h' k
  rw [Nat.add_comm] at e2
  rw [e2] at e1
  exact Option.some.inj e1
theorem R_reps1 {Rr : Int → List Value → Prop} {b : Int} (h : Rr b [.int .i64 b]) : Reps Rr 1 [b] [.int .i64 b] := by
  simpa using Reps.snoc (Reps.none Rr 1) h rfl
/-- the closure's variables: list, wind, moment, best, most, extend -/
structure WkW (w0 : World) (gl gw gm gb gs ge : Nat) (A : Option Addr) (n cp : Nat) (wd mt : Int) (s : List Int × Int) (w : World) : Prop where
  bl : w.heap[gl]? = some (.cells #[.slice A n cp] 42 (0, 0))
  bw : w.heap[gw]? = some (.cells #[.int .i64 wd] 2 (0, 0))
  bm : w.heap[gm]? = some (.cells #[.int .i64 mt] 2 (0, 0))
  bs : w.heap[gs]? = some (.cells #[.int .i64 s.2] 2 (0, 0))
  be : w.heap[ge]? = some (.cells #[.func (.func 75) #[] #[.pointer (some ⟨gl, 0, none⟩), .pointer (some ⟨gw, 0, none⟩), .pointer (some ⟨gm, 0, none⟩), .pointer (some ⟨gs, 0, none⟩), .pointer (some ⟨gb, 0, none⟩), .pointer (some ⟨ge, 0, none⟩)]] 87 (0, 0))
  rest : ∃ vb, w.heap[gb]? = some (.cells #[vb] 30 (0, 0)) ∧ Kd.R (Kd.int .i64) 2 w w0.heap.size (fun k => k ≠ gs ∧ k ≠ gb) vb s.1
  bel : Below w0.heap.size w0 w
  lo : w0.heap.size ≤ gl ∧ gl < gw ∧ gw < gm ∧ gm < gb ∧ gb < gs ∧ gs < ge
theorem WkW.below {w0 w w' : World} {gl gw gm gb gs ge : Nat} {A : Option Addr} {n cp : Nat} {wd mt : Int} {s : List Int × Int} (h : WkW w0 gl gw gm gb gs ge A n cp wd mt s w) (hb : Below w.heap.size w w') : WkW w0 gl gw gm gb gs ge A n cp wd mt s w' := by
  obtain ⟨vb, e1, e2⟩ := h.rest
  exact ⟨blk_below h.bl hb, blk_below h.bw hb, blk_below h.bm hb, blk_below h.bs hb, blk_below h.be hb, ⟨vb, blk_below e1 hb, Kd.R_below e2 hb⟩, below_step h.bel hb, h.lo⟩
theorem WkW.big {w0 w : World} {gl gw gm gb gs ge : Nat} {A : Option Addr} {n cp : Nat} {wd mt : Int} {s : List Int × Int} (h : WkW w0 gl gw gm gb gs ge A n cp wd mt s w) : ge < w.heap.size := blk_lt h.be
theorem WkW.store {w0 w w6 w7 : World} {gl gw gm gb gs ge : Nat} {A : Option Addr} {n cp : Nat} {wd mt : Int} {s : List Int × Int} (h : WkW w0 gl gw gm gb gs ge A n cp wd mt s w) {v5 : Value} {set : List Int} {x : Int} (hr : Kd.R (Kd.int .i64) 2 w w0.heap.size (fun k => k ≠ gs ∧ k ≠ gb) v5 set)
    (e6 : w6 = w.setCell ⟨gb, 0, none⟩ v5) (e7 : w7 = w6.setCell ⟨gs, 0, none⟩ (.int .i64 x)) : WkW w0 gl gw gm gb gs ge A n cp wd mt (set, x) w7 ∧ Kept w w7 (fun k => k = gs ∨ k = gb) := by
  obtain ⟨vb, e1, e2⟩ := h.rest
  have hlo := h.lo
  have k6 : Kept w w6 (fun k => k = gs ∨ k = gb) := by rw [e6]; exact Kept.setCell (S := fun k => k = gs ∨ k = gb) (p := ⟨gb, 0, none⟩) (Kept.refl _ _) (.inl (.inr rfl)) _
  have k7 : Kept w6 w7 (fun k => k = gs ∨ k = gb) := by rw [e7]; exact Kept.setCell (S := fun k => k = gs ∨ k = gb) (p := ⟨gs, 0, none⟩) (Kept.refl _ _) (.inl (.inl rfl)) _
  have k67 : Kept w w7 (fun k => k = gs ∨ k = gb) := Kept.then_ k6 k7 (fun k hk => .inl hk)
  have b6 : w6.heap[gb]? = some (.cells #[v5] 30 (0, 0)) := by rw [e6]; exact blk_put (cs := #[vb]) e1 0 _ rfl
  have s6 : w6.heap[gs]? = some (.cells #[.int .i64 s.2] 2 (0, 0)) := by rw [e6]; exact (Below.heap_setCell w ⟨gb, 0, none⟩ v5 gs (fun e => by simp at e; omega)).trans h.bs
  refine ⟨⟨blk_kept h.bl k67 (by omega), blk_kept h.bw k67 (by omega), blk_kept h.bm k67 (by omega), ?_, blk_kept h.be k67 (by omega), ⟨v5, ?_, Kd.R_kept hr k67 (fun k h1 h2 => by omega)⟩, ?_, h.lo⟩, k67⟩
  · rw [e7]; exact blk_put (cs := #[.int .i64 s.2]) s6 0 _ rfl
  · rw [e7]; exact (Below.heap_setCell w6 ⟨gs, 0, none⟩ _ gb (fun e => by simp at e; omega)).trans b6
  · rw [e7, e6]
    exact below_set (below_set h.bel (by show _ ≤ gb; omega)) (by show _ ≤ gs; omega)
theorem wk_meas1 {n : Nat} {z : Int} (e : z = ((n + 1 : Nat) : Int)) (h : n ≤ 1024) : (2000 - z).toNat < (2000 - (n : Int)).toNat := by omega
theorem wk_meas {n : Nat} {z : Int} (e : z = ((n + 1 : Nat) : Int)) (h : n ≤ 1024) : (2000 - intOf (.int .i64 z)).toNat < (2000 - intOf (.int .i64 (n : Int))).toNat := wk_meas1 e h
theorem wk_fresh {w0 w w9 : World} {gl gw gm gb gs ge n cp : Nat} {A : Option Addr} {wd mt : Int} {s : List Int × Int} {v : Value} {ys : List Int} (h : WkW w0 gl gw gm gb gs ge A n cp wd mt s w) (hz : Kd.R (Kd.int .i64) 2 w9 w.heap.size (fun _ => True) v ys) : Kd.R (Kd.int .i64) 2 w9 w0.heap.size (fun k => k ≠ gs ∧ k ≠ gb) v ys := by
  have hlo := h.lo
  have hbg := h.big
  exact Kd.R_lower (Kd.R_mono (Kd.R_bound hz) (fun k hk => by have := hk.2.1; omega)) (below_size h.bel)
set_option maxHeartbeats 8000000 in
set_option maxRecDepth 100000 in
theorem best1_calls (w0 : World) (gl gw gm gb gs ge : Nat) (A : Option Addr) (cp : Nat) (lst : List S27) (wd mt : Int) (hn : lst.length ≤ 1024) (hrL : Kd.C k27 w0 A lst.length lst) (hcL : lst.length ≤ cp) (st : List Int → Bool) (fo : List Int → Int)
    (hst : ∀ set i, SetIn set i → i ≤ lst.length → (∃ k, impl_standsWind.f k lst set wd mt = some (st set)) ∧ ∃ k r2 r3, impl_setSums.f k lst set wd = some (fo set, r2, r3)) :
    ∀ (m i : Nat) (Al : Option Addr) (cl : Nat) (set : List Int) (s : List Int × Int) (w : World), lst.length < i + m → i ≤ lst.length → SetIn set i → WkW w0 gl gw gm gb gs ge A lst.length cp wd mt s w → Kd.R (Kd.int .i64) 2 w w0.heap.size (fun k => k ≠ gs ∧ k ≠ gb) (.slice Al set.length cl) set →
    Calls Try.prog 75 #[.slice Al set.length cl, .int .i64 (i : Int), .pointer (some ⟨gl, 0, none⟩), .pointer (some ⟨gw, 0, none⟩), .pointer (some ⟨gm, 0, none⟩), .pointer (some ⟨gs, 0, none⟩), .pointer (some ⟨gb, 0, none⟩), .pointer (some ⟨ge, 0, none⟩)] w fun e w' => e = .returned (.tuple #[]) ∧ WkW w0 gl gw gm gb gs ge A lst.length cp wd mt (wk st fo lst.length m s set i) w' ∧ Kept w w' (fun k => k = gs ∨ k = gb) := by
  intro m
  induction m with
  | zero => intro i Al cl set s w hmi hi; omega
  | succ m ih =>
    intro i Al cl set s w hmi hi hsi hF hl
    obtain ⟨⟨k1, e1⟩, k2, r2, r3, e2⟩ := hst set i hsi hi
    have HLL := Aside0.mk (show set.length ≤ i ∧ i ≤ lst.length ∧ lst.length ≤ 1024 from ⟨hsi.1, hi, hn⟩)
    have HMI := Aside0.mk hmi
    have HSI := Aside0.mk hsi
    have HF := Aside0.mk hF
    have HL := Aside0.mk hl
    have HLC := Aside0.mk (Kd.R_reads' hl)
    have HRL := Aside0.mk hrL
    have HE1 := Aside0.mk e1
    have HE2 := Aside0.mk e2
    have IH := Aside0.mk ih
    have cl0 : w.cell? ⟨gl, 0, none⟩ = some (.slice A lst.length cp) := (blk_cell hF.bl 0).trans rfl
    have cw0 : w.cell? ⟨gw, 0, none⟩ = some (.int .i64 wd) := (blk_cell hF.bw 0).trans rfl
    have cm0 : w.cell? ⟨gm, 0, none⟩ = some (.int .i64 mt) := (blk_cell hF.bm 0).trans rfl
    have hcases : (st set = false ∧ wk st fo lst.length (m + 1) s set i = s) ∨ (st set = true ∧ decide (s.2 < fo set) = true ∧ wk st fo lst.length (m + 1) s set i = (List.range' i (lst.length - i)).foldl (fun s (j : Nat) => wk st fo lst.length m s (set ++ [(j : Int)]) (j + 1)) (set, fo set)) ∨ (st set = true ∧ decide (s.2 < fo set) = false ∧ wk st fo lst.length (m + 1) s set i = (List.range' i (lst.length - i)).foldl (fun s (j : Nat) => wk st fo lst.length m s (set ++ [(j : Int)]) (j + 1)) s) := by
      cases hb : st set with
      | false => exact .inl ⟨rfl, by simp only [wk]; rw [if_neg (by rw [hb]; decide)]⟩
      | true =>
        by_cases hc : s.2 < fo set
        · exact .inr (.inl ⟨rfl, decide_eq_true hc, by simp only [wk]; rw [if_pos hb, if_pos hc]⟩)
        · exact .inr (.inr ⟨rfl, decide_eq_false hc, by simp only [wk]; rw [if_pos hb, if_neg hc]⟩)
    obtain ⟨fs, hfs⟩ : ∃ x, fo set = x := ⟨_, rfl⟩
    rw [hfs] at hcases
    rw [hfs] at e2
    replace HE2 := Aside0.mk e2
    obtain ⟨sl, hsl⟩ : ∃ x, s.2 = x := ⟨_, rfl⟩
    rw [hsl] at hcases
    have HSL := Aside0.mk hsl
    clear hF hl hi hsi hmi ih e1 e2 hst hrL hfs hsl
    rcases hcases with ⟨hb, hw⟩ | ⟨hb, hc, hw⟩ | ⟨hb, hc, hw⟩
    · rw [hb] at HE1
      have HW := Aside0.mk hw
      clear hw hb
      go_enter Try.func75, Try.ntmps75
      go_wp2_with (first
        | (go_at_call 69; refine (impl_standsWind.calls k1 A cp lst Al cl set wd mt false _ (Kd.C_below HRL.out HF.out.bel) hcL HLC.out.2.2 HLC.out.2.1 HE1.out).mono ?_; rintro e w1 ⟨rfl, hb1⟩; have HB1 := Aside0.mk hb1; clear hb1 cl0 cw0 cm0))
      first | go_end0 | (simp only [Exit.inBlock, Exit.then]; refine bodyPost_ret (results_none rfl _ _ _) rfl ?_) | refine bodyPost_ret (results_none rfl _ _ _) rfl ?_
      rw [HW.out]
      exact ⟨by first | rfl | (simp; done), HF.out.below HB1.out, Kept.of_below HB1.out _⟩
    · skip
      rw [hb] at HE1
      have HW := Aside0.mk hw
      clear hw hb
      go_enter Try.func75, Try.ntmps75
      go_wp2_with (first
        | (go_at_call 69; refine (impl_standsWind.calls k1 A cp lst Al cl set wd mt true _ (Kd.C_below HRL.out HF.out.bel) hcL HLC.out.2.2 HLC.out.2.1 HE1.out).mono ?_; rintro e w1 ⟨rfl, hb1⟩; have HB1 := Aside0.mk hb1; have HF1 := Aside0.mk (HF.out.below hb1); clear hb1 cl0 cw0 cm0; have cl1 : w1.cell? ⟨gl, 0, none⟩ = some (.slice A lst.length cp) := (blk_cell HF1.out.bl 0).trans rfl; have cw1 : w1.cell? ⟨gw, 0, none⟩ = some (.int .i64 wd) := (blk_cell HF1.out.bw 0).trans rfl)
        | (go_at_call 68; refine (impl_setSums.calls k2 A cp lst Al cl set wd fs r2 r3 _ (Kd.C_below HRL.out HF1.out.bel) hcL (Kd.C_below HLC.out.2.2 HB1.out) HLC.out.2.1 HE2.out).mono ?_; rintro e w2 ⟨rfl, hb2⟩; have HB2 := Aside0.mk (below_step HB1.out hb2); have HF2 := Aside0.mk (HF1.out.below hb2); clear hb2 cl1 cw1; have cs2 : w2.cell? ⟨gs, 0, none⟩ = some (.int .i64 sl) := (blk_cell (by have := HF2.out.bs; rw [HSL.out] at this; exact this) 0).trans rfl)
        | ((with_reducible refine gate_dst (N := 31) rfl ?_); refine Kd.R_lit (Kd.int .i64) _ 2 ?hg (N := 31) ?hd (xs := ([] : List Int)) (inner := []) (ok := fun k => w.heap.size ≤ k) (okp := fun k => w.heap.size ≤ k) ?hr ?hp (fun _ hk => hk) (below_size HB2.out) (Below.refl _ _) (Nat.le_refl _) (by simp) ?_; (case hd => rfl); (case hg => rfl); (case hr => first | (go_simp; done) | (go_simp; rfl)); (case hp => exact (Reps.none _ _)); intro v4 w4 ho4 hb4 hg_ hnew_; clear hg_ hnew_; have HO4 := Aside0.mk (Kd.R_lower ho4 (below_size HB2.out)); have HB4 := Aside0.mk (below_step HB2.out hb4); clear ho4 hb4 cs2)
        | ((with_reducible refine gate_builtin (b := .append) (xs := #[.tmp 31, .tmp 32]) rfl ?_); at_builtin; refine Kd.R_append_rows (Kd.int .i64) (w0 := w) w.heap.size rfl (.tmp 31) (.tmp 32) 30 2 (.int .i64 0) 8 rfl Try.underlying30 info2 rfl (by decide) (by omega) v4 [] set _ _ _ (fun k => w.heap.size ≤ k) (fun _ => False) rfl rfl HO4.out ?aR (fun _ _ h => h) (fun _ h => h.elim) ?aF HB4.out (below_size HB4.out) ?aL ?_; (case aR => exact (Kd.C_below HLC.out.2.2 HB4.out)); (case aF => exact (fun k hk => Nat.le_trans (below_size HB4.out) hk)); (case aL => have := HLL.out; simp; omega); intro v5 w5 ho hb hg hat; clear hg hat; rw [List.nil_append] at ho; obtain ⟨A5, c5, ev5⟩ := Kd.R_slice ho; subst ev5; have HO5 := Aside0.mk (wk_fresh HF.out (Kd.R_mono ho (fun _ _ => trivial))); have HF5 := Aside0.mk (HF.out.below hb); have HB5 := Aside0.mk hb; have cy1 := (blk_cell HF5.out.rest.choose_spec.1 0).trans rfl; have fy1 := blk_frozen HF5.out.rest.choose_spec.1 0; clear ho hb)
        | ((with_reducible refine gate_store (t := 30) (p := 6) rfl ?_); refine store_event (t := 30) (p := 6) (v := ?vo_w6) (w1 := (w5.setCell ⟨gb, 0, none⟩ (.slice A5 set.length c5))) ?hg ?ho ?hn ?hr ?_; (case ho => rfl); (case hg => rfl); (case hn => rfl); (case hr => first | (go_simp; done) | (go_simp; rfl)); intro w6 hw6; have HE6 := Aside0.mk hw6; have b2_ : w6.heap[gs]? = some (.cells #[.int .i64 s.2] 2 (0, 0)) := (by rw [hw6]; exact (Below.heap_setCell w5 ⟨gb, 0, none⟩ (.slice A5 set.length c5) gs (fun e => by have := HF.out.lo; simp at e; omega)).trans HF5.out.bs); have cy2 := (blk_cell b2_ 0).trans rfl; have fy2 := blk_frozen b2_ 0; clear hw6 cy1 fy1 b2_)
        | ((with_reducible refine gate_store (t := 2) (p := 5) rfl ?_); refine store_event (t := 2) (p := 5) (v := ?vo_w7) (w1 := (w6.setCell ⟨gs, 0, none⟩ (.int .i64 fs))) ?hg ?ho ?hn ?hr ?_; (case ho => rfl); (case hg => rfl); (case hn => rfl); (case hr => first | (go_simp; done) | (go_simp; rfl)); intro w7 hw7; have HE7 := Aside0.mk hw7; clear hw7 cy2 fy2))
      have HFS := Aside0.mk (WkW.store HF5.out HO5.out HE6.out HE7.out).1
      have HKS := Aside0.mk (Kept.then_ (Kept.of_below HB5.out (fun k => k = gs ∨ k = gb)) (WkW.store HF5.out HO5.out HE6.out HE7.out).2 (fun k hk => .inl hk))
      go_loopw [13] (fun v13 wr => ∃ (j : Nat), v13 = .int .i64 (j : Int) ∧ Aside0 (i ≤ j ∧ j ≤ lst.length) ∧ Aside0 (WkW w0 gl gw gm gb gs ge A lst.length cp wd mt ((List.range' i (j - i)).foldl (fun s (j : Nat) => wk st fo lst.length m s (set ++ [(j : Int)]) (j + 1)) (set, fs)) wr) ∧ Aside0 (Kd.R (Kd.int .i64) 2 wr w0.heap.size (fun k => k ≠ gs ∧ k ≠ gb) (.slice Al set.length cl) set) ∧ Aside0 (Kept w wr (fun k => k = gs ∨ k = gb))) (fun v13 _ => (2000 - intOf v13).toNat)
      case atStart => exact ⟨i, rfl, ⟨by have := HLL.out; omega⟩, ⟨by rw [show i - i = 0 from by omega]; exact HFS.out⟩, ⟨Kd.R_kept HL.out HKS.out (fun k h1 h2 => by omega)⟩, HKS⟩
      case round =>
        obtain ⟨j, rfl, HJN, HFr, HLr, HKr⟩ := hrel
        have cl9 : wr.cell? ⟨gl, 0, none⟩ = some (.slice A lst.length cp) := (blk_cell HFr.out.bl 0).trans rfl
        have hjn := HJN.out
        have hll := HLL.out
        by_cases hc9 : j < lst.length
        · have hcb : decide ((j : Int) < (lst.length : Int)) = true := decide_eq_true (by omega)
          have hcc : decide (j < lst.length) = true := decide_eq_true hc9
          have HJM := Aside0.mk hc9
          have e5 : wrap64 ((j : Int) + 1) = ((j + 1 : Nat) : Int) := by unfold wrap64; omega
          clear hjn hll hc9
          go_wp2
          refine start_ (n := 10) (S := fun w' => w'.cell? ⟨ge, 0, none⟩ = some (.func (.func 75) #[] #[.pointer (some ⟨gl, 0, none⟩), .pointer (some ⟨gw, 0, none⟩), .pointer (some ⟨gm, 0, none⟩), .pointer (some ⟨gs, 0, none⟩), .pointer (some ⟨gb, 0, none⟩), .pointer (some ⟨ge, 0, none⟩)])) (ds := []) #[false, false, false, false, false, false, false, false, false, false] (by kernel_rfl) rfl rfl ((blk_cell HFr.out.be 0).trans rfl) (fun hHeld => ?_)
          have H20 := Aside0.mk (HFr.out.below (below_drew1 (Below.refl _ _)))
          have HL20 := Aside0.mk (Kd.C_below (Kd.R_reads' HLr.out).2.2 (below_drew1 (Below.refl _ _)))
          have HR20 := Aside0.mk (Kd.R_below HLr.out (below_drew1 (Below.refl _ _)))
          have HK20 := Aside0.mk (Kept.below HKr.out (below_drew1 (Below.refl _ _)))
          generalize wr.drew = w20 at H20 HL20 HR20 HK20 hHeld ⊢
          clear cl9
          refine pure_ (i := 2) (N := some 44) (v := ?_) (a' := ?_) #[false, false, true, false, false, false, false, false, false, false] rfl rfl (by kernel_rfl) (fun _ _ _ h => h) (Or.inl ⟨by rfl, ?_⟩) ?_ ?_
          rotate_left
          · intro w'
            go_simp
            with_reducible rfl
          rotate_left
          · simp only [Act.put, List.setIfInBounds_toArray, List.set_cons_zero, List.set_cons_succ, i64_w, i32_w]
            rfl
          refine pure_ (i := 4) (N := some 46) (v := ?_) (a' := ?_) #[false, false, true, false, true, false, false, false, false, false] rfl rfl (by kernel_rfl) (fun _ _ _ h => h) (Or.inl ⟨by rfl, ?_⟩) ?_ ?_
          rotate_left
          · intro w'
            go_simp
            with_reducible rfl
          rotate_left
          · simp only [Act.put, List.setIfInBounds_toArray, List.set_cons_zero, List.set_cons_succ, i64_w, i32_w]
            rfl
          refine pure_ (i := 7) (N := some 49) (v := ?_) (a' := ?_) #[false, false, true, false, true, false, false, true, false, false] rfl rfl (by kernel_rfl) (fun _ _ _ h => h) (Or.inl ⟨by rfl, ?_⟩) ?_ ?_
          rotate_left
          · intro w'
            go_simp
            with_reducible rfl
          rotate_left
          · simp only [Act.put, List.setIfInBounds_toArray, List.set_cons_zero, List.set_cons_succ, i64_w, i32_w]
            rfl
          refine pure_ (i := 8) (N := some 50) (v := ?_) (a' := ?_) #[false, false, true, false, true, false, false, true, true, false] rfl rfl (by kernel_rfl) (fun _ _ _ h => h) (Or.inl ⟨by rfl, ?_⟩) ?_ ?_
          rotate_left
          · intro w'
            go_simp
            with_reducible rfl
          rotate_left
          · simp only [Act.put, List.setIfInBounds_toArray, List.set_cons_zero, List.set_cons_succ, i64_w, i32_w]
            rfl
          refine take_ (i := 0) (N := some 42) (v := ?_) (a' := ?_) #[true, false, true, false, true, false, false, true, true, false] rfl rfl (by kernel_rfl) (fun _ _ _ h => h) (Or.inl ⟨by rfl, ?_⟩) hHeld ?_ ?_
          rotate_left
          · intro w' s0
            go_simp
            with_reducible rfl
          rotate_left
          · simp only [Act.put, List.setIfInBounds_toArray, List.set_cons_zero, List.set_cons_succ, i64_w, i32_w]
            rfl
          refine join_ (σ := Value × Value × Value) 2 #[true, true, true, true, true, true, false, true, true, false] (fun s => [(43, s.1), (45, s.2.1), (47, s.2.2)]) (fun s w' => Kd.R (Kd.int .i64) 2 w' w20.heap.size (fun _ => True) s.2.1 set ∧ Kd.R (Kd.int .i64) 2 w' w20.heap.size (fun _ => True) s.2.2 [((j : Nat) : Int)] ∧ Below w20.heap.size w20 w') ?_ ?_
          rotate_left
          · intro hCont
            refine two_ (i := 1) (j := 5) (Ni := some 43) (Nj := some 47) #[true, true, true, false, true, false, false, true, true, false] #[true, false, true, false, true, true, false, true, true, false] rfl rfl rfl rfl (by kernel_rfl) (by decide) (by decide) (fun K hK => ?_) (fun K hK => ?_)
            · skip
              refine Kd.R_lit_step (Kd.int .i64) (w0 := w20) w20.heap.size 2 (by rfl) rfl (xs := []) (inner := []) (ok := fun k => w20.heap.size ≤ k) (okp := fun _ => False) (by first | (go_simp; done) | (go_simp; rfl)) (Reps.none _ _) (fun _ h => h.elim) (Nat.le_refl _) (Below.refl _ _) (Nat.le_refl _) (by simp) ?_
              intro v1 w1 ho hb hg hat
              have HA1 := Aside0.mk ho
              have HA1b := Aside0.mk hb
              clear ho hb hg hat
              have H1 := Aside0.mk (H20.out.below HA1b.out)
              have HX1 := Aside0.mk HA1b.out
              refine hK.out _ _ ((blk_cell H1.out.be 0).trans rfl) (fun hHeld => ?_)
              clear hK K
              refine norm_ (a' := ?_) ?_ ?_
              rotate_left
              · show Act.put _ (some 43) _ = _
                simp only [Act.put, List.setIfInBounds_toArray, List.set_cons_zero, List.set_cons_succ, i64_w, i32_w]
                rfl
              refine two_ (i := 3) (j := 5) (Ni := some 45) (Nj := some 47) #[true, true, true, true, true, false, false, true, true, false] #[true, true, true, false, true, true, false, true, true, false] rfl rfl rfl rfl (by kernel_rfl) (by decide) (by decide) (fun K hK => ?_) (fun K hK => ?_)
              · skip
                refine Kd.R_append_rows_step (Kd.int .i64) (w0 := w20) w20.heap.size (by rfl) (.tmp 43) (.tmp 44) 30 2 (.int .i64 0) 8 rfl Try.underlying30 info2 rfl (by decide) (by omega) v1 [] set _ _ _ (fun k => w20.heap.size ≤ k) (fun _ => False) rfl rfl (HA1.out) (Kd.C_below HL20.out HX1.out) (fun _ _ h => h) (fun _ h => h.elim) (fun _ h => Nat.le_trans HX1.out.size h) HX1.out HX1.out.size (by have := HLL.out; simp; omega) ?_
                intro v13 w13 ho hb hg hat
                rw [List.nil_append] at ho
                have HY13 := Aside0.mk ho
                have HX13 := Aside0.mk hb
                have H13 := Aside0.mk (H20.out.below hb)
                clear ho hb hg hat
                refine hK.out _ _ ((blk_cell H13.out.be 0).trans rfl) (fun hHeld => ?_)
                clear hK K
                refine norm_ (a' := ?_) ?_ ?_
                rotate_left
                · show Act.put _ (some 45) _ = _
                  simp only [Act.put, List.setIfInBounds_toArray, List.set_cons_zero, List.set_cons_succ, i64_w, i32_w]
                  rfl
                refine one_ (i := 5) (N := some 47) #[true, true, true, true, true, true, false, true, true, false] rfl rfl (by kernel_rfl) (by decide) (fun K hK => ?_)
                refine Kd.R_lit_step (Kd.int .i64) (w0 := w13) w13.heap.size 2 (by rfl) rfl (xs := [(((j : Nat) : Int))]) (inner := [.int .i64 ((j : Nat) : Int)]) (ok := fun k => w13.heap.size ≤ k) (okp := fun _ => False) (by first | (go_simp; done) | (go_simp; rfl)) (R_reps1 rfl) (fun _ h => h.elim) (Nat.le_refl _) (Below.refl _ _) (Nat.le_refl _) (by simp) ?_
                intro v135 w135 ho hb hg hat
                have HQ135 := Aside0.mk ho
                have HQ135b := Aside0.mk hb
                clear ho hb hg hat
                have H135 := Aside0.mk (H13.out.below HQ135b.out)
                have HX135 := Aside0.mk (below_step HX13.out HQ135b.out)
                refine hK.out _ _ ((blk_cell H135.out.be 0).trans rfl) (fun hHeld => ?_)
                clear hK K
                refine norm_ (a' := ?_) ?_ ?_
                rotate_left
                · show Act.put _ (some 47) _ = _
                  simp only [Act.put, List.setIfInBounds_toArray, List.set_cons_zero, List.set_cons_succ, i64_w, i32_w]
                  rfl
                exact norm_ (by simp only [putAll, Act.put, List.setIfInBounds_toArray, List.set_cons_zero, List.set_cons_succ]) (hCont (v1, v13, v135) _ ⟨Kd.R_mono (Kd.R_below HY13.out HQ135b.out) (fun _ _ => trivial), Kd.R_mono (Kd.R_lower HQ135.out HX13.out.size) (fun _ _ => trivial), HX135.out⟩)
              · skip
                refine Kd.R_lit_step (Kd.int .i64) (w0 := w1) w1.heap.size 2 (by rfl) rfl (xs := [(((j : Nat) : Int))]) (inner := [.int .i64 ((j : Nat) : Int)]) (ok := fun k => w1.heap.size ≤ k) (okp := fun _ => False) (by first | (go_simp; done) | (go_simp; rfl)) (R_reps1 rfl) (fun _ h => h.elim) (Nat.le_refl _) (Below.refl _ _) (Nat.le_refl _) (by simp) ?_
                intro v15 w15 ho hb hg hat
                have HQ15 := Aside0.mk ho
                have HQ15b := Aside0.mk hb
                clear ho hb hg hat
                have H15 := Aside0.mk (H1.out.below HQ15b.out)
                have HX15 := Aside0.mk (below_step HX1.out HQ15b.out)
                refine hK.out _ _ ((blk_cell H15.out.be 0).trans rfl) (fun hHeld => ?_)
                clear hK K
                refine norm_ (a' := ?_) ?_ ?_
                rotate_left
                · show Act.put _ (some 47) _ = _
                  simp only [Act.put, List.setIfInBounds_toArray, List.set_cons_zero, List.set_cons_succ, i64_w, i32_w]
                  rfl
                refine one_ (i := 3) (N := some 45) #[true, true, true, true, true, true, false, true, true, false] rfl rfl (by kernel_rfl) (by decide) (fun K hK => ?_)
                refine Kd.R_append_rows_step (Kd.int .i64) (w0 := w20) w20.heap.size (by rfl) (.tmp 43) (.tmp 44) 30 2 (.int .i64 0) 8 rfl Try.underlying30 info2 rfl (by decide) (by omega) v1 [] set _ _ _ (fun k => w20.heap.size ≤ k) (fun _ => False) rfl rfl ((Kd.R_below HA1.out HQ15b.out)) (Kd.C_below HL20.out HX15.out) (fun _ _ h => h) (fun _ h => h.elim) (fun _ h => Nat.le_trans HX15.out.size h) HX15.out HX15.out.size (by have := HLL.out; simp; omega) ?_
                intro v153 w153 ho hb hg hat
                rw [List.nil_append] at ho
                have HY153 := Aside0.mk ho
                have HX153 := Aside0.mk hb
                have H153 := Aside0.mk (H20.out.below hb)
                have HQ153 := Aside0.mk (Kd.R_grown HQ15.out hg (fun k hk e => by have := Kd.R_lt HA1.out k e.symm; omega))
                clear ho hb hg hat
                refine hK.out _ _ ((blk_cell H153.out.be 0).trans rfl) (fun hHeld => ?_)
                clear hK K
                refine norm_ (a' := ?_) ?_ ?_
                rotate_left
                · show Act.put _ (some 45) _ = _
                  simp only [Act.put, List.setIfInBounds_toArray, List.set_cons_zero, List.set_cons_succ, i64_w, i32_w]
                  rfl
                exact norm_ (by simp only [putAll, Act.put, List.setIfInBounds_toArray, List.set_cons_zero, List.set_cons_succ]) (hCont (v1, v153, v15) _ ⟨Kd.R_mono HY153.out (fun _ _ => trivial), Kd.R_mono (Kd.R_lower HQ153.out HX1.out.size) (fun _ _ => trivial), HX153.out⟩)
            · skip
              refine Kd.R_lit_step (Kd.int .i64) (w0 := w20) w20.heap.size 2 (by rfl) rfl (xs := [(((j : Nat) : Int))]) (inner := [.int .i64 ((j : Nat) : Int)]) (ok := fun k => w20.heap.size ≤ k) (okp := fun _ => False) (by first | (go_simp; done) | (go_simp; rfl)) (R_reps1 rfl) (fun _ h => h.elim) (Nat.le_refl _) (Below.refl _ _) (Nat.le_refl _) (by simp) ?_
              intro v5 w5 ho hb hg hat
              have HQ5 := Aside0.mk ho
              have HQ5b := Aside0.mk hb
              clear ho hb hg hat
              have H5 := Aside0.mk (H20.out.below HQ5b.out)
              refine hK.out _ _ ((blk_cell H5.out.be 0).trans rfl) (fun hHeld => ?_)
              clear hK K
              refine norm_ (a' := ?_) ?_ ?_
              rotate_left
              · show Act.put _ (some 47) _ = _
                simp only [Act.put, List.setIfInBounds_toArray, List.set_cons_zero, List.set_cons_succ, i64_w, i32_w]
                rfl
              refine one_ (i := 1) (N := some 43) #[true, true, true, false, true, true, false, true, true, false] rfl rfl (by kernel_rfl) (by decide) (fun K hK => ?_)
              refine Kd.R_lit_step (Kd.int .i64) (w0 := w5) w5.heap.size 2 (by rfl) rfl (xs := []) (inner := []) (ok := fun k => w5.heap.size ≤ k) (okp := fun _ => False) (by first | (go_simp; done) | (go_simp; rfl)) (Reps.none _ _) (fun _ h => h.elim) (Nat.le_refl _) (Below.refl _ _) (Nat.le_refl _) (by simp) ?_
              intro v51 w51 ho hb hg hat
              have HA51 := Aside0.mk ho
              have HA51b := Aside0.mk hb
              clear ho hb hg hat
              have H51 := Aside0.mk (H5.out.below HA51b.out)
              have HQ51 := Aside0.mk (Kd.R_below HQ5.out HA51b.out)
              have HX51 := Aside0.mk (below_step HQ5b.out HA51b.out)
              refine hK.out _ _ ((blk_cell H51.out.be 0).trans rfl) (fun hHeld => ?_)
              clear hK K
              refine norm_ (a' := ?_) ?_ ?_
              rotate_left
              · show Act.put _ (some 43) _ = _
                simp only [Act.put, List.setIfInBounds_toArray, List.set_cons_zero, List.set_cons_succ, i64_w, i32_w]
                rfl
              refine one_ (i := 3) (N := some 45) #[true, true, true, true, true, true, false, true, true, false] rfl rfl (by kernel_rfl) (by decide) (fun K hK => ?_)
              refine Kd.R_append_rows_step (Kd.int .i64) (w0 := w20) w20.heap.size (by rfl) (.tmp 43) (.tmp 44) 30 2 (.int .i64 0) 8 rfl Try.underlying30 info2 rfl (by decide) (by omega) v51 [] set _ _ _ (fun k => w20.heap.size ≤ k) (fun _ => False) rfl rfl (Kd.R_lower (Kd.R_mono HA51.out (fun k hk => Nat.le_trans HQ5b.out.size hk)) HQ5b.out.size) (Kd.C_below HL20.out HX51.out) (fun _ _ h => h) (fun _ h => h.elim) (fun _ h => Nat.le_trans HX51.out.size h) HX51.out HX51.out.size (by have := HLL.out; simp; omega) ?_
              intro v513 w513 ho hb hg hat
              rw [List.nil_append] at ho
              have HY513 := Aside0.mk ho
              have HX513 := Aside0.mk hb
              have H513 := Aside0.mk (H20.out.below hb)
              have HQ513 := Aside0.mk (Kd.R_grown (Kd.R_tight rfl HQ51.out) hg (fun k hk e => by have := Kd.R_lt HQ5.out k hk.symm; have := Kd.R_base HA51.out k e.symm; omega))
              clear ho hb hg hat
              refine hK.out _ _ ((blk_cell H513.out.be 0).trans rfl) (fun hHeld => ?_)
              clear hK K
              refine norm_ (a' := ?_) ?_ ?_
              rotate_left
              · show Act.put _ (some 45) _ = _
                simp only [Act.put, List.setIfInBounds_toArray, List.set_cons_zero, List.set_cons_succ, i64_w, i32_w]
                rfl
              exact norm_ (by simp only [putAll, Act.put, List.setIfInBounds_toArray, List.set_cons_zero, List.set_cons_succ]) (hCont (v51, v513, v5) _ ⟨Kd.R_mono HY513.out (fun _ _ => trivial), Kd.R_mono HQ513.out (fun _ _ => trivial), HX513.out⟩)
          rintro ⟨ve_, vy_, vq_⟩ wj ⟨hy_, hq_, hx_⟩
          dsimp only at hy_ hq_
          have HY := Aside0.mk hy_
          have HQ := Aside0.mk hq_
          have HX := Aside0.mk hx_
          have HJ := Aside0.mk (H20.out.below hx_)
          clear hy_ hq_ hx_
          obtain ⟨AQ, cQ, eQ⟩ := Kd.R_slice HQ.out
          subst eQ
          have hHeld : wj.cell? ⟨ge, 0, none⟩ = some (.func (.func 75) #[] #[.pointer (some ⟨gl, 0, none⟩), .pointer (some ⟨gw, 0, none⟩), .pointer (some ⟨gm, 0, none⟩), .pointer (some ⟨gs, 0, none⟩), .pointer (some ⟨gb, 0, none⟩), .pointer (some ⟨ge, 0, none⟩)]) := (blk_cell HJ.out.be 0).trans rfl
          refine norm_ (a' := ?_) ?_ ?_
          rotate_left
          · simp only [putAll, Act.put, List.setIfInBounds_toArray, List.set_cons_zero, List.set_cons_succ]
            rfl
          refine one_ (i := 6) (N := some 48) #[true, true, true, true, true, true, true, true, true, false] rfl rfl (by kernel_rfl) (by decide) (fun K hK => ?_)
          refine Kd.R_append_rows_step (Kd.int .i64) (w0 := w20) w20.heap.size (by rfl) (.tmp 45) (.tmp 47) 30 2 (.int .i64 0) 8 rfl Try.underlying30 info2 rfl (by decide) (by omega) vy_ set [((j : Nat) : Int)] _ _ _ (fun _ => True) (fun _ => False) rfl rfl HY.out (Kd.R_reads' HQ.out).2.2 (fun _ _ h => h) (fun _ h => h.elim) (fun _ _ => trivial) HX.out HX.out.size (by have := HLL.out; simp; omega) ?_
          intro v9 w9 ho hb hg hat
          have HZ := Aside0.mk ho
          have HXZ := Aside0.mk hb
          have H9 := Aside0.mk (H20.out.below hb)
          clear ho hb hg hat
          obtain ⟨AZ, cZ, eZ⟩ := Kd.R_slice HZ.out
          have hLZ : (set ++ [((j : Nat) : Int)]).length = set.length + 1 := by simp
          rw [hLZ] at eZ
          subst eZ
          have HLZ := Aside0.mk hLZ
          clear hLZ
          refine hK.out _ _ ((blk_cell H9.out.be 0).trans rfl) (fun hHeld => ?_)
          clear hK K
          refine norm_ (a' := ?_) ?_ ?_
          rotate_left
          · show Act.put _ (some 48) _ = _
            simp only [Act.put, List.setIfInBounds_toArray, List.set_cons_zero, List.set_cons_succ, i64_w, i32_w]
            rfl
          refine one_ (i := 9) (N := some 51) #[true, true, true, true, true, true, true, true, true, true] rfl rfl (by kernel_rfl) (by decide) (fun K hK => ?_)
          refine call_ 75 #[.slice AZ (set.length + 1) cZ, .int .i64 ((j + 1 : Nat) : Int), .pointer (some ⟨gl, 0, none⟩), .pointer (some ⟨gw, 0, none⟩), .pointer (some ⟨gm, 0, none⟩), .pointer (some ⟨gs, 0, none⟩), .pointer (some ⟨gb, 0, none⟩), .pointer (some ⟨ge, 0, none⟩)] (by rfl) rfl (by go_simp; first | rfl | (simp; done) | skip) ?_
          have ih_ := IH.out (j + 1) AZ cZ (set ++ [((j : Nat) : Int)]) _ w9 (by have := HJN.out; have := HMI.out; omega) (by have := HJM.out; omega) (SetIn.snoc HSI.out HJN.out.1) H9.out (by rw [HLZ.out]; exact wk_fresh H20.out HZ.out)
          rw [HLZ.out] at ih_
          refine ih_.mono ?_
          clear ih_
          rintro e w25 ⟨rfl, H25_, hk25⟩
          refine ⟨_, rfl, ?_⟩
          have H25 := Aside0.mk H25_
          have HK25 := Aside0.mk hk25
          clear H25_ hk25
          refine hK.out _ _ ((blk_cell H25.out.be 0).trans rfl) (fun hHeld => ?_)
          clear hK K
          refine norm_ (a' := ?_) ?_ ?_
          rotate_left
          · show Act.put _ (some 51) _ = _
            simp only [Act.put, List.setIfInBounds_toArray, List.set_cons_zero, List.set_cons_succ, i64_w, i32_w]
            rfl
          refine done_ (by kernel_rfl) ?_
          go_wp2
          go_roundw
          case rel =>
            refine ⟨j + 1, by first | rfl | (simp; omega) | (congr 1; omega), ⟨by have := HJN.out; have := HJM.out; omega⟩, ⟨?_⟩, ⟨?_⟩, ⟨?_⟩⟩
            · rw [wk_next _ _ HJN.out.1]
              exact H25.out
            · exact Kd.R_kept (Kd.R_below HR20.out HXZ.out) HK25.out (fun k h1 h2 => by omega)
            · exact Kept.then_ (Kept.below HK20.out HXZ.out) HK25.out (fun k hk => .inl hk)
          case measure => exact wk_meas e5 (by have := HJM.out; have := HLL.out; omega)
        · have hcb : decide ((j : Int) < (lst.length : Int)) = false := decide_eq_false (by omega)
          have hcc : decide (j < lst.length) = false := decide_eq_false hc9
          have hq : j = lst.length := by omega
          clear hjn hll hc9
          go_wp2
          first | go_end0 | (simp only [Exit.inBlock, Exit.then]; refine bodyPost_ret (results_none rfl _ _ _) rfl ?_) | refine bodyPost_ret (results_none rfl _ _ _) rfl ?_
          have h := HFr.out
          rw [hq] at h
          rw [HW.out]
          exact ⟨by first | rfl | (simp; done), h, HKr.out⟩
    · skip
      rw [hb] at HE1
      have HW := Aside0.mk hw
      clear hw hb
      go_enter Try.func75, Try.ntmps75
      go_wp2_with (first
        | (go_at_call 69; refine (impl_standsWind.calls k1 A cp lst Al cl set wd mt true _ (Kd.C_below HRL.out HF.out.bel) hcL HLC.out.2.2 HLC.out.2.1 HE1.out).mono ?_; rintro e w1 ⟨rfl, hb1⟩; have HB1 := Aside0.mk hb1; have HF1 := Aside0.mk (HF.out.below hb1); clear hb1 cl0 cw0 cm0; have cl1 : w1.cell? ⟨gl, 0, none⟩ = some (.slice A lst.length cp) := (blk_cell HF1.out.bl 0).trans rfl; have cw1 : w1.cell? ⟨gw, 0, none⟩ = some (.int .i64 wd) := (blk_cell HF1.out.bw 0).trans rfl)
        | (go_at_call 68; refine (impl_setSums.calls k2 A cp lst Al cl set wd fs r2 r3 _ (Kd.C_below HRL.out HF1.out.bel) hcL (Kd.C_below HLC.out.2.2 HB1.out) HLC.out.2.1 HE2.out).mono ?_; rintro e w2 ⟨rfl, hb2⟩; have HB2 := Aside0.mk (below_step HB1.out hb2); have HF2 := Aside0.mk (HF1.out.below hb2); clear hb2 cl1 cw1; have cs2 : w2.cell? ⟨gs, 0, none⟩ = some (.int .i64 sl) := (blk_cell (by have := HF2.out.bs; rw [HSL.out] at this; exact this) 0).trans rfl)
        | ((with_reducible refine gate_dst (N := 31) rfl ?_); refine Kd.R_lit (Kd.int .i64) _ 2 ?hg (N := 31) ?hd (xs := ([] : List Int)) (inner := []) (ok := fun k => w.heap.size ≤ k) (okp := fun k => w.heap.size ≤ k) ?hr ?hp (fun _ hk => hk) (below_size HB2.out) (Below.refl _ _) (Nat.le_refl _) (by simp) ?_; (case hd => rfl); (case hg => rfl); (case hr => first | (go_simp; done) | (go_simp; rfl)); (case hp => exact (Reps.none _ _)); intro v4 w4 ho4 hb4 hg_ hnew_; clear hg_ hnew_; have HO4 := Aside0.mk (Kd.R_lower ho4 (below_size HB2.out)); have HB4 := Aside0.mk (below_step HB2.out hb4); clear ho4 hb4 cs2)
        | ((with_reducible refine gate_builtin (b := .append) (xs := #[.tmp 31, .tmp 32]) rfl ?_); at_builtin; refine Kd.R_append_rows (Kd.int .i64) (w0 := w) w.heap.size rfl (.tmp 31) (.tmp 32) 30 2 (.int .i64 0) 8 rfl Try.underlying30 info2 rfl (by decide) (by omega) v4 [] set _ _ _ (fun k => w.heap.size ≤ k) (fun _ => False) rfl rfl HO4.out ?aR (fun _ _ h => h) (fun _ h => h.elim) ?aF HB4.out (below_size HB4.out) ?aL ?_; (case aR => exact (Kd.C_below HLC.out.2.2 HB4.out)); (case aF => exact (fun k hk => Nat.le_trans (below_size HB4.out) hk)); (case aL => have := HLL.out; simp; omega); intro v5 w5 ho hb hg hat; clear hg hat; rw [List.nil_append] at ho; obtain ⟨A5, c5, ev5⟩ := Kd.R_slice ho; subst ev5; have HO5 := Aside0.mk (wk_fresh HF.out (Kd.R_mono ho (fun _ _ => trivial))); have HF5 := Aside0.mk (HF.out.below hb); have HB5 := Aside0.mk hb; have cy1 := (blk_cell HF5.out.rest.choose_spec.1 0).trans rfl; have fy1 := blk_frozen HF5.out.rest.choose_spec.1 0; clear ho hb)
        | ((with_reducible refine gate_store (t := 30) (p := 6) rfl ?_); refine store_event (t := 30) (p := 6) (v := ?vo_w6) (w1 := (w5.setCell ⟨gb, 0, none⟩ (.slice A5 set.length c5))) ?hg ?ho ?hn ?hr ?_; (case ho => rfl); (case hg => rfl); (case hn => rfl); (case hr => first | (go_simp; done) | (go_simp; rfl)); intro w6 hw6; have HE6 := Aside0.mk hw6; have b2_ : w6.heap[gs]? = some (.cells #[.int .i64 s.2] 2 (0, 0)) := (by rw [hw6]; exact (Below.heap_setCell w5 ⟨gb, 0, none⟩ (.slice A5 set.length c5) gs (fun e => by have := HF.out.lo; simp at e; omega)).trans HF5.out.bs); have cy2 := (blk_cell b2_ 0).trans rfl; have fy2 := blk_frozen b2_ 0; clear hw6 cy1 fy1 b2_)
        | ((with_reducible refine gate_store (t := 2) (p := 5) rfl ?_); refine store_event (t := 2) (p := 5) (v := ?vo_w7) (w1 := (w6.setCell ⟨gs, 0, none⟩ (.int .i64 fs))) ?hg ?ho ?hn ?hr ?_; (case ho => rfl); (case hg => rfl); (case hn => rfl); (case hr => first | (go_simp; done) | (go_simp; rfl)); intro w7 hw7; have HE7 := Aside0.mk hw7; clear hw7 cy2 fy2))
      have HFS := HF2
      have HKS := Aside0.mk (Kept.of_below HB2.out (fun k => k = gs ∨ k = gb))
      clear cs2
      go_loopw [13] (fun v13 wr => ∃ (j : Nat), v13 = .int .i64 (j : Int) ∧ Aside0 (i ≤ j ∧ j ≤ lst.length) ∧ Aside0 (WkW w0 gl gw gm gb gs ge A lst.length cp wd mt ((List.range' i (j - i)).foldl (fun s (j : Nat) => wk st fo lst.length m s (set ++ [(j : Int)]) (j + 1)) s) wr) ∧ Aside0 (Kd.R (Kd.int .i64) 2 wr w0.heap.size (fun k => k ≠ gs ∧ k ≠ gb) (.slice Al set.length cl) set) ∧ Aside0 (Kept w wr (fun k => k = gs ∨ k = gb))) (fun v13 _ => (2000 - intOf v13).toNat)
      case atStart => exact ⟨i, rfl, ⟨by have := HLL.out; omega⟩, ⟨by rw [show i - i = 0 from by omega]; exact HFS.out⟩, ⟨Kd.R_kept HL.out HKS.out (fun k h1 h2 => by omega)⟩, HKS⟩
      case round =>
        obtain ⟨j, rfl, HJN, HFr, HLr, HKr⟩ := hrel
        have cl9 : wr.cell? ⟨gl, 0, none⟩ = some (.slice A lst.length cp) := (blk_cell HFr.out.bl 0).trans rfl
        have hjn := HJN.out
        have hll := HLL.out
        by_cases hc9 : j < lst.length
        · have hcb : decide ((j : Int) < (lst.length : Int)) = true := decide_eq_true (by omega)
          have hcc : decide (j < lst.length) = true := decide_eq_true hc9
          have HJM := Aside0.mk hc9
          have e5 : wrap64 ((j : Int) + 1) = ((j + 1 : Nat) : Int) := by unfold wrap64; omega
          clear hjn hll hc9
          go_wp2
          refine start_ (n := 10) (S := fun w' => w'.cell? ⟨ge, 0, none⟩ = some (.func (.func 75) #[] #[.pointer (some ⟨gl, 0, none⟩), .pointer (some ⟨gw, 0, none⟩), .pointer (some ⟨gm, 0, none⟩), .pointer (some ⟨gs, 0, none⟩), .pointer (some ⟨gb, 0, none⟩), .pointer (some ⟨ge, 0, none⟩)])) (ds := []) #[false, false, false, false, false, false, false, false, false, false] (by kernel_rfl) rfl rfl ((blk_cell HFr.out.be 0).trans rfl) (fun hHeld => ?_)
          have H20 := Aside0.mk (HFr.out.below (below_drew1 (Below.refl _ _)))
          have HL20 := Aside0.mk (Kd.C_below (Kd.R_reads' HLr.out).2.2 (below_drew1 (Below.refl _ _)))
          have HR20 := Aside0.mk (Kd.R_below HLr.out (below_drew1 (Below.refl _ _)))
          have HK20 := Aside0.mk (Kept.below HKr.out (below_drew1 (Below.refl _ _)))
          generalize wr.drew = w20 at H20 HL20 HR20 HK20 hHeld ⊢
          clear cl9
          refine pure_ (i := 2) (N := some 44) (v := ?_) (a' := ?_) #[false, false, true, false, false, false, false, false, false, false] rfl rfl (by kernel_rfl) (fun _ _ _ h => h) (Or.inl ⟨by rfl, ?_⟩) ?_ ?_
          rotate_left
          · intro w'
            go_simp
            with_reducible rfl
          rotate_left
          · simp only [Act.put, List.setIfInBounds_toArray, List.set_cons_zero, List.set_cons_succ, i64_w, i32_w]
            rfl
          refine pure_ (i := 4) (N := some 46) (v := ?_) (a' := ?_) #[false, false, true, false, true, false, false, false, false, false] rfl rfl (by kernel_rfl) (fun _ _ _ h => h) (Or.inl ⟨by rfl, ?_⟩) ?_ ?_
          rotate_left
          · intro w'
            go_simp
            with_reducible rfl
          rotate_left
          · simp only [Act.put, List.setIfInBounds_toArray, List.set_cons_zero, List.set_cons_succ, i64_w, i32_w]
            rfl
          refine pure_ (i := 7) (N := some 49) (v := ?_) (a' := ?_) #[false, false, true, false, true, false, false, true, false, false] rfl rfl (by kernel_rfl) (fun _ _ _ h => h) (Or.inl ⟨by rfl, ?_⟩) ?_ ?_
          rotate_left
          · intro w'
            go_simp
            with_reducible rfl
          rotate_left
          · simp only [Act.put, List.setIfInBounds_toArray, List.set_cons_zero, List.set_cons_succ, i64_w, i32_w]
            rfl
          refine pure_ (i := 8) (N := some 50) (v := ?_) (a' := ?_) #[false, false, true, false, true, false, false, true, true, false] rfl rfl (by kernel_rfl) (fun _ _ _ h => h) (Or.inl ⟨by rfl, ?_⟩) ?_ ?_
          rotate_left
          · intro w'
            go_simp
            with_reducible rfl
          rotate_left
          · simp only [Act.put, List.setIfInBounds_toArray, List.set_cons_zero, List.set_cons_succ, i64_w, i32_w]
            rfl
          refine take_ (i := 0) (N := some 42) (v := ?_) (a' := ?_) #[true, false, true, false, true, false, false, true, true, false] rfl rfl (by kernel_rfl) (fun _ _ _ h => h) (Or.inl ⟨by rfl, ?_⟩) hHeld ?_ ?_
          rotate_left
          · intro w' s0
            go_simp
            with_reducible rfl
          rotate_left
          · simp only [Act.put, List.setIfInBounds_toArray, List.set_cons_zero, List.set_cons_succ, i64_w, i32_w]
            rfl
          refine join_ (σ := Value × Value × Value) 2 #[true, true, true, true, true, true, false, true, true, false] (fun s => [(43, s.1), (45, s.2.1), (47, s.2.2)]) (fun s w' => Kd.R (Kd.int .i64) 2 w' w20.heap.size (fun _ => True) s.2.1 set ∧ Kd.R (Kd.int .i64) 2 w' w20.heap.size (fun _ => True) s.2.2 [((j : Nat) : Int)] ∧ Below w20.heap.size w20 w') ?_ ?_
          rotate_left
          · intro hCont
            refine two_ (i := 1) (j := 5) (Ni := some 43) (Nj := some 47) #[true, true, true, false, true, false, false, true, true, false] #[true, false, true, false, true, true, false, true, true, false] rfl rfl rfl rfl (by kernel_rfl) (by decide) (by decide) (fun K hK => ?_) (fun K hK => ?_)
            · skip
              refine Kd.R_lit_step (Kd.int .i64) (w0 := w20) w20.heap.size 2 (by rfl) rfl (xs := []) (inner := []) (ok := fun k => w20.heap.size ≤ k) (okp := fun _ => False) (by first | (go_simp; done) | (go_simp; rfl)) (Reps.none _ _) (fun _ h => h.elim) (Nat.le_refl _) (Below.refl _ _) (Nat.le_refl _) (by simp) ?_
              intro v1 w1 ho hb hg hat
              have HA1 := Aside0.mk ho
              have HA1b := Aside0.mk hb
              clear ho hb hg hat
              have H1 := Aside0.mk (H20.out.below HA1b.out)
              have HX1 := Aside0.mk HA1b.out
              refine hK.out _ _ ((blk_cell H1.out.be 0).trans rfl) (fun hHeld => ?_)
              clear hK K
              refine norm_ (a' := ?_) ?_ ?_
              rotate_left
              · show Act.put _ (some 43) _ = _
                simp only [Act.put, List.setIfInBounds_toArray, List.set_cons_zero, List.set_cons_succ, i64_w, i32_w]
                rfl
              refine two_ (i := 3) (j := 5) (Ni := some 45) (Nj := some 47) #[true, true, true, true, true, false, false, true, true, false] #[true, true, true, false, true, true, false, true, true, false] rfl rfl rfl rfl (by kernel_rfl) (by decide) (by decide) (fun K hK => ?_) (fun K hK => ?_)
              · skip
                refine Kd.R_append_rows_step (Kd.int .i64) (w0 := w20) w20.heap.size (by rfl) (.tmp 43) (.tmp 44) 30 2 (.int .i64 0) 8 rfl Try.underlying30 info2 rfl (by decide) (by omega) v1 [] set _ _ _ (fun k => w20.heap.size ≤ k) (fun _ => False) rfl rfl (HA1.out) (Kd.C_below HL20.out HX1.out) (fun _ _ h => h) (fun _ h => h.elim) (fun _ h => Nat.le_trans HX1.out.size h) HX1.out HX1.out.size (by have := HLL.out; simp; omega) ?_
                intro v13 w13 ho hb hg hat
                rw [List.nil_append] at ho
                have HY13 := Aside0.mk ho
                have HX13 := Aside0.mk hb
                have H13 := Aside0.mk (H20.out.below hb)
                clear ho hb hg hat
                refine hK.out _ _ ((blk_cell H13.out.be 0).trans rfl) (fun hHeld => ?_)
                clear hK K
                refine norm_ (a' := ?_) ?_ ?_
                rotate_left
                · show Act.put _ (some 45) _ = _
                  simp only [Act.put, List.setIfInBounds_toArray, List.set_cons_zero, List.set_cons_succ, i64_w, i32_w]
                  rfl
                refine one_ (i := 5) (N := some 47) #[true, true, true, true, true, true, false, true, true, false] rfl rfl (by kernel_rfl) (by decide) (fun K hK => ?_)
                refine Kd.R_lit_step (Kd.int .i64) (w0 := w13) w13.heap.size 2 (by rfl) rfl (xs := [(((j : Nat) : Int))]) (inner := [.int .i64 ((j : Nat) : Int)]) (ok := fun k => w13.heap.size ≤ k) (okp := fun _ => False) (by first | (go_simp; done) | (go_simp; rfl)) (R_reps1 rfl) (fun _ h => h.elim) (Nat.le_refl _) (Below.refl _ _) (Nat.le_refl _) (by simp) ?_
                intro v135 w135 ho hb hg hat
                have HQ135 := Aside0.mk ho
                have HQ135b := Aside0.mk hb
                clear ho hb hg hat
                have H135 := Aside0.mk (H13.out.below HQ135b.out)
                have HX135 := Aside0.mk (below_step HX13.out HQ135b.out)
                refine hK.out _ _ ((blk_cell H135.out.be 0).trans rfl) (fun hHeld => ?_)
                clear hK K
                refine norm_ (a' := ?_) ?_ ?_
                rotate_left
                · show Act.put _ (some 47) _ = _
                  simp only [Act.put, List.setIfInBounds_toArray, List.set_cons_zero, List.set_cons_succ, i64_w, i32_w]
                  rfl
                exact norm_ (by simp only [putAll, Act.put, List.setIfInBounds_toArray, List.set_cons_zero, List.set_cons_succ]) (hCont (v1, v13, v135) _ ⟨Kd.R_mono (Kd.R_below HY13.out HQ135b.out) (fun _ _ => trivial), Kd.R_mono (Kd.R_lower HQ135.out HX13.out.size) (fun _ _ => trivial), HX135.out⟩)
              · skip
                refine Kd.R_lit_step (Kd.int .i64) (w0 := w1) w1.heap.size 2 (by rfl) rfl (xs := [(((j : Nat) : Int))]) (inner := [.int .i64 ((j : Nat) : Int)]) (ok := fun k => w1.heap.size ≤ k) (okp := fun _ => False) (by first | (go_simp; done) | (go_simp; rfl)) (R_reps1 rfl) (fun _ h => h.elim) (Nat.le_refl _) (Below.refl _ _) (Nat.le_refl _) (by simp) ?_
                intro v15 w15 ho hb hg hat
                have HQ15 := Aside0.mk ho
                have HQ15b := Aside0.mk hb
                clear ho hb hg hat
                have H15 := Aside0.mk (H1.out.below HQ15b.out)
                have HX15 := Aside0.mk (below_step HX1.out HQ15b.out)
                refine hK.out _ _ ((blk_cell H15.out.be 0).trans rfl) (fun hHeld => ?_)
                clear hK K
                refine norm_ (a' := ?_) ?_ ?_
                rotate_left
                · show Act.put _ (some 47) _ = _
                  simp only [Act.put, List.setIfInBounds_toArray, List.set_cons_zero, List.set_cons_succ, i64_w, i32_w]
                  rfl
                refine one_ (i := 3) (N := some 45) #[true, true, true, true, true, true, false, true, true, false] rfl rfl (by kernel_rfl) (by decide) (fun K hK => ?_)
                refine Kd.R_append_rows_step (Kd.int .i64) (w0 := w20) w20.heap.size (by rfl) (.tmp 43) (.tmp 44) 30 2 (.int .i64 0) 8 rfl Try.underlying30 info2 rfl (by decide) (by omega) v1 [] set _ _ _ (fun k => w20.heap.size ≤ k) (fun _ => False) rfl rfl ((Kd.R_below HA1.out HQ15b.out)) (Kd.C_below HL20.out HX15.out) (fun _ _ h => h) (fun _ h => h.elim) (fun _ h => Nat.le_trans HX15.out.size h) HX15.out HX15.out.size (by have := HLL.out; simp; omega) ?_
                intro v153 w153 ho hb hg hat
                rw [List.nil_append] at ho
                have HY153 := Aside0.mk ho
                have HX153 := Aside0.mk hb
                have H153 := Aside0.mk (H20.out.below hb)
                have HQ153 := Aside0.mk (Kd.R_grown HQ15.out hg (fun k hk e => by have := Kd.R_lt HA1.out k e.symm; omega))
                clear ho hb hg hat
                refine hK.out _ _ ((blk_cell H153.out.be 0).trans rfl) (fun hHeld => ?_)
                clear hK K
                refine norm_ (a' := ?_) ?_ ?_
                rotate_left
                · show Act.put _ (some 45) _ = _
                  simp only [Act.put, List.setIfInBounds_toArray, List.set_cons_zero, List.set_cons_succ, i64_w, i32_w]
                  rfl
                exact norm_ (by simp only [putAll, Act.put, List.setIfInBounds_toArray, List.set_cons_zero, List.set_cons_succ]) (hCont (v1, v153, v15) _ ⟨Kd.R_mono HY153.out (fun _ _ => trivial), Kd.R_mono (Kd.R_lower HQ153.out HX1.out.size) (fun _ _ => trivial), HX153.out⟩)
            · skip
              refine Kd.R_lit_step (Kd.int .i64) (w0 := w20) w20.heap.size 2 (by rfl) rfl (xs := [(((j : Nat) : Int))]) (inner := [.int .i64 ((j : Nat) : Int)]) (ok := fun k => w20.heap.size ≤ k) (okp := fun _ => False) (by first | (go_simp; done) | (go_simp; rfl)) (R_reps1 rfl) (fun _ h => h.elim) (Nat.le_refl _) (Below.refl _ _) (Nat.le_refl _) (by simp) ?_
              intro v5 w5 ho hb hg hat
              have HQ5 := Aside0.mk ho
              have HQ5b := Aside0.mk hb
              clear ho hb hg hat
              have H5 := Aside0.mk (H20.out.below HQ5b.out)
              refine hK.out _ _ ((blk_cell H5.out.be 0).trans rfl) (fun hHeld => ?_)
              clear hK K
              refine norm_ (a' := ?_) ?_ ?_
              rotate_left
              · show Act.put _ (some 47) _ = _
                simp only [Act.put, List.setIfInBounds_toArray, List.set_cons_zero, List.set_cons_succ, i64_w, i32_w]
                rfl
              refine one_ (i := 1) (N := some 43) #[true, true, true, false, true, true, false, true, true, false] rfl rfl (by kernel_rfl) (by decide) (fun K hK => ?_)
              refine Kd.R_lit_step (Kd.int .i64) (w0 := w5) w5.heap.size 2 (by rfl) rfl (xs := []) (inner := []) (ok := fun k => w5.heap.size ≤ k) (okp := fun _ => False) (by first | (go_simp; done) | (go_simp; rfl)) (Reps.none _ _) (fun _ h => h.elim) (Nat.le_refl _) (Below.refl _ _) (Nat.le_refl _) (by simp) ?_
              intro v51 w51 ho hb hg hat
              have HA51 := Aside0.mk ho
              have HA51b := Aside0.mk hb
              clear ho hb hg hat
              have H51 := Aside0.mk (H5.out.below HA51b.out)
              have HQ51 := Aside0.mk (Kd.R_below HQ5.out HA51b.out)
              have HX51 := Aside0.mk (below_step HQ5b.out HA51b.out)
              refine hK.out _ _ ((blk_cell H51.out.be 0).trans rfl) (fun hHeld => ?_)
              clear hK K
              refine norm_ (a' := ?_) ?_ ?_
              rotate_left
              · show Act.put _ (some 43) _ = _
                simp only [Act.put, List.setIfInBounds_toArray, List.set_cons_zero, List.set_cons_succ, i64_w, i32_w]
                rfl
              refine one_ (i := 3) (N := some 45) #[true, true, true, true, true, true, false, true, true, false] rfl rfl (by kernel_rfl) (by decide) (fun K hK => ?_)
              refine Kd.R_append_rows_step (Kd.int .i64) (w0 := w20) w20.heap.size (by rfl) (.tmp 43) (.tmp 44) 30 2 (.int .i64 0) 8 rfl Try.underlying30 info2 rfl (by decide) (by omega) v51 [] set _ _ _ (fun k => w20.heap.size ≤ k) (fun _ => False) rfl rfl (Kd.R_lower (Kd.R_mono HA51.out (fun k hk => Nat.le_trans HQ5b.out.size hk)) HQ5b.out.size) (Kd.C_below HL20.out HX51.out) (fun _ _ h => h) (fun _ h => h.elim) (fun _ h => Nat.le_trans HX51.out.size h) HX51.out HX51.out.size (by have := HLL.out; simp; omega) ?_
              intro v513 w513 ho hb hg hat
              rw [List.nil_append] at ho
              have HY513 := Aside0.mk ho
              have HX513 := Aside0.mk hb
              have H513 := Aside0.mk (H20.out.below hb)
              have HQ513 := Aside0.mk (Kd.R_grown (Kd.R_tight rfl HQ51.out) hg (fun k hk e => by have := Kd.R_lt HQ5.out k hk.symm; have := Kd.R_base HA51.out k e.symm; omega))
              clear ho hb hg hat
              refine hK.out _ _ ((blk_cell H513.out.be 0).trans rfl) (fun hHeld => ?_)
              clear hK K
              refine norm_ (a' := ?_) ?_ ?_
              rotate_left
              · show Act.put _ (some 45) _ = _
                simp only [Act.put, List.setIfInBounds_toArray, List.set_cons_zero, List.set_cons_succ, i64_w, i32_w]
                rfl
              exact norm_ (by simp only [putAll, Act.put, List.setIfInBounds_toArray, List.set_cons_zero, List.set_cons_succ]) (hCont (v51, v513, v5) _ ⟨Kd.R_mono HY513.out (fun _ _ => trivial), Kd.R_mono HQ513.out (fun _ _ => trivial), HX513.out⟩)
          rintro ⟨ve_, vy_, vq_⟩ wj ⟨hy_, hq_, hx_⟩
          dsimp only at hy_ hq_
          have HY := Aside0.mk hy_
          have HQ := Aside0.mk hq_
          have HX := Aside0.mk hx_
          have HJ := Aside0.mk (H20.out.below hx_)
          clear hy_ hq_ hx_
          obtain ⟨AQ, cQ, eQ⟩ := Kd.R_slice HQ.out
          subst eQ
          have hHeld : wj.cell? ⟨ge, 0, none⟩ = some (.func (.func 75) #[] #[.pointer (some ⟨gl, 0, none⟩), .pointer (some ⟨gw, 0, none⟩), .pointer (some ⟨gm, 0, none⟩), .pointer (some ⟨gs, 0, none⟩), .pointer (some ⟨gb, 0, none⟩), .pointer (some ⟨ge, 0, none⟩)]) := (blk_cell HJ.out.be 0).trans rfl
          refine norm_ (a' := ?_) ?_ ?_
          rotate_left
          · simp only [putAll, Act.put, List.setIfInBounds_toArray, List.set_cons_zero, List.set_cons_succ]
            rfl
          refine one_ (i := 6) (N := some 48) #[true, true, true, true, true, true, true, true, true, false] rfl rfl (by kernel_rfl) (by decide) (fun K hK => ?_)
          refine Kd.R_append_rows_step (Kd.int .i64) (w0 := w20) w20.heap.size (by rfl) (.tmp 45) (.tmp 47) 30 2 (.int .i64 0) 8 rfl Try.underlying30 info2 rfl (by decide) (by omega) vy_ set [((j : Nat) : Int)] _ _ _ (fun _ => True) (fun _ => False) rfl rfl HY.out (Kd.R_reads' HQ.out).2.2 (fun _ _ h => h) (fun _ h => h.elim) (fun _ _ => trivial) HX.out HX.out.size (by have := HLL.out; simp; omega) ?_
          intro v9 w9 ho hb hg hat
          have HZ := Aside0.mk ho
          have HXZ := Aside0.mk hb
          have H9 := Aside0.mk (H20.out.below hb)
          clear ho hb hg hat
          obtain ⟨AZ, cZ, eZ⟩ := Kd.R_slice HZ.out
          have hLZ : (set ++ [((j : Nat) : Int)]).length = set.length + 1 := by simp
          rw [hLZ] at eZ
          subst eZ
          have HLZ := Aside0.mk hLZ
          clear hLZ
          refine hK.out _ _ ((blk_cell H9.out.be 0).trans rfl) (fun hHeld => ?_)
          clear hK K
          refine norm_ (a' := ?_) ?_ ?_
          rotate_left
          · show Act.put _ (some 48) _ = _
            simp only [Act.put, List.setIfInBounds_toArray, List.set_cons_zero, List.set_cons_succ, i64_w, i32_w]
            rfl
          refine one_ (i := 9) (N := some 51) #[true, true, true, true, true, true, true, true, true, true] rfl rfl (by kernel_rfl) (by decide) (fun K hK => ?_)
          refine call_ 75 #[.slice AZ (set.length + 1) cZ, .int .i64 ((j + 1 : Nat) : Int), .pointer (some ⟨gl, 0, none⟩), .pointer (some ⟨gw, 0, none⟩), .pointer (some ⟨gm, 0, none⟩), .pointer (some ⟨gs, 0, none⟩), .pointer (some ⟨gb, 0, none⟩), .pointer (some ⟨ge, 0, none⟩)] (by rfl) rfl (by go_simp; first | rfl | (simp; done) | skip) ?_
          have ih_ := IH.out (j + 1) AZ cZ (set ++ [((j : Nat) : Int)]) _ w9 (by have := HJN.out; have := HMI.out; omega) (by have := HJM.out; omega) (SetIn.snoc HSI.out HJN.out.1) H9.out (by rw [HLZ.out]; exact wk_fresh H20.out HZ.out)
          rw [HLZ.out] at ih_
          refine ih_.mono ?_
          clear ih_
          rintro e w25 ⟨rfl, H25_, hk25⟩
          refine ⟨_, rfl, ?_⟩
          have H25 := Aside0.mk H25_
          have HK25 := Aside0.mk hk25
          clear H25_ hk25
          refine hK.out _ _ ((blk_cell H25.out.be 0).trans rfl) (fun hHeld => ?_)
          clear hK K
          refine norm_ (a' := ?_) ?_ ?_
          rotate_left
          · show Act.put _ (some 51) _ = _
            simp only [Act.put, List.setIfInBounds_toArray, List.set_cons_zero, List.set_cons_succ, i64_w, i32_w]
            rfl
          refine done_ (by kernel_rfl) ?_
          go_wp2
          go_roundw
          case rel =>
            refine ⟨j + 1, by first | rfl | (simp; omega) | (congr 1; omega), ⟨by have := HJN.out; have := HJM.out; omega⟩, ⟨?_⟩, ⟨?_⟩, ⟨?_⟩⟩
            · rw [wk_next _ _ HJN.out.1]
              exact H25.out
            · exact Kd.R_kept (Kd.R_below HR20.out HXZ.out) HK25.out (fun k h1 h2 => by omega)
            · exact Kept.then_ (Kept.below HK20.out HXZ.out) HK25.out (fun k hk => .inl hk)
          case measure => exact wk_meas e5 (by have := HJM.out; have := HLL.out; omega)
        · have hcb : decide ((j : Int) < (lst.length : Int)) = false := decide_eq_false (by omega)
          have hcc : decide (j < lst.length) = false := decide_eq_false hc9
          have hq : j = lst.length := by omega
          clear hjn hll hc9
          go_wp2
          first | go_end0 | (simp only [Exit.inBlock, Exit.then]; refine bodyPost_ret (results_none rfl _ _ _) rfl ?_) | refine bodyPost_ret (results_none rfl _ _ _) rfl ?_
          have h := HFr.out
          rw [hq] at h
          rw [HW.out]
          exact ⟨by first | rfl | (simp; done), h, HKr.out⟩
/-! by hand: impl.BestSet -/
noncomputable def stI (l : List S27) (wd mt : Int) (set : List Int) : Bool := theOf false (fun k => impl_standsWind.f k l set wd mt)
noncomputable def foI (l : List S27) (wd : Int) (set : List Int) : Int := (theOf (0, 0, false) (fun k => impl_setSums.f k l set wd)).1
def BsOk (l : List S27) (wd mt : Int) : Prop := l.length ≤ 1024 ∧ ∀ set i, SetIn set i → i ≤ l.length → (∃ b, ∃ k, impl_standsWind.f k l set wd mt = some b) ∧ ∃ r, ∃ k, impl_setSums.f k l set wd = some r
noncomputable def bestI (l : List S27) (wd mt : Int) : List Int × Int := wk (stI l wd mt) (foI l wd) l.length (l.length + 1) ([], 0) [] 0
theorem BsOk.st {l : List S27} {wd mt : Int} (h : BsOk l wd mt) (set : List Int) (i : Nat) (h1 : SetIn set i) (h2 : i ≤ l.length) : (∃ k, impl_standsWind.f k l set wd mt = some (stI l wd mt set)) ∧ ∃ k r2 r3, impl_setSums.f k l set wd = some (foI l wd set, r2, r3) := by
  obtain ⟨⟨b, k1, e1⟩, ⟨r, k2, e2⟩⟩ := h.2 set i h1 h2
  refine ⟨⟨k1, ?_⟩, k2, r.2.1, r.2.2, ?_⟩
  · rw [e1]; unfold stI; rw [theOf_eq (fun k => impl_standsWind.mono _ _ _ _ k) ⟨k1, e1⟩]
  · rw [e2]; unfold foI; rw [theOf_eq (fun k => impl_setSums.mono _ _ _ k) ⟨k2, e2⟩]
open Classical in
noncomputable def impl_BestSet.f (k : Nat) (l0 : List S27) (a1 a2 : Int) : Option (List Int × Int × Int) :=
  (impl_setCode.f k l0 [] a1 a2).bind fun c => if c = 0 then (if BsOk l0 a1 a2 then some ((bestI l0 a1 a2).1, (bestI l0 a1 a2).2, 0) else none) else some ([], 0, c)
theorem impl_BestSet.mono : ∀ a0 a1 a2 k, LeO (impl_BestSet.f k a0 a1 a2) (impl_BestSet.f (k + 1) a0 a1 a2) := by
  intro a0 a1 a2 k r h
  unfold impl_BestSet.f at h ⊢
  obtain ⟨v, h1, h2⟩ := Option.bind_eq_some_iff.mp h
  exact Option.bind_eq_some_iff.mpr ⟨v, impl_setCode.mono _ _ _ _ _ _ h1, h2⟩
theorem impl_BestSet.cases {k : Nat} {l0 : List S27} {a1 a2 : Int} {r1 : List Int} {r2 r3 : Int} (h : impl_BestSet.f k l0 a1 a2 = some (r1, r2, r3)) : ∃ c, impl_setCode.f k l0 [] a1 a2 = some c ∧ ((c ≠ 0 ∧ r1 = [] ∧ r2 = 0 ∧ r3 = c) ∨ (c = 0 ∧ BsOk l0 a1 a2 ∧ bestI l0 a1 a2 = (r1, r2) ∧ r3 = 0)) := by
  unfold impl_BestSet.f at h
  obtain ⟨c, hc, H⟩ := Option.bind_eq_some_iff.mp h
  refine ⟨c, hc, ?_⟩
  by_cases h0 : c = 0
  · rw [if_pos h0] at H
    by_cases ho : BsOk l0 a1 a2
    · rw [if_pos ho] at H; simp at H; exact .inr ⟨h0, ho, by rw [← H.1, ← H.2.1], H.2.2.symm⟩
    · rw [if_neg ho] at H; simp at H
  · rw [if_neg h0] at H; simp at H; exact .inl ⟨h0, by rw [← H.1], H.2.1.symm, H.2.2.symm⟩
set_option maxHeartbeats 8000000 in
set_option maxRecDepth 100000 in
theorem impl_BestSet.calls (k : Nat) (A0 : Option Addr) (c0 : Nat) (l0 : List S27) (a1 a2 : Int) (r1 : List Int) (r2 r3 : Int) (w : World) (hr0 : Kd.C k27 w A0 l0.length l0) (hc0 : l0.length ≤ c0) (h : impl_BestSet.f k l0 a1 a2 = some (r1, r2, r3)) :
    Calls Try.prog 39 #[.slice A0 l0.length c0, .int .i64 a1, .int .i64 a2] w fun e w' => ∃ v0_ : Value, e = .returned (.tuple #[v0_, .int .i64 r2, .int .i64 r3]) ∧ Kd.R (Kd.int .i64) 2 w' w.heap.size (fun _ => True) v0_ r1 ∧ Below w.heap.size w w' := by
  have HR0 := Aside0.mk hr0
  clear hr0
  obtain ⟨c, hc, hcases⟩ := impl_BestSet.cases h
  clear h
  have HC := Aside0.mk hc
  clear hc
  rcases hcases with ⟨hne, rfl, rfl, rfl⟩ | ⟨rfl, hok, hbest, rfl⟩
  · have hnb : (r3 != 0) = true := bne_iff_ne.mpr hne
    have hnd : (r3 == 0) = false := beq_eq_false_iff_ne.mpr hne
    clear hne
    go_enter Try.func39, Try.ntmps39
    go_wp2_with (first
      | ((with_reducible refine gate_dst (N := 3) rfl ?_); refine box_event ?hg (N := 3) ?hd (cs := #[.slice A0 l0.length c0]) (t := 42) ?hr ?_; (case hd => rfl); (case hg => rfl); (case hr => first | (go_simp; done) | (go_simp; rfl)); intro g1 hg1 w1 hb1 hl1; have B1 := Aside0.mk hb1; have HB1 := Aside0.mk hl1; clear hb1 hl1 hg1)
      | ((with_reducible refine gate_dst (N := 4) rfl ?_); refine box_event ?hg (N := 4) ?hd (cs := #[.int .i64 a1]) (t := 2) ?hr ?_; (case hd => rfl); (case hg => rfl); (case hr => first | (go_simp; done) | (go_simp; rfl)); intro g2 hg2 w2 hb2 hl2; have B2 := Aside0.mk hb2; have HB2 := Aside0.mk (below_step HB1.out hl2); have B12 := Aside0.mk (blk_below B1.out hl2); clear hb2 hl2 hg2)
      | ((with_reducible refine gate_dst (N := 5) rfl ?_); refine box_event ?hg (N := 5) ?hd (cs := #[.int .i64 a2]) (t := 2) ?hr ?_; (case hd => rfl); (case hg => rfl); (case hr => first | (go_simp; done) | (go_simp; rfl)); intro g3 hg3 w3 hb3 hl3; have HB3 := Aside0.mk (below_step HB2.out hl3); have cl3 : w3.cell? ⟨g1, 0, none⟩ = some (.slice A0 l0.length c0) := (blk_cell (blk_below B12.out hl3) 0).trans rfl; have cw3 : w3.cell? ⟨g2, 0, none⟩ = some (.int .i64 a1) := (blk_cell (blk_below B2.out hl3) 0).trans rfl; have cm3 : w3.cell? ⟨g3, 0, none⟩ = some (.int .i64 a2) := (blk_cell hb3 0).trans rfl; clear hb3 hl3 hg3)
      | (go_at_call 67; refine (impl_setCode.calls k A0 c0 l0 none 0 [] a1 a2 r3 _ (Kd.C_below HR0.out HB3.out) hc0 (Kd.R_reads' (Kd.R_nil (Kd.int .i64) 2 w3 w.heap.size (fun _ => True))).2.2 (Nat.le_refl _) HC.out).mono ?_; rintro e w4 ⟨rfl, hb4⟩; have HB4 := Aside0.mk (below_step HB3.out hb4); clear hb4 cl3 cw3 cm3))
    go_ret3
    exact ⟨_, by first | rfl | (simp; done), Kd.R_nil _ _ _ _ _, HB4.out⟩
  · have HOK := Aside0.mk hok
    have HBEST := Aside0.mk hbest
    clear hok hbest
    go_enter Try.func39, Try.ntmps39
    go_wp2_with (first
      | ((with_reducible refine gate_dst (N := 3) rfl ?_); refine box_event ?hg (N := 3) ?hd (cs := #[.slice A0 l0.length c0]) (t := 42) ?hr ?_; (case hd => rfl); (case hg => rfl); (case hr => first | (go_simp; done) | (go_simp; rfl)); intro g1 hg1 w1 hb1 hl1; have B1 := Aside0.mk hb1; have HB1 := Aside0.mk hl1; have G1 := Aside0.mk (show w.heap.size ≤ g1 from by rw [hg1]; exact Nat.le_refl _); clear hb1 hl1 hg1)
      | ((with_reducible refine gate_dst (N := 4) rfl ?_); refine box_event ?hg (N := 4) ?hd (cs := #[.int .i64 a1]) (t := 2) ?hr ?_; (case hd => rfl); (case hg => rfl); (case hr => first | (go_simp; done) | (go_simp; rfl)); intro g2 hg2 w2 hb2 hl2; have B2 := Aside0.mk hb2; have HB2 := Aside0.mk (below_step HB1.out hl2); have B12 := Aside0.mk (blk_below B1.out hl2); have G2 := Aside0.mk (show g1 < g2 from by rw [hg2]; exact blk_lt B1.out); clear hb2 hl2 hg2)
      | ((with_reducible refine gate_dst (N := 5) rfl ?_); refine box_event ?hg (N := 5) ?hd (cs := #[.int .i64 a2]) (t := 2) ?hr ?_; (case hd => rfl); (case hg => rfl); (case hr => first | (go_simp; done) | (go_simp; rfl)); intro g3 hg3 w3 hb3 hl3; have HB3 := Aside0.mk (below_step HB2.out hl3); have B13 := Aside0.mk (blk_below B12.out hl3); have B23 := Aside0.mk (blk_below B2.out hl3); have B33 := Aside0.mk hb3; have G3 := Aside0.mk (show g2 < g3 from by rw [hg3]; exact blk_lt B2.out); have cl3 : w3.cell? ⟨g1, 0, none⟩ = some (.slice A0 l0.length c0) := (blk_cell B13.out 0).trans rfl; have cw3 : w3.cell? ⟨g2, 0, none⟩ = some (.int .i64 a1) := (blk_cell B23.out 0).trans rfl; have cm3 : w3.cell? ⟨g3, 0, none⟩ = some (.int .i64 a2) := (blk_cell hb3 0).trans rfl; clear hb3 hl3 hg3)
      | (go_at_call 67; refine (impl_setCode.calls k A0 c0 l0 none 0 [] a1 a2 0 _ (Kd.C_below HR0.out HB3.out) hc0 (Kd.R_reads' (Kd.R_nil (Kd.int .i64) 2 w3 w.heap.size (fun _ => True))).2.2 (Nat.le_refl _) HC.out).mono ?_; rintro e w4 ⟨rfl, hb4⟩; have HB4 := Aside0.mk (below_step HB3.out hb4); have B14 := Aside0.mk (blk_below B13.out hb4); have B24 := Aside0.mk (blk_below B23.out hb4); have B34 := Aside0.mk (blk_below B33.out hb4); clear hb4 cl3 cw3 cm3)
      | ((with_reducible refine gate_dst (N := 20) rfl ?_); refine Kd.R_lit (Kd.int .i64) _ 2 ?hg (N := 20) ?hd (xs := ([] : List Int)) (inner := []) (ok := fun _ => True) (okp := fun _ => True) ?hr ?hp (fun _ hk => hk) trivial (Below.refl _ _) (Nat.le_refl _) (by simp) ?_; (case hd => rfl); (case hg => rfl); (case hr => first | (go_simp; done) | (go_simp; rfl)); (case hp => exact (Reps.none _ _)); intro v5 w5 ho5 hb5 hg_ hnew_; clear hg_ hnew_; have HO5 := Aside0.mk (Kd.R_mono (Kd.R_bound (Kd.R_lower ho5 (below_size HB4.out))) (ok' := fun k => k < w5.heap.size) (fun k hk => hk.2.2.1)); obtain ⟨A5, c5, ev5⟩ := Kd.R_slice ho5; subst ev5; have HB5 := Aside0.mk (below_step HB4.out hb5); have B15 := Aside0.mk (blk_below B14.out hb5); have B25 := Aside0.mk (blk_below B24.out hb5); have B35 := Aside0.mk (blk_below B34.out hb5); clear ho5 hb5)
      | ((with_reducible refine gate_dst (N := 10) rfl ?_); refine box_event ?hg (N := 10) ?hd (cs := #[.slice none 0 0]) (t := 30) ?hr ?_; (case hd => rfl); (case hg => rfl); (case hr => first | (go_simp; done) | (go_simp; rfl)); intro g4 hg4 w6 hb6 hl6; have HB6 := Aside0.mk (below_step HB5.out hl6); have B16 := Aside0.mk (blk_below B15.out hl6); have B26 := Aside0.mk (blk_below B25.out hl6); have B36 := Aside0.mk (blk_below B35.out hl6); have B46 := Aside0.mk hb6; have HO6 := Aside0.mk (Kd.R_below HO5.out hl6); have G4 := Aside0.mk (show g3 < g4 ∧ w5.heap.size ≤ g4 from by rw [hg4]; exact ⟨blk_lt B35.out, Nat.le_refl _⟩); have cb6 := (blk_cell hb6 0).trans rfl; have fb6 := blk_frozen hb6 0; clear hb6 hl6 hg4)
      | ((with_reducible refine gate_store (t := 30) (p := 10) rfl ?_); refine store_event (t := 30) (p := 10) (v := ?vo_w7) (w1 := (w6.setCell ⟨g4, 0, none⟩ (.slice A5 0 c5))) ?hg ?ho ?hn ?hr ?_; (case ho => rfl); (case hg => rfl); (case hn => rfl); (case hr => first | (go_simp; done) | (go_simp; rfl)); intro w7 hw7; have k7 : Kept w6 w7 (fun k => k = g4) := (by rw [hw7]; exact Kept.setCell (S := fun k => k = g4) (p := ⟨g4, 0, none⟩) (Kept.refl _ _) (.inl rfl) _); have HB7 := Aside0.mk (show Below w.heap.size w w7 from by rw [hw7]; exact below_set HB6.out (by have := G1.out; have := G2.out; have := G3.out; have := G4.out; show _ ≤ g4; omega)); have B47 := Aside0.mk (show w7.heap[g4]? = some (.cells #[.slice A5 0 c5] 30 (0, 0)) from by rw [hw7]; exact blk_put (cs := #[.slice none 0 0]) B46.out 0 _ rfl); have B17 := Aside0.mk (blk_kept B16.out k7 (by have := G2.out; have := G3.out; have := G4.out; omega)); have B27 := Aside0.mk (blk_kept B26.out k7 (by have := G3.out; have := G4.out; omega)); have B37 := Aside0.mk (blk_kept B36.out k7 (by have := G4.out; omega)); have HO7 := Aside0.mk (Kd.R_kept HO6.out k7 (fun k h1 h2 => by have := G4.out; omega)); clear k7 hw7 cb6 fb6)
      | ((with_reducible refine gate_dst (N := 11) rfl ?_); refine box_event ?hg (N := 11) ?hd (cs := #[.int .i64 0]) (t := 2) ?hr ?_; (case hd => rfl); (case hg => rfl); (case hr => first | (go_simp; done) | (go_simp; rfl)); intro g5 hg5 w8 hb8 hl8; have HB8 := Aside0.mk (below_step HB7.out hl8); have B18 := Aside0.mk (blk_below B17.out hl8); have B28 := Aside0.mk (blk_below B27.out hl8); have B38 := Aside0.mk (blk_below B37.out hl8); have B48 := Aside0.mk (blk_below B47.out hl8); have B58 := Aside0.mk hb8; have HO8 := Aside0.mk (Kd.R_below HO7.out hl8); have G5 := Aside0.mk (show g4 < g5 from by rw [hg5]; exact blk_lt B47.out); have cb8 := (blk_cell hb8 0).trans rfl; have fb8 := blk_frozen hb8 0; clear hb8 hl8 hg5)
      | ((with_reducible refine gate_store (t := 2) (p := 11) rfl ?_); refine store_event (t := 2) (p := 11) (v := ?vo_w9) (w1 := (w8.setCell ⟨g5, 0, none⟩ (.int .i64 0))) ?hg ?ho ?hn ?hr ?_; (case ho => rfl); (case hg => rfl); (case hn => rfl); (case hr => first | (go_simp; done) | (go_simp; rfl)); intro w9 hw9; have k9 : Kept w8 w9 (fun k => k = g5) := (by rw [hw9]; exact Kept.setCell (S := fun k => k = g5) (p := ⟨g5, 0, none⟩) (Kept.refl _ _) (.inl rfl) _); have HB9 := Aside0.mk (show Below w.heap.size w w9 from by rw [hw9]; exact below_set HB8.out (by have := G1.out; have := G2.out; have := G3.out; have := G4.out; have := G5.out; show _ ≤ g5; omega)); have B59 := Aside0.mk (show w9.heap[g5]? = some (.cells #[.int .i64 0] 2 (0, 0)) from by rw [hw9]; exact blk_put (cs := #[.int .i64 0]) B58.out 0 _ rfl); have B19 := Aside0.mk (blk_kept B18.out k9 (by have := G2.out; have := G3.out; have := G4.out; have := G5.out; omega)); have B29 := Aside0.mk (blk_kept B28.out k9 (by have := G3.out; have := G4.out; have := G5.out; omega)); have B39 := Aside0.mk (blk_kept B38.out k9 (by have := G4.out; have := G5.out; omega)); have B49 := Aside0.mk (blk_kept B48.out k9 (by have := G5.out; omega)); have HO9 := Aside0.mk (Kd.R_kept HO8.out k9 (fun k h1 h2 => by have := G4.out; have := G5.out; omega)); clear k9 hw9 cb8 fb8)
      | ((with_reducible refine gate_dst (N := 12) rfl ?_); refine box_event ?hg (N := 12) ?hd (cs := #[.nilFunc]) (t := 87) ?hr ?_; (case hd => rfl); (case hg => rfl); (case hr => first | (go_simp; done) | (go_simp; rfl)); intro g6 hg6 wa hba hla; have HBa := Aside0.mk (below_step HB9.out hla); have B1a := Aside0.mk (blk_below B19.out hla); have B2a := Aside0.mk (blk_below B29.out hla); have B3a := Aside0.mk (blk_below B39.out hla); have B4a := Aside0.mk (blk_below B49.out hla); have B5a := Aside0.mk (blk_below B59.out hla); have B6a := Aside0.mk hba; have HOa := Aside0.mk (Kd.R_below HO9.out hla); have G6 := Aside0.mk (show g5 < g6 from by rw [hg6]; exact blk_lt B59.out); have cba := (blk_cell hba 0).trans rfl; have fba := blk_frozen hba 0; clear hba hla hg6)
      | ((with_reducible refine gate_store (t := 87) (p := 12) rfl ?_); refine store_event (t := 87) (p := 12) (v := ?vo_wb) (w1 := (wa.setCell ⟨g6, 0, none⟩ (.func (.func 75) #[] #[.pointer (some ⟨g1, 0, none⟩), .pointer (some ⟨g2, 0, none⟩), .pointer (some ⟨g3, 0, none⟩), .pointer (some ⟨g5, 0, none⟩), .pointer (some ⟨g4, 0, none⟩), .pointer (some ⟨g6, 0, none⟩)]))) ?hg ?ho ?hn ?hr ?_; (case ho => rfl); (case hg => rfl); (case hn => rfl); (case hr => first | (go_simp; done) | (go_simp; rfl)); intro wb hwb
         have HFb := Aside0.mk (show WkW w g1 g2 g3 g4 g5 g6 A0 l0.length c0 a1 a2 ([], 0) wb from by
          have hlo : w.heap.size ≤ g1 ∧ g1 < g2 ∧ g2 < g3 ∧ g3 < g4 ∧ g4 < g5 ∧ g5 < g6 := ⟨G1.out, G2.out, G3.out, G4.out.1, G5.out, G6.out⟩
          have hg4 := G4.out
          have kb : Kept wa wb (fun k => k = g6) := by rw [hwb]; exact Kept.setCell (S := fun k => k = g6) (p := ⟨g6, 0, none⟩) (Kept.refl _ _) (.inl rfl) _
          refine ⟨blk_kept B1a.out kb (by omega), blk_kept B2a.out kb (by omega), blk_kept B3a.out kb (by omega), blk_kept B5a.out kb (by omega), by rw [hwb]; exact blk_put (cs := #[.nilFunc]) B6a.out 0 _ rfl, ⟨.slice A5 0 c5, blk_kept B4a.out kb (by omega), Kd.R_mono (Kd.R_kept HOa.out kb (fun k h1 h2 => by omega)) (fun k hk => by omega)⟩, by rw [hwb]; exact below_set HBa.out (by show _ ≤ g6; omega), hlo⟩)
         have ceb : wb.cell? ⟨g6, 0, none⟩ = some (.func (.func 75) #[] #[.pointer (some ⟨g1, 0, none⟩), .pointer (some ⟨g2, 0, none⟩), .pointer (some ⟨g3, 0, none⟩), .pointer (some ⟨g5, 0, none⟩), .pointer (some ⟨g4, 0, none⟩), .pointer (some ⟨g6, 0, none⟩)]) := (blk_cell HFb.out.be 0).trans rfl
         clear hwb cba fba)
      | (go_at_call 75; refine calls_of_args (args' := #[.slice none ([] : List Int).length 0, .int .i64 ((0 : Nat) : Int), .pointer (some ⟨g1, 0, none⟩), .pointer (some ⟨g2, 0, none⟩), .pointer (some ⟨g3, 0, none⟩), .pointer (some ⟨g5, 0, none⟩), .pointer (some ⟨g4, 0, none⟩), .pointer (some ⟨g6, 0, none⟩)]) (by first | rfl | simp) ?_; refine (best1_calls w g1 g2 g3 g4 g5 g6 A0 c0 l0 a1 a2 HOK.out.1 HR0.out hc0 (stI l0 a1 a2) (foI l0 a1) (fun set i h1 h2 => HOK.out.st set i h1 h2) (l0.length + 1) 0 none 0 [] ([], 0) wb (by omega) (by omega) ⟨by simp, by simp⟩ HFb.out (Kd.R_nil _ _ _ _ _)).mono ?_; rintro e wc ⟨rfl, hFc, _⟩; have hbe := HBEST.out; unfold bestI at hbe; rw [hbe] at hFc; obtain ⟨vb, e1_, e2_⟩ := hFc.rest; have HBc := Aside0.mk hFc.bel; obtain ⟨A9, c9, ev9⟩ := Kd.R_slice e2_; subst ev9; have HR9 := Aside0.mk e2_; have cv1 : wc.cell? ⟨g4, 0, none⟩ = some (.slice A9 r1.length c9) := (blk_cell e1_ 0).trans rfl; have cv2 : wc.cell? ⟨g5, 0, none⟩ = some (.int .i64 r2) := (blk_cell hFc.bs 0).trans rfl; clear hbe hFc e1_ e2_ ceb))
    repeat (go_quiet (fail); try go_wp2)
    go_ret3
    exact ⟨_, by first | rfl | (simp; done), by (with_reducible repeat (first | apply Kd.R_drewN | apply Kd.R_drew)); exact Kd.R_mono HR9.out (fun _ _ => trivial), by repeat (first | (with_reducible first | exact HBc.out | apply pw_below_drewN | apply below_drew1) | exact HBc.out)⟩

end
end Go.Proofs.Ythbfpkagjobgiaa.PFnWindSets
