/- The walks of the functions that the law reaches: each computes what its Lean function says. No condition beyond each contract's own. -/
import Derived.Test.YthbfpkagjobgiaaHFnExactBestSetx0
import Derived.Test.YthbfpkagjobgiaaHFnExactBestSetx5
import Derived.Test.YthbfpkagjobgiaaHFnExactBestSetx7
namespace Go.Proofs.Ythbfpkagjobgiaa.PFnExactBestSet
noncomputable section
open Go.RowKit Go.Proofs.YthbfpkagjobgiaaW.PrintWords Go.Proofs.YthbfpkagjobgiaaW.PrintLast Go.Proofs.YthbfpkagjobgiaaW.PrintMore
attribute [local go_sem] max2_int min2_int max_two min_two max_three min_three max_four min_four   -- for this text's walks alone
set_option linter.unusedVariables false
set_option linter.unusedSimpArgs false

/-! ### spec_l00Own: function 89 -/
def spec_l00Own.f (l0 : List Int) : Option (List Int) := (some (([] : List Int) : List Int)).bind fun y193 => (if y193.length + l0.length < 17592186044416 then (some (y193 ++ l0)) else (none))
set_option maxHeartbeats 8000000 in
set_option maxRecDepth 100000 in
theorem spec_l00Own.calls (A0 : Option Addr) (c0 : Nat) (l0 : List Int) (r : List Int) (w : World) (hr0 : Kd.C (Kd.int .i64) w A0 l0.length l0) (hc0 : l0.length ≤ c0) (h : spec_l00Own.f l0 = some r) :
    Calls Try.prog 89 #[.slice A0 l0.length c0] w fun e w' => ∃ v0_ : Value, e = .returned (v0_) ∧ Kd.R (Kd.int .i64) 2 w' w.heap.size (fun _ => True) v0_ r ∧ Below w.heap.size w w' := by
  have HR0 := Aside0.mk hr0
  have HC0 := Aside0.mk hc0
  clear hr0 hc0
  have HB := Aside0.mk (Below.refl w.heap.size w)
  have H : ((some (([] : List Int) : List Int)).bind fun y193 => (if y193.length + l0.length < 17592186044416 then (some (y193 ++ l0)) else (none))) = some r := h
  clear h
  obtain ⟨y193, hy193⟩ : ∃ y_ : List Int, y_ = (([] : List Int)) := ⟨_, rfl⟩
  replace H : (if y193.length + l0.length < 17592186044416 then (some (y193 ++ l0)) else (none)) = some r := by first | (rw [hy193]; with_reducible exact H) | (have H2_ := (Option.bind_some _ _).symm.trans H; rw [hy193]; with_reducible exact H2_) | (have H2_ := (Option.bind_some _ _).symm.trans H; with_reducible exact H2_) | with_reducible exact H | (rw [hy193]; exact H) | exact H
  have Ny193 := Aside0.mk hy193
  clear hy193
  by_cases c2 : y193.length + l0.length < 17592186044416
  · rw [if_pos c2] at H
    have LMc2 := Aside0.mk c2
    clear c2
    obtain ⟨y196, hy196⟩ : ∃ y_ : List Int, y_ = (y193 ++ l0) := ⟨_, rfl⟩
    replace H : (some y196) = some r := by first | (rw [hy196]; with_reducible exact H) | (have H2_ := (Option.bind_some _ _).symm.trans H; rw [hy196]; with_reducible exact H2_) | (have H2_ := (Option.bind_some _ _).symm.trans H; with_reducible exact H2_) | with_reducible exact H | (rw [hy196]; exact H) | exact H
    have Ny196 := Aside0.mk hy196
    clear hy196
    obtain rfl := Option.some.inj H
    go_enter Try.func89, Try.ntmps89
    go_wp2_with (first | ((with_reducible refine gate_dst (N := 3) rfl ?_); refine Kd.R_lit (Kd.int .i64) _ 2 ?hg (N := 3) ?hd (xs := ([] : List Int)) (inner := []) (ok := fun _ => True) (okp := fun _ => True) ?hr ?hp (fun _ hk => hk) trivial (Below.refl _ _) (Nat.le_refl _) (by simp) ?_; (case hd => rfl); (case hg => rfl); (case hr => first | (go_simp; done) | (go_simp; rfl)); (case hp => exact (Reps.none _ _)); intro v194 w3 ho4 hb hg_ hnew_; clear hg_ hnew_; (first | rw [← Ny193.out] at ho4 | (simp only [Int.reduceToNat] at ho4; rw [← Ny193.out] at ho4)); have n0_ := Aside0.mk (Kd.R_lower ho4 (below_size (by repeat (first | (with_reducible first | exact HB.out | apply below_alloc | apply pw_below_drewN | apply below_drew1) | exact HB.out)))); have n1_ := Aside0.mk (below_step (by repeat (first | (with_reducible first | exact HB.out | apply below_alloc | apply pw_below_drewN | apply below_drew1) | exact HB.out)) hb); clear HB; have HO195 := n0_; have HB := n1_; clear n0_ n1_; clear hb ho4) | ((with_reducible refine gate_builtin (b := .append) (xs := #[.tmp 3, .tmp 4]) rfl ?_); at_builtin; refine Kd.R_append_rows (Kd.int .i64) (w0 := w) w.heap.size rfl (.tmp 3) (.tmp 4) 30 2 (.int .i64 0) 8 rfl Try.underlying30 info2 rfl (by decide) (by omega) v194 y193 l0 _ _ _ (fun _ => True) (fun _ => False) rfl rfl ?aO ?aR (fun _ _ h => h) (fun _ h => h.elim) ?aF ?aB ?aS ?aL ?_; (case aR => repeat (first | exact (Kd.C_below HR0.out HB.out) | (with_reducible refine Kd.C_alloc ?_ _) | (with_reducible refine Kd.C_drewN ?_ _) | (with_reducible refine Kd.C_drew ?_))); (case aB => exact (by repeat (first | (with_reducible first | exact HB.out | apply below_alloc | apply pw_below_drewN | apply below_drew1) | exact HB.out))); (case aF => exact (fun _ _ => trivial)); (case aO => exact (by (with_reducible repeat (first | apply Kd.R_alloc | apply Kd.R_drewN | apply Kd.R_drew)); exact HO195.out)); (case aS => exact (below_size (by repeat (first | (with_reducible first | exact HB.out | apply below_alloc | apply pw_below_drewN | apply below_drew1) | exact HB.out)))); (case aL => have := LMc2.out; omega); intro v197 w5 ho hb hg hat; rw [← Ny196.out] at ho; have n0_ := Aside0.mk (hb); have n1_ := Aside0.mk (ho); clear HB; clear HO195; have HB := n0_; have HO198 := n1_; clear n0_ n1_; clear ho hb hg hat))
    go_ret
    exact ⟨_, by first | rfl | (simp [errW_none, errW_some] <;> rfl) | (simp [*, errW_none, errW_some] <;> rfl), by (with_reducible repeat (first | apply Kd.R_alloc | apply Kd.R_drewN | apply Kd.R_drew)); exact HO198.out, by repeat (first | (with_reducible first | exact HB.out | apply below_alloc | apply pw_below_drewN | apply below_drew1) | exact HB.out)⟩
  · rw [if_neg c2] at H
    exact absurd H (by simp)

/-! ### spec_BestSet: function 38 -/
/-! by hand: (*l10W).walk -/
structure SwW (w0 : World) (gw : Nat) (A : Option Addr) (n cp : Nat) (wd mt : Int) (s : List Int × Int) (w : World) : Prop where
  rest : ∃ vb, w.heap[gw]? = some (.cells #[.slice A n cp, .int .i64 wd, .int .i64 mt, vb, .int .i64 s.2] 85 (0, 0)) ∧ Kd.R (Kd.int .i64) 2 w w0.heap.size (fun k => k ≠ gw) vb s.1
  bel : Below w0.heap.size w0 w
  lo : w0.heap.size ≤ gw
theorem SwW.below {w0 w w' : World} {gw : Nat} {A : Option Addr} {n cp : Nat} {wd mt : Int} {s : List Int × Int} (h : SwW w0 gw A n cp wd mt s w) (hb : Below w.heap.size w w') : SwW w0 gw A n cp wd mt s w' := by
  obtain ⟨vb, e1, e2⟩ := h.rest
  exact ⟨⟨vb, blk_below e1 hb, Kd.R_below e2 hb⟩, below_step h.bel hb, h.lo⟩
theorem SwW.c0 {w0 w : World} {gw : Nat} {A : Option Addr} {n cp : Nat} {wd mt : Int} {s : List Int × Int} (h : SwW w0 gw A n cp wd mt s w) : w.cell? ⟨gw, 0, none⟩ = some (.slice A n cp) := by obtain ⟨vb, e1, _⟩ := h.rest; exact (blk_cell e1 0).trans rfl
theorem SwW.c1 {w0 w : World} {gw : Nat} {A : Option Addr} {n cp : Nat} {wd mt : Int} {s : List Int × Int} (h : SwW w0 gw A n cp wd mt s w) : w.cell? ⟨gw, 1, none⟩ = some (.int .i64 wd) := by obtain ⟨vb, e1, _⟩ := h.rest; exact (blk_cell e1 1).trans rfl
theorem SwW.c2 {w0 w : World} {gw : Nat} {A : Option Addr} {n cp : Nat} {wd mt : Int} {s : List Int × Int} (h : SwW w0 gw A n cp wd mt s w) : w.cell? ⟨gw, 2, none⟩ = some (.int .i64 mt) := by obtain ⟨vb, e1, _⟩ := h.rest; exact (blk_cell e1 2).trans rfl
theorem SwW.c4 {w0 w : World} {gw : Nat} {A : Option Addr} {n cp : Nat} {wd mt : Int} {s : List Int × Int} (h : SwW w0 gw A n cp wd mt s w) : w.cell? ⟨gw, 4, none⟩ = some (.int .i64 s.2) := by obtain ⟨vb, e1, _⟩ := h.rest; exact (blk_cell e1 4).trans rfl
theorem SwW.store {w0 w w6 w7 : World} {gw : Nat} {A : Option Addr} {n cp : Nat} {wd mt : Int} {s : List Int × Int} (h : SwW w0 gw A n cp wd mt s w) {v5 : Value} {set : List Int} {x : Int} (hr : Kd.R (Kd.int .i64) 2 w w0.heap.size (fun k => k ≠ gw) v5 set)
    (e6 : w6 = w.setCell ⟨gw, 3, none⟩ v5) (e7 : w7 = w6.setCell ⟨gw, 4, none⟩ (.int .i64 x)) : SwW w0 gw A n cp wd mt (set, x) w7 ∧ Kept w w7 (fun k => k = gw) := by
  obtain ⟨vb, e1, e2⟩ := h.rest
  have k6 : Kept w w6 (fun k => k = gw) := by rw [e6]; exact Kept.setCell (S := fun k => k = gw) (p := ⟨gw, 3, none⟩) (Kept.refl _ _) (.inl rfl) _
  have k7 : Kept w6 w7 (fun k => k = gw) := by rw [e7]; exact Kept.setCell (S := fun k => k = gw) (p := ⟨gw, 4, none⟩) (Kept.refl _ _) (.inl rfl) _
  have k67 : Kept w w7 (fun k => k = gw) := Kept.then_ k6 k7 (fun k hk => .inl hk)
  have b6 : w6.heap[gw]? = some (.cells #[.slice A n cp, .int .i64 wd, .int .i64 mt, v5, .int .i64 s.2] 85 (0, 0)) := by rw [e6]; exact blk_put (cs := #[.slice A n cp, .int .i64 wd, .int .i64 mt, vb, .int .i64 s.2]) e1 3 _ rfl
  refine ⟨⟨⟨v5, ?_, Kd.R_kept hr k67 (fun k h1 h2 => h1 h2)⟩, ?_, h.lo⟩, k67⟩
  · rw [e7]; exact blk_put (cs := #[.slice A n cp, .int .i64 wd, .int .i64 mt, v5, .int .i64 s.2]) b6 4 _ rfl
  · rw [e7, e6]
    exact below_set (below_set h.bel h.lo) h.lo
theorem sw_fresh {w0 w w9 : World} {gw n cp : Nat} {A : Option Addr} {wd mt : Int} {s : List Int × Int} {v : Value} {ys : List Int} (h : SwW w0 gw A n cp wd mt s w) (hz : Kd.R (Kd.int .i64) 2 w9 w.heap.size (fun _ => True) v ys) : Kd.R (Kd.int .i64) 2 w9 w0.heap.size (fun k => k ≠ gw) v ys := by
  obtain ⟨vb, e1, _⟩ := h.rest
  have hbg := blk_lt e1
  exact Kd.R_lower (Kd.R_mono (Kd.R_bound hz) (fun k hk => by have := hk.2.1; omega)) (below_size h.bel)
theorem sw_last {w : World} {base q cl : Nat} {ok : Nat → Prop} {ad : Addr} {pre : List Int} {x : Int} (h : Kd.R (Kd.int .i64) 2 w base ok (.slice (some ad) (pre ++ [x]).length cl) (pre ++ [x])) (hq : pre.length = q) : w.cell? (ad.add q) = some (.int .i64 x) := by
  obtain ⟨ad', e, hx⟩ := Kd.at_int (Kd.R_reads' h).2.2 (q : Int) (by omega) (by simp; omega)
  injection e with e
  subst e
  rw [Int.toNat_natCast] at hx
  rw [hx]
  unfold rd
  rw [Int.toNat_natCast, List.getD_eq_getElem?_getD, List.getElem?_append_right (by omega)]
  simp [hq]
def SetTo (set : List Int) (i : Nat) : Prop := (set = [] ∧ i = 0) ∨ ∃ (pre : List Int) (j : Nat), set = pre ++ [(j : Int)] ∧ i = j + 1
theorem own_same (pre : List Int) (h : pre.length ≤ 1048576) : spec_l00Own.f pre = some pre := by
  unfold spec_l00Own.f
  simp only [Option.bind_some]
  rw [if_pos (by simp; omega)]
  rfl
set_option maxHeartbeats 8000000 in
set_option maxRecDepth 100000 in
theorem walkS_calls (w0 : World) (gw : Nat) (A : Option Addr) (cp : Nat) (lst : List S27) (wd mt : Int) (hn : lst.length ≤ 1024) (hrL : Kd.C k27 w0 A lst.length lst) (hcL : lst.length ≤ cp) (st : List Int → Bool) (fo : List Int → Int)
    (hst : ∀ set i, SetIn set i → i ≤ lst.length → (∃ k, spec_l10Stand.f k lst set wd mt = some (st set)) ∧ ∃ k r2, spec_l10Total.f k lst set wd = some (fo set, r2)) :
    ∀ (m i : Nat) (Al : Option Addr) (cl : Nat) (set : List Int) (s : List Int × Int) (w : World), lst.length < i + m → i ≤ lst.length → SetIn set i → SetTo set i → SwW w0 gw A lst.length cp wd mt s w → Kd.R (Kd.int .i64) 2 w w0.heap.size (fun k => k ≠ gw) (.slice Al set.length cl) set →
    Calls Try.prog 74 #[.pointer (some ⟨gw, 0, none⟩), .slice Al set.length cl] w fun e w' => e = .returned (.tuple #[]) ∧ SwW w0 gw A lst.length cp wd mt (wk st fo lst.length m s set i) w' ∧ Kept w w' (fun k => k = gw) := by
  have hu30 := Try.underlying30
  have hu85 := Try.underlying85
  intro m
  induction m with
  | zero => intro i Al cl set s w hmi hi; omega
  | succ m ih =>
    intro i Al cl set s w hmi hi hsi hto hF hl
    obtain ⟨⟨k1, e1⟩, k2, r2, e2⟩ := hst set i hsi hi
    have HLL := Aside0.mk (show set.length ≤ i ∧ i ≤ lst.length ∧ lst.length ≤ 1024 from ⟨hsi.1, hi, hn⟩)
    have HMI := Aside0.mk hmi
    have HSI := Aside0.mk hsi
    have HTO := Aside0.mk hto
    have HF := Aside0.mk hF
    have HL := Aside0.mk hl
    have HLC := Aside0.mk (Kd.R_reads' hl)
    have HRL := Aside0.mk hrL
    have IH := Aside0.mk ih
    have hwk : (st set = false ∧ wk st fo lst.length (m + 1) s set i = s) ∨ (st set = true ∧ decide (s.2 < fo set) = true ∧ wk st fo lst.length (m + 1) s set i = (List.range' i (lst.length - i)).foldl (fun s (j : Nat) => wk st fo lst.length m s (set ++ [(j : Int)]) (j + 1)) (set, fo set)) ∨ (st set = true ∧ decide (s.2 < fo set) = false ∧ wk st fo lst.length (m + 1) s set i = (List.range' i (lst.length - i)).foldl (fun s (j : Nat) => wk st fo lst.length m s (set ++ [(j : Int)]) (j + 1)) s) := by
      cases hb : st set with
      | false => exact .inl ⟨rfl, by simp only [wk]; rw [if_neg (by rw [hb]; decide)]⟩
      | true =>
        by_cases hc : s.2 < fo set
        · exact .inr (.inl ⟨rfl, decide_eq_true hc, by simp only [wk]; rw [if_pos hb, if_pos hc]⟩)
        · exact .inr (.inr ⟨rfl, decide_eq_false hc, by simp only [wk]; rw [if_pos hb, if_neg hc]⟩)
    obtain ⟨fs, hfs⟩ : ∃ x, fo set = x := ⟨_, rfl⟩
    obtain ⟨b, hbs⟩ : ∃ x, st set = x := ⟨_, rfl⟩
    obtain ⟨sl, hsl⟩ : ∃ x, s.2 = x := ⟨_, rfl⟩
    rw [hfs, hsl, hbs] at hwk
    rw [hfs] at e2
    rw [hbs] at e1
    have HE1 := Aside0.mk e1
    have HE2 := Aside0.mk e2
    have HSL := Aside0.mk hsl
    have HWK := Aside0.mk hwk
    clear hF hl hi hsi hto hmi ih e1 e2 hst hrL hfs hsl hbs hwk
    go_enter Try.func74, Try.ntmps74
    go_wp2
    refine start_ (n := 15) (S := fun w' => w'.cell? ⟨gw, 0, none⟩ = some (.slice A lst.length cp) ∧ w'.cell? ⟨gw, 1, none⟩ = some (.int .i64 wd) ∧ w'.cell? ⟨gw, 2, none⟩ = some (.int .i64 mt)) (ds := []) #[false, false, false, false, false, false, false, false, false, false, false, false, false, false, false] (by kernel_rfl) rfl rfl ⟨HF.out.c0, HF.out.c1, HF.out.c2⟩ (fun hHeld => ?_)
    have H20 := Aside0.mk (HF.out.below (below_drew1 (Below.refl _ _)))
    have HB20 := Aside0.mk (below_drew1 (Below.refl w.heap.size w))
    generalize w.drew = w20 at H20 HB20 hHeld ⊢
    refine pure_ (i := 0) (N := some 8) (v := ?_) (a' := ?_) #[true, false, false, false, false, false, false, false, false, false, false, false, false, false, false] rfl rfl (by kernel_rfl) (fun _ _ _ h => h) (Or.inl ⟨by rfl, ?_⟩) ?_ ?_
    rotate_left
    · intro w'
      go_simp
      with_reducible rfl
    rotate_left
    · simp only [Act.put, List.setIfInBounds_toArray, List.set_cons_zero, List.set_cons_succ, i64_w, i32_w]
      rfl
    refine pure_ (i := 1) (N := some 9) (v := ?_) (a' := ?_) #[true, true, false, false, false, false, false, false, false, false, false, false, false, false, false] rfl rfl (by kernel_rfl) (fun _ _ _ h => h) (Or.inl ⟨by rfl, ?_⟩) ?_ ?_
    rotate_left
    · intro w'
      go_simp
      with_reducible rfl
    rotate_left
    · simp only [Act.put, List.setIfInBounds_toArray, List.set_cons_zero, List.set_cons_succ, i64_w, i32_w]
      rfl
    refine pure_ (i := 2) (N := some 10) (v := ?_) (a' := ?_) #[true, true, true, false, false, false, false, false, false, false, false, false, false, false, false] rfl rfl (by kernel_rfl) (fun _ _ _ h => h) (Or.inl ⟨by rfl, ?_⟩) ?_ ?_
    rotate_left
    · intro w'
      go_simp
      with_reducible rfl
    rotate_left
    · simp only [Act.put, List.setIfInBounds_toArray, List.set_cons_zero, List.set_cons_succ, i64_w, i32_w]
      rfl
    refine pure_ (i := 4) (N := some 12) (v := ?_) (a' := ?_) #[true, true, true, false, true, false, false, false, false, false, false, false, false, false, false] rfl rfl (by kernel_rfl) (fun _ _ _ h => h) (Or.inl ⟨by rfl, ?_⟩) ?_ ?_
    rotate_left
    · intro w'
      go_simp
      with_reducible rfl
    rotate_left
    · simp only [Act.put, List.setIfInBounds_toArray, List.set_cons_zero, List.set_cons_succ, i64_w, i32_w]
      rfl
    refine pure_ (i := 5) (N := some 13) (v := ?_) (a' := ?_) #[true, true, true, false, true, true, false, false, false, false, false, false, false, false, false] rfl rfl (by kernel_rfl) (fun _ _ _ h => h) (Or.inl ⟨by rfl, ?_⟩) ?_ ?_
    rotate_left
    · intro w'
      go_simp
      with_reducible rfl
    rotate_left
    · simp only [Act.put, List.setIfInBounds_toArray, List.set_cons_zero, List.set_cons_succ, i64_w, i32_w]
      rfl
    refine pure_ (i := 6) (N := some 14) (v := ?_) (a' := ?_) #[true, true, true, false, true, true, true, false, false, false, false, false, false, false, false] rfl rfl (by kernel_rfl) (fun _ _ _ h => h) (Or.inl ⟨by rfl, ?_⟩) ?_ ?_
    rotate_left
    · intro w'
      go_simp
      with_reducible rfl
    rotate_left
    · simp only [Act.put, List.setIfInBounds_toArray, List.set_cons_zero, List.set_cons_succ, i64_w, i32_w]
      rfl
    refine pure_ (i := 7) (N := some 15) (v := ?_) (a' := ?_) #[true, true, true, false, true, true, true, true, false, false, false, false, false, false, false] rfl rfl (by kernel_rfl) (fun _ _ _ h => h) (Or.inl ⟨by rfl, ?_⟩) ?_ ?_
    rotate_left
    · intro w'
      go_simp
      with_reducible rfl
    rotate_left
    · simp only [Act.put, List.setIfInBounds_toArray, List.set_cons_zero, List.set_cons_succ, i64_w, i32_w]
      rfl
    refine pure_ (i := 9) (N := some 17) (v := ?_) (a' := ?_) #[true, true, true, false, true, true, true, true, false, true, false, false, false, false, false] rfl rfl (by kernel_rfl) (fun _ _ _ h => h) (Or.inl ⟨by rfl, ?_⟩) ?_ ?_
    rotate_left
    · intro w'
      go_simp
      with_reducible rfl
    rotate_left
    · simp only [Act.put, List.setIfInBounds_toArray, List.set_cons_zero, List.set_cons_succ, i64_w, i32_w]
      rfl
    refine pure_ (i := 10) (N := some 18) (v := ?_) (a' := ?_) #[true, true, true, false, true, true, true, true, false, true, true, false, false, false, false] rfl rfl (by kernel_rfl) (fun _ _ _ h => h) (Or.inl ⟨by rfl, ?_⟩) ?_ ?_
    rotate_left
    · intro w'
      go_simp
      with_reducible rfl
    rotate_left
    · simp only [Act.put, List.setIfInBounds_toArray, List.set_cons_zero, List.set_cons_succ, i64_w, i32_w]
      rfl
    refine pure_ (i := 11) (N := some 19) (v := ?_) (a' := ?_) #[true, true, true, false, true, true, true, true, false, true, true, true, false, false, false] rfl rfl (by kernel_rfl) (fun _ _ _ h => h) (Or.inl ⟨by rfl, ?_⟩) ?_ ?_
    rotate_left
    · intro w'
      go_simp
      with_reducible rfl
    rotate_left
    · simp only [Act.put, List.setIfInBounds_toArray, List.set_cons_zero, List.set_cons_succ, i64_w, i32_w]
      rfl
    refine take_ (i := 3) (N := some 11) (v := ?_) (a' := ?_) #[true, true, true, true, true, true, true, true, false, true, true, true, false, false, false] rfl rfl (by kernel_rfl) (fun _ _ _ h => h) (Or.inl ⟨by rfl, ?_⟩) hHeld ?_ ?_
    rotate_left
    · rintro w' ⟨s0, s1, s2⟩
      go_simp
      with_reducible rfl
    rotate_left
    · simp only [Act.put, List.setIfInBounds_toArray, List.set_cons_zero, List.set_cons_succ, i64_w, i32_w]
      rfl
    refine take_ (i := 8) (N := some 16) (v := ?_) (a' := ?_) #[true, true, true, true, true, true, true, true, true, true, true, true, false, false, false] rfl rfl (by kernel_rfl) (fun _ _ _ h => h) (Or.inl ⟨by rfl, ?_⟩) hHeld ?_ ?_
    rotate_left
    · rintro w' ⟨s0, s1, s2⟩
      go_simp
      with_reducible rfl
    rotate_left
    · simp only [Act.put, List.setIfInBounds_toArray, List.set_cons_zero, List.set_cons_succ, i64_w, i32_w]
      rfl
    refine take_ (i := 12) (N := some 20) (v := ?_) (a' := ?_) #[true, true, true, true, true, true, true, true, true, true, true, true, true, false, false] rfl rfl (by kernel_rfl) (fun _ _ _ h => h) (Or.inl ⟨by rfl, ?_⟩) hHeld ?_ ?_
    rotate_left
    · rintro w' ⟨s0, s1, s2⟩
      go_simp
      with_reducible rfl
    rotate_left
    · simp only [Act.put, List.setIfInBounds_toArray, List.set_cons_zero, List.set_cons_succ, i64_w, i32_w]
      rfl
    refine one_ (i := 13) (N := some 21) #[true, true, true, true, true, true, true, true, true, true, true, true, true, true, false] rfl rfl (by kernel_rfl) (by decide) (fun K hK => ?_)
    refine goes_ Try.func73 (by kernel_rfl) rfl #[.slice A lst.length cp, .slice Al set.length cl, .int .i64 wd, .int .i64 mt] (by rfl) rfl rfl (by simp only [List.map_toArray, List.map_cons, List.map_nil]; rfl) ?_
    with_reducible refine (spec_l10Stand.calls k1 A cp lst Al cl set wd mt b _ (Kd.C_below HRL.out H20.out.bel) hcL (Kd.C_below HLC.out.2.2 HB20.out) HLC.out.2.1 HE1.out).mono ?_
    rintro e w21 ⟨rfl, hb_⟩
    refine ⟨_, rfl, ?_⟩
    have H21 := Aside0.mk (H20.out.below hb_)
    have HB21 := Aside0.mk (below_step HB20.out hb_)
    clear hb_
    refine hK.out _ _ ⟨H21.out.c0, H21.out.c1, H21.out.c2⟩ (fun hHeld => ?_)
    clear hK K
    refine norm_ (a' := ?_) ?_ ?_
    rotate_left
    · show Act.put _ (some 21) _ = _
      simp only [Act.put, List.setIfInBounds_toArray, List.set_cons_zero, List.set_cons_succ, i64_w, i32_w]
      rfl
    refine pure_ (i := 14) (N := some 22) (v := ?_) (a' := ?_) #[true, true, true, true, true, true, true, true, true, true, true, true, true, true, true] rfl rfl (by kernel_rfl) (fun _ _ _ h => h) (Or.inl ⟨by rfl, ?_⟩) ?_ ?_
    rotate_left
    · intro w'
      go_simp
      with_reducible rfl
    rotate_left
    · simp only [Act.put, List.setIfInBounds_toArray, List.set_cons_zero, List.set_cons_succ, i64_w, i32_w]
      rfl
    refine done_ (by kernel_rfl) ?_
    rcases HWK.out with ⟨rfl, hw⟩ | ⟨rfl, hrest⟩ | ⟨rfl, hrest⟩
    · have HW := Aside0.mk hw
      clear hw
      go_wp2
      first | go_end0 | (simp only [Exit.inBlock, Exit.then]; refine bodyPost_ret (results_none rfl _ _ _) rfl ?_) | refine bodyPost_ret (results_none rfl _ _ _) rfl ?_
      rw [HW.out]
      exact ⟨by first | rfl | (simp; done), H21.out, Kept.of_below HB21.out _⟩
    · skip
      obtain ⟨hc, hw⟩ := hrest
      have HW := Aside0.mk hw
      clear hw
      go_wp2
      refine start_ (n := 15) (S := fun w' => w'.cell? ⟨gw, 0, none⟩ = some (.slice A lst.length cp) ∧ w'.cell? ⟨gw, 1, none⟩ = some (.int .i64 wd)) (ds := []) #[false, false, false, false, false, false, false, false, false, false, false, false, false, false, false] (by kernel_rfl) rfl rfl ⟨H21.out.c0, H21.out.c1⟩ (fun hHeld => ?_)
      have H30 := Aside0.mk (H21.out.below (below_drew1 (Below.refl _ _)))
      have HB30 := Aside0.mk (below_drew1 HB21.out)
      generalize w21.drew = w30 at H30 HB30 hHeld ⊢
      refine pure_ (i := 0) (N := some 24) (v := ?_) (a' := ?_) #[true, false, false, false, false, false, false, false, false, false, false, false, false, false, false] rfl rfl (by kernel_rfl) (fun _ _ _ h => h) (Or.inl ⟨by rfl, ?_⟩) ?_ ?_
      rotate_left
      · intro w'
        go_simp
        with_reducible rfl
      rotate_left
      · simp only [Act.put, List.setIfInBounds_toArray, List.set_cons_zero, List.set_cons_succ, i64_w, i32_w]
        rfl
      refine pure_ (i := 1) (N := some 25) (v := ?_) (a' := ?_) #[true, true, false, false, false, false, false, false, false, false, false, false, false, false, false] rfl rfl (by kernel_rfl) (fun _ _ _ h => h) (Or.inl ⟨by rfl, ?_⟩) ?_ ?_
      rotate_left
      · intro w'
        go_simp
        with_reducible rfl
      rotate_left
      · simp only [Act.put, List.setIfInBounds_toArray, List.set_cons_zero, List.set_cons_succ, i64_w, i32_w]
        rfl
      refine pure_ (i := 2) (N := some 26) (v := ?_) (a' := ?_) #[true, true, true, false, false, false, false, false, false, false, false, false, false, false, false] rfl rfl (by kernel_rfl) (fun _ _ _ h => h) (Or.inl ⟨by rfl, ?_⟩) ?_ ?_
      rotate_left
      · intro w'
        go_simp
        with_reducible rfl
      rotate_left
      · simp only [Act.put, List.setIfInBounds_toArray, List.set_cons_zero, List.set_cons_succ, i64_w, i32_w]
        rfl
      refine pure_ (i := 4) (N := some 28) (v := ?_) (a' := ?_) #[true, true, true, false, true, false, false, false, false, false, false, false, false, false, false] rfl rfl (by kernel_rfl) (fun _ _ _ h => h) (Or.inl ⟨by rfl, ?_⟩) ?_ ?_
      rotate_left
      · intro w'
        go_simp
        with_reducible rfl
      rotate_left
      · simp only [Act.put, List.setIfInBounds_toArray, List.set_cons_zero, List.set_cons_succ, i64_w, i32_w]
        rfl
      refine pure_ (i := 5) (N := some 29) (v := ?_) (a' := ?_) #[true, true, true, false, true, true, false, false, false, false, false, false, false, false, false] rfl rfl (by kernel_rfl) (fun _ _ _ h => h) (Or.inl ⟨by rfl, ?_⟩) ?_ ?_
      rotate_left
      · intro w'
        go_simp
        with_reducible rfl
      rotate_left
      · simp only [Act.put, List.setIfInBounds_toArray, List.set_cons_zero, List.set_cons_succ, i64_w, i32_w]
        rfl
      refine pure_ (i := 6) (N := some 30) (v := ?_) (a' := ?_) #[true, true, true, false, true, true, true, false, false, false, false, false, false, false, false] rfl rfl (by kernel_rfl) (fun _ _ _ h => h) (Or.inl ⟨by rfl, ?_⟩) ?_ ?_
      rotate_left
      · intro w'
        go_simp
        with_reducible rfl
      rotate_left
      · simp only [Act.put, List.setIfInBounds_toArray, List.set_cons_zero, List.set_cons_succ, i64_w, i32_w]
        rfl
      refine pure_ (i := 7) (N := some 31) (v := ?_) (a' := ?_) #[true, true, true, false, true, true, true, true, false, false, false, false, false, false, false] rfl rfl (by kernel_rfl) (fun _ _ _ h => h) (Or.inl ⟨by rfl, ?_⟩) ?_ ?_
      rotate_left
      · intro w'
        go_simp
        with_reducible rfl
      rotate_left
      · simp only [Act.put, List.setIfInBounds_toArray, List.set_cons_zero, List.set_cons_succ, i64_w, i32_w]
        rfl
      refine take_ (i := 3) (N := some 27) (v := ?_) (a' := ?_) #[true, true, true, true, true, true, true, true, false, false, false, false, false, false, false] rfl rfl (by kernel_rfl) (fun _ _ _ h => h) (Or.inl ⟨by rfl, ?_⟩) hHeld ?_ ?_
      rotate_left
      · rintro w' ⟨s0, s1⟩
        go_simp
        with_reducible rfl
      rotate_left
      · simp only [Act.put, List.setIfInBounds_toArray, List.set_cons_zero, List.set_cons_succ, i64_w, i32_w]
        rfl
      refine take_ (i := 8) (N := some 32) (v := ?_) (a' := ?_) #[true, true, true, true, true, true, true, true, true, false, false, false, false, false, false] rfl rfl (by kernel_rfl) (fun _ _ _ h => h) (Or.inl ⟨by rfl, ?_⟩) hHeld ?_ ?_
      rotate_left
      · rintro w' ⟨s0, s1⟩
        go_simp
        with_reducible rfl
      rotate_left
      · simp only [Act.put, List.setIfInBounds_toArray, List.set_cons_zero, List.set_cons_succ, i64_w, i32_w]
        rfl
      refine one_ (i := 9) (N := some 33) #[true, true, true, true, true, true, true, true, true, true, false, false, false, false, false] rfl rfl (by kernel_rfl) (by decide) (fun K hK => ?_)
      refine goes_ Try.func71 (by kernel_rfl) rfl #[.slice A lst.length cp, .slice Al set.length cl, .int .i64 wd] (by rfl) rfl rfl (by simp only [List.map_toArray, List.map_cons, List.map_nil]; rfl) ?_
      with_reducible refine (spec_l10Total.calls k2 A cp lst Al cl set wd fs r2 _ (Kd.C_below HRL.out H30.out.bel) hcL (Kd.C_below HLC.out.2.2 HB30.out) HLC.out.2.1 HE2.out).mono ?_
      rintro e w31 ⟨rfl, hb_⟩
      refine ⟨_, rfl, ?_⟩
      have H31 := Aside0.mk (H30.out.below hb_)
      have HB31 := Aside0.mk (below_step HB30.out hb_)
      clear hb_
      refine hK.out _ _ ⟨H31.out.c0, H31.out.c1⟩ (fun hHeld => ?_)
      clear hK K
      refine norm_ (a' := ?_) ?_ ?_
      rotate_left
      · show Act.put _ (some 33) _ = _
        simp only [Act.put, List.setIfInBounds_toArray, List.set_cons_zero, List.set_cons_succ, i64_w, i32_w]
        rfl
      refine pure_ (i := 10) (N := some 23) (v := ?_) (a' := ?_) #[true, true, true, true, true, true, true, true, true, true, true, false, false, false, false] rfl rfl (by kernel_rfl) (fun _ _ _ h => h) (Or.inl ⟨by rfl, ?_⟩) ?_ ?_
      rotate_left
      · intro w'
        go_simp
        with_reducible rfl
      rotate_left
      · simp only [Act.put, List.setIfInBounds_toArray, List.set_cons_zero, List.set_cons_succ, i64_w, i32_w]
        rfl
      refine pure_ (i := 11) (N := some 34) (v := ?_) (a' := ?_) #[true, true, true, true, true, true, true, true, true, true, true, true, false, false, false] rfl rfl (by kernel_rfl) (fun _ _ _ h => h) (Or.inl ⟨by rfl, ?_⟩) ?_ ?_
      rotate_left
      · intro w'
        go_simp
        with_reducible rfl
      rotate_left
      · simp only [Act.put, List.setIfInBounds_toArray, List.set_cons_zero, List.set_cons_succ, i64_w, i32_w]
        rfl
      refine pure_ (i := 12) (N := some 35) (v := ?_) (a' := ?_) #[true, true, true, true, true, true, true, true, true, true, true, true, true, false, false] rfl rfl (by kernel_rfl) (fun _ _ _ h => h) (Or.inl ⟨by rfl, ?_⟩) ?_ ?_
      rotate_left
      · intro w'
        go_simp
        with_reducible rfl
      rotate_left
      · simp only [Act.put, List.setIfInBounds_toArray, List.set_cons_zero, List.set_cons_succ, i64_w, i32_w]
        rfl
      refine pure_ (i := 13) (N := some 4) (v := ?_) (a' := ?_) #[true, true, true, true, true, true, true, true, true, true, true, true, true, true, false] rfl rfl (by kernel_rfl) (fun _ _ _ h => h) (Or.inl ⟨by rfl, ?_⟩) ?_ ?_
      rotate_left
      · intro w'
        go_simp
        with_reducible rfl
      rotate_left
      · simp only [Act.put, List.setIfInBounds_toArray, List.set_cons_zero, List.set_cons_succ, i64_w, i32_w]
        rfl
      refine pure_ (i := 14) (N := some 5) (v := ?_) (a' := ?_) #[true, true, true, true, true, true, true, true, true, true, true, true, true, true, true] rfl rfl (by kernel_rfl) (fun _ _ _ h => h) (Or.inl ⟨by rfl, ?_⟩) ?_ ?_
      rotate_left
      · intro w'
        go_simp
        with_reducible rfl
      rotate_left
      · simp only [Act.put, List.setIfInBounds_toArray, List.set_cons_zero, List.set_cons_succ, i64_w, i32_w]
        rfl
      refine done_ (by kernel_rfl) ?_
      obtain ⟨vb, ev31, _⟩ := H31.out.rest
      rw [HSL.out] at ev31
      have EV31 := Aside0.mk ev31
      have cs4 : w31.cell? ⟨gw, 4, none⟩ = some (.int .i64 sl) := (blk_cell ev31 4).trans rfl
      have cy3 : w31.cell? ⟨gw, 3, none⟩ = some vb := (blk_cell ev31 3).trans rfl
      have fy3 := blk_frozen ev31 3
      clear ev31
      rcases HTO.out with ⟨hs0, hi0⟩ | ⟨pre, j0, hs0, hi0⟩
      · skip
        have hl0 : decide ((0 : Int) < (set.length : Int)) = false := by rw [hs0]; rfl
        have hl1 : decide (0 < set.length) = false := by rw [hs0]; rfl
        have HI0 := Aside0.mk hi0
        clear hi0 hs0
        go_wp2_with (first
          | ((with_reducible refine gate_store (t := 30) (p := 45) rfl ?_); refine store_event (t := 30) (p := 45) (v := ?vo_w6) (w1 := (w31.setCell ⟨gw, 3, none⟩ (.slice Al set.length cl))) ?hg ?ho ?hn ?hr ?_; (case ho => rfl); (case hg => rfl); (case hn => rfl); (case hr => first | (go_simp; done) | (go_simp; rfl)); intro w6 hw6; have HE6 := Aside0.mk hw6; have b2_ : w6.heap[gw]? = some (.cells #[.slice A lst.length cp, .int .i64 wd, .int .i64 mt, .slice Al set.length cl, .int .i64 sl] 85 (0, 0)) := (by rw [hw6]; exact blk_put (cs := #[.slice A lst.length cp, .int .i64 wd, .int .i64 mt, vb, .int .i64 sl]) EV31.out 3 _ rfl); have cy4 : w6.cell? ⟨gw, 4, none⟩ = some (.int .i64 sl) := (blk_cell b2_ 4).trans rfl; have fy4 := blk_frozen b2_ 4; clear hw6 cy3 fy3 cs4 b2_)
          | ((with_reducible refine gate_store (t := 2) (p := 49) rfl ?_); refine store_event (t := 2) (p := 49) (v := ?vo_w7) (w1 := (w6.setCell ⟨gw, 4, none⟩ (.int .i64 fs))) ?hg ?ho ?hn ?hr ?_; (case ho => rfl); (case hg => rfl); (case hn => rfl); (case hr => first | (go_simp; done) | (go_simp; rfl)); intro w7 hw7; have HE7 := Aside0.mk hw7; clear hw7 cy4 fy4))
        have HFS := Aside0.mk (SwW.store H31.out (Kd.R_below HL.out HB31.out) HE6.out HE7.out).1
        have HKS := Aside0.mk (Kept.then_ (Kept.of_below HB31.out (fun k => k = gw)) (SwW.store H31.out (Kd.R_below HL.out HB31.out) HE6.out HE7.out).2 (fun k hk => .inl hk))
        go_loopw [7] (fun v7 wr => ∃ (j : Nat), v7 = .int .i64 (j : Int) ∧ Aside0 (i ≤ j ∧ j ≤ lst.length) ∧ Aside0 (SwW w0 gw A lst.length cp wd mt ((List.range' i (j - i)).foldl (fun s (j : Nat) => wk st fo lst.length m s (set ++ [(j : Int)]) (j + 1)) (set, fs)) wr) ∧ Aside0 (Kd.R (Kd.int .i64) 2 wr w0.heap.size (fun k => k ≠ gw) (.slice Al set.length cl) set) ∧ Aside0 (Kept w wr (fun k => k = gw))) (fun v7 _ => (2000 - intOf v7).toNat)
        case atStart => exact ⟨i, by first | rfl | (rw [HE8.out]; done) | (rw [HI0.out]; rfl) | (rw [HI0.out]; done) | (rw [HI0.out, e8]; done) | (rw [HI0.out]; simp; done) | (rw [HI0.out]; simp [e8]; done) | (rw [HI0.out]; congr 1; omega) | trace_state, ⟨by have := HLL.out; omega⟩, ⟨by rw [show i - i = 0 from by omega]; exact HFS.out⟩, ⟨Kd.R_kept HL.out HKS.out (fun k h1 h2 => h1 h2)⟩, HKS⟩
        case round =>
          obtain ⟨j, rfl, HJN, HFr, HLr, HKr⟩ := hrel
          have c0r : wr.cell? ⟨gw, 0, none⟩ = some (.slice A lst.length cp) := HFr.out.c0
          have hjn := HJN.out
          have hll := HLL.out
          by_cases hc9 : j < lst.length
          · have hcb : decide ((j : Int) < (lst.length : Int)) = true := decide_eq_true (by omega)
            have hcc : decide (j < lst.length) = true := decide_eq_true hc9
            have HJM := Aside0.mk hc9
            have e5 : wrap64 ((j : Int) + 1) = ((j + 1 : Nat) : Int) := by unfold wrap64; omega
            clear hjn hll hc9
            go_wp2_with (first
              | (go_at_call 89; refine (spec_l00Own.calls Al cl set set _ (Kd.R_reads' HLr.out).2.2 (Kd.R_reads' HLr.out).2.1 (own_same set (by have := HLL.out; omega))).mono ?_; rintro e w41 ⟨v41, rfl, ho41, hb41⟩; have HO41 := Aside0.mk ho41; have HB41 := Aside0.mk hb41; clear ho41 hb41 c0r)
              | ((with_reducible refine gate_dst (N := 74) rfl ?_); refine Kd.R_lit (Kd.int .i64) _ 2 ?hg (N := 74) ?hd (xs := ([(j : Int)] : List Int)) (inner := [.int .i64 (j : Int)]) (ok := fun _ => True) (okp := fun _ => True) ?hr ?hp (fun _ hk => hk) trivial (Below.refl _ _) (Nat.le_refl _) (by simp) ?_; (case hd => rfl); (case hg => rfl); (case hr => first | (go_simp; done) | (go_simp; rfl)); (case hp => exact R_reps1 rfl); intro v42 w42 ho42 hb42 hg_ hnew_; clear hg_ hnew_; have HO42 := Aside0.mk ho42; have HO43 := Aside0.mk (Kd.R_below HO41.out hb42); have HB42 := Aside0.mk (below_step HB41.out hb42); obtain ⟨A42, c42, ev42⟩ := Kd.R_slice ho42; subst ev42; clear ho42 hb42)
              | ((with_reducible refine gate_builtin (b := .append) (xs := #[.tmp 72, .tmp 74]) rfl ?_); at_builtin; refine Kd.R_append_rows (Kd.int .i64) (w0 := wr) wr.heap.size rfl (.tmp 72) (.tmp 74) 30 2 (.int .i64 0) 8 rfl Try.underlying30 info2 rfl (by decide) (by omega) v41 set [(j : Int)] _ _ _ (fun _ => True) (fun _ => False) rfl rfl HO43.out ?aR (fun _ _ h => h) (fun _ h => h.elim) (fun _ _ => trivial) HB42.out (below_size HB42.out) ?aL ?_; (case aR => exact (Kd.R_reads' HO42.out).2.2); (case aL => have := HLL.out; simp; omega); intro v44 w44 ho hb hg hat; clear hg hat; have HO44 := Aside0.mk ho; have HB44 := Aside0.mk hb; obtain ⟨A44, c44, ev44⟩ := Kd.R_slice ho; have hLZ : (set ++ [((j : Nat) : Int)]).length = set.length + 1 := (by simp); rw [hLZ] at ev44; subst ev44; have HLZ := Aside0.mk hLZ; clear ho hb hLZ)
              | (go_at_call 74; refine calls_of_args (args' := #[.pointer (some ⟨gw, 0, none⟩), .slice A44 (set.length + 1) c44]) (by first | rfl | simp) ?_; have ih_ := IH.out (j + 1) A44 c44 (set ++ [((j : Nat) : Int)]) _ w44 (by have := HJN.out; have := HMI.out; omega) (by have := HJM.out; omega) (SetIn.snoc HSI.out HJN.out.1) (.inr ⟨set, j, rfl, rfl⟩) (HFr.out.below HB44.out) (by rw [HLZ.out]; exact sw_fresh HFr.out HO44.out); rw [HLZ.out] at ih_; refine ih_.mono ?_; clear ih_; rintro e w45 ⟨rfl, h45, k45⟩; have H45 := Aside0.mk h45; have HK45 := Aside0.mk k45; clear h45 k45))
            go_roundw
            case rel =>
              refine ⟨j + 1, by first | rfl | (simp; omega) | (congr 1; omega), ⟨by have := HJN.out; have := HJM.out; omega⟩, ⟨?_⟩, ⟨?_⟩, ⟨?_⟩⟩
              · rw [wk_next _ _ HJN.out.1]
                exact H45.out
              · exact Kd.R_kept (Kd.R_below HLr.out HB44.out) HK45.out (fun k h1 h2 => h1 h2)
              · exact Kept.then_ (Kept.below HKr.out HB44.out) HK45.out (fun k hk => .inl hk)
            case measure => exact wk_meas e5 (by have := HJM.out; have := HLL.out; omega)
          · have hcb : decide ((j : Int) < (lst.length : Int)) = false := decide_eq_false (by omega)
            have hcc : decide (j < lst.length) = false := decide_eq_false hc9
            have hq : j = lst.length := by omega
            clear hjn hll hc9
            go_wp2
            first | go_end0 | (simp only [Exit.inBlock, Exit.then]; refine bodyPost_ret (results_none rfl _ _ _) rfl ?_) | refine bodyPost_ret (results_none rfl _ _ _) rfl ?_
            have h := HFr.out
            rw [hq] at h
            rw [HW.out]
            exact ⟨by first | rfl | (simp; done), h, HKr.out⟩
      · skip
        have hq0 : set.length = pre.length + 1 := by rw [hs0]; simp
        have hl0 : decide ((0 : Int) < (set.length : Int)) = true := decide_eq_true (by omega)
        have hl1 : decide (0 < set.length) = true := decide_eq_true (by omega)
        obtain ⟨ad, hA, _⟩ := Kd.at_int HLC.out.2.2 ((pre.length : Nat) : Int) (by omega) (by omega)
        subst hA
        have hxf : ∀ W, Kd.R (Kd.int .i64) 2 W w0.heap.size (fun k => k ≠ gw) (.slice (some ad) set.length cl) set → W.cell? (ad.add pre.length) = some (.int .i64 ((j0 : Nat) : Int)) := fun W h => by rw [hs0] at h; exact sw_last h rfl
        have HXF := Aside0.mk hxf
        obtain ⟨q, hqq⟩ : ∃ z, pre.length = z := ⟨_, rfl⟩
        rw [hqq] at hq0 hxf HXF
        have e7 : wrap64 ((set.length : Int) - 1) = ((q : Nat) : Int) := by have := HLL.out; unfold wrap64; omega
        have HE8 := Aside0.mk (show wrap64 (((j0 : Nat) : Int) + 1) = ((i : Nat) : Int) from by have := HLL.out; unfold wrap64; omega)
        have p7 : (0 ≤ ((q : Nat) : Int)) = True := eq_true (by omega)
        have q7 : (((q : Nat) : Int) < (set.length : Int)) = True := eq_true (by omega)
        clear hxf hqq hq0
        have HI0 := Aside0.mk hi0
        clear hi0 hs0
        go_wp2_with (first
          | ((with_reducible refine gate_store (t := 30) (p := 45) rfl ?_); refine store_event (t := 30) (p := 45) (v := ?vo_w6) (w1 := (w31.setCell ⟨gw, 3, none⟩ (.slice (some ad) set.length cl))) ?hg ?ho ?hn ?hr ?_; (case ho => rfl); (case hg => rfl); (case hn => rfl); (case hr => first | (go_simp; done) | (go_simp; rfl)); intro w6 hw6; have HE6 := Aside0.mk hw6; have b2_ : w6.heap[gw]? = some (.cells #[.slice A lst.length cp, .int .i64 wd, .int .i64 mt, .slice (some ad) set.length cl, .int .i64 sl] 85 (0, 0)) := (by rw [hw6]; exact blk_put (cs := #[.slice A lst.length cp, .int .i64 wd, .int .i64 mt, vb, .int .i64 sl]) EV31.out 3 _ rfl); have cy4 : w6.cell? ⟨gw, 4, none⟩ = some (.int .i64 sl) := (blk_cell b2_ 4).trans rfl; have fy4 := blk_frozen b2_ 4; clear hw6 cy3 fy3 cs4 b2_)
          | ((with_reducible refine gate_store (t := 2) (p := 49) rfl ?_); refine store_event (t := 2) (p := 49) (v := ?vo_w7) (w1 := (w6.setCell ⟨gw, 4, none⟩ (.int .i64 fs))) ?hg ?ho ?hn ?hr ?_; (case ho => rfl); (case hg => rfl); (case hn => rfl); (case hr => first | (go_simp; done) | (go_simp; rfl)); intro w7 hw7; have HE7 := Aside0.mk hw7; have hx7 := HXF.out w7 (Kd.R_kept (Kd.R_below HL.out HB31.out) (SwW.store H31.out (Kd.R_below HL.out HB31.out) HE6.out HE7.out).2 (fun k h1 h2 => h1 h2)); clear hw7 cy4 fy4))
        have HFS := Aside0.mk (SwW.store H31.out (Kd.R_below HL.out HB31.out) HE6.out HE7.out).1
        have HKS := Aside0.mk (Kept.then_ (Kept.of_below HB31.out (fun k => k = gw)) (SwW.store H31.out (Kd.R_below HL.out HB31.out) HE6.out HE7.out).2 (fun k hk => .inl hk))
        clear hx7 e7 p7 q7
        go_loopw [7] (fun v7 wr => ∃ (j : Nat), v7 = .int .i64 (j : Int) ∧ Aside0 (i ≤ j ∧ j ≤ lst.length) ∧ Aside0 (SwW w0 gw A lst.length cp wd mt ((List.range' i (j - i)).foldl (fun s (j : Nat) => wk st fo lst.length m s (set ++ [(j : Int)]) (j + 1)) (set, fs)) wr) ∧ Aside0 (Kd.R (Kd.int .i64) 2 wr w0.heap.size (fun k => k ≠ gw) (.slice (some ad) set.length cl) set) ∧ Aside0 (Kept w wr (fun k => k = gw))) (fun v7 _ => (2000 - intOf v7).toNat)
        case atStart => exact ⟨i, by first | rfl | (rw [HE8.out]; done) | (rw [HI0.out]; rfl) | (rw [HI0.out]; done) | (rw [HI0.out, e8]; done) | (rw [HI0.out]; simp; done) | (rw [HI0.out]; simp [e8]; done) | (rw [HI0.out]; congr 1; omega) | trace_state, ⟨by have := HLL.out; omega⟩, ⟨by rw [show i - i = 0 from by omega]; exact HFS.out⟩, ⟨Kd.R_kept HL.out HKS.out (fun k h1 h2 => h1 h2)⟩, HKS⟩
        case round =>
          obtain ⟨j, rfl, HJN, HFr, HLr, HKr⟩ := hrel
          have c0r : wr.cell? ⟨gw, 0, none⟩ = some (.slice A lst.length cp) := HFr.out.c0
          have hjn := HJN.out
          have hll := HLL.out
          by_cases hc9 : j < lst.length
          · have hcb : decide ((j : Int) < (lst.length : Int)) = true := decide_eq_true (by omega)
            have hcc : decide (j < lst.length) = true := decide_eq_true hc9
            have HJM := Aside0.mk hc9
            have e5 : wrap64 ((j : Int) + 1) = ((j + 1 : Nat) : Int) := by unfold wrap64; omega
            clear hjn hll hc9
            go_wp2_with (first
              | (go_at_call 89; refine (spec_l00Own.calls (some ad) cl set set _ (Kd.R_reads' HLr.out).2.2 (Kd.R_reads' HLr.out).2.1 (own_same set (by have := HLL.out; omega))).mono ?_; rintro e w41 ⟨v41, rfl, ho41, hb41⟩; have HO41 := Aside0.mk ho41; have HB41 := Aside0.mk hb41; clear ho41 hb41 c0r)
              | ((with_reducible refine gate_dst (N := 74) rfl ?_); refine Kd.R_lit (Kd.int .i64) _ 2 ?hg (N := 74) ?hd (xs := ([(j : Int)] : List Int)) (inner := [.int .i64 (j : Int)]) (ok := fun _ => True) (okp := fun _ => True) ?hr ?hp (fun _ hk => hk) trivial (Below.refl _ _) (Nat.le_refl _) (by simp) ?_; (case hd => rfl); (case hg => rfl); (case hr => first | (go_simp; done) | (go_simp; rfl)); (case hp => exact R_reps1 rfl); intro v42 w42 ho42 hb42 hg_ hnew_; clear hg_ hnew_; have HO42 := Aside0.mk ho42; have HO43 := Aside0.mk (Kd.R_below HO41.out hb42); have HB42 := Aside0.mk (below_step HB41.out hb42); obtain ⟨A42, c42, ev42⟩ := Kd.R_slice ho42; subst ev42; clear ho42 hb42)
              | ((with_reducible refine gate_builtin (b := .append) (xs := #[.tmp 72, .tmp 74]) rfl ?_); at_builtin; refine Kd.R_append_rows (Kd.int .i64) (w0 := wr) wr.heap.size rfl (.tmp 72) (.tmp 74) 30 2 (.int .i64 0) 8 rfl Try.underlying30 info2 rfl (by decide) (by omega) v41 set [(j : Int)] _ _ _ (fun _ => True) (fun _ => False) rfl rfl HO43.out ?aR (fun _ _ h => h) (fun _ h => h.elim) (fun _ _ => trivial) HB42.out (below_size HB42.out) ?aL ?_; (case aR => exact (Kd.R_reads' HO42.out).2.2); (case aL => have := HLL.out; simp; omega); intro v44 w44 ho hb hg hat; clear hg hat; have HO44 := Aside0.mk ho; have HB44 := Aside0.mk hb; obtain ⟨A44, c44, ev44⟩ := Kd.R_slice ho; have hLZ : (set ++ [((j : Nat) : Int)]).length = set.length + 1 := (by simp); rw [hLZ] at ev44; subst ev44; have HLZ := Aside0.mk hLZ; clear ho hb hLZ)
              | (go_at_call 74; refine calls_of_args (args' := #[.pointer (some ⟨gw, 0, none⟩), .slice A44 (set.length + 1) c44]) (by first | rfl | simp) ?_; have ih_ := IH.out (j + 1) A44 c44 (set ++ [((j : Nat) : Int)]) _ w44 (by have := HJN.out; have := HMI.out; omega) (by have := HJM.out; omega) (SetIn.snoc HSI.out HJN.out.1) (.inr ⟨set, j, rfl, rfl⟩) (HFr.out.below HB44.out) (by rw [HLZ.out]; exact sw_fresh HFr.out HO44.out); rw [HLZ.out] at ih_; refine ih_.mono ?_; clear ih_; rintro e w45 ⟨rfl, h45, k45⟩; have H45 := Aside0.mk h45; have HK45 := Aside0.mk k45; clear h45 k45))
            go_roundw
            case rel =>
              refine ⟨j + 1, by first | rfl | (simp; omega) | (congr 1; omega), ⟨by have := HJN.out; have := HJM.out; omega⟩, ⟨?_⟩, ⟨?_⟩, ⟨?_⟩⟩
              · rw [wk_next _ _ HJN.out.1]
                exact H45.out
              · exact Kd.R_kept (Kd.R_below HLr.out HB44.out) HK45.out (fun k h1 h2 => h1 h2)
              · exact Kept.then_ (Kept.below HKr.out HB44.out) HK45.out (fun k hk => .inl hk)
            case measure => exact wk_meas e5 (by have := HJM.out; have := HLL.out; omega)
          · have hcb : decide ((j : Int) < (lst.length : Int)) = false := decide_eq_false (by omega)
            have hcc : decide (j < lst.length) = false := decide_eq_false hc9
            have hq : j = lst.length := by omega
            clear hjn hll hc9
            go_wp2
            first | go_end0 | (simp only [Exit.inBlock, Exit.then]; refine bodyPost_ret (results_none rfl _ _ _) rfl ?_) | refine bodyPost_ret (results_none rfl _ _ _) rfl ?_
            have h := HFr.out
            rw [hq] at h
            rw [HW.out]
            exact ⟨by first | rfl | (simp; done), h, HKr.out⟩
    · skip
      obtain ⟨hc, hw⟩ := hrest
      have HW := Aside0.mk hw
      clear hw
      go_wp2
      refine start_ (n := 15) (S := fun w' => w'.cell? ⟨gw, 0, none⟩ = some (.slice A lst.length cp) ∧ w'.cell? ⟨gw, 1, none⟩ = some (.int .i64 wd)) (ds := []) #[false, false, false, false, false, false, false, false, false, false, false, false, false, false, false] (by kernel_rfl) rfl rfl ⟨H21.out.c0, H21.out.c1⟩ (fun hHeld => ?_)
      have H30 := Aside0.mk (H21.out.below (below_drew1 (Below.refl _ _)))
      have HB30 := Aside0.mk (below_drew1 HB21.out)
      generalize w21.drew = w30 at H30 HB30 hHeld ⊢
      refine pure_ (i := 0) (N := some 24) (v := ?_) (a' := ?_) #[true, false, false, false, false, false, false, false, false, false, false, false, false, false, false] rfl rfl (by kernel_rfl) (fun _ _ _ h => h) (Or.inl ⟨by rfl, ?_⟩) ?_ ?_
      rotate_left
      · intro w'
        go_simp
        with_reducible rfl
      rotate_left
      · simp only [Act.put, List.setIfInBounds_toArray, List.set_cons_zero, List.set_cons_succ, i64_w, i32_w]
        rfl
      refine pure_ (i := 1) (N := some 25) (v := ?_) (a' := ?_) #[true, true, false, false, false, false, false, false, false, false, false, false, false, false, false] rfl rfl (by kernel_rfl) (fun _ _ _ h => h) (Or.inl ⟨by rfl, ?_⟩) ?_ ?_
      rotate_left
      · intro w'
        go_simp
        with_reducible rfl
      rotate_left
      · simp only [Act.put, List.setIfInBounds_toArray, List.set_cons_zero, List.set_cons_succ, i64_w, i32_w]
        rfl
      refine pure_ (i := 2) (N := some 26) (v := ?_) (a' := ?_) #[true, true, true, false, false, false, false, false, false, false, false, false, false, false, false] rfl rfl (by kernel_rfl) (fun _ _ _ h => h) (Or.inl ⟨by rfl, ?_⟩) ?_ ?_
      rotate_left
      · intro w'
        go_simp
        with_reducible rfl
      rotate_left
      · simp only [Act.put, List.setIfInBounds_toArray, List.set_cons_zero, List.set_cons_succ, i64_w, i32_w]
        rfl
      refine pure_ (i := 4) (N := some 28) (v := ?_) (a' := ?_) #[true, true, true, false, true, false, false, false, false, false, false, false, false, false, false] rfl rfl (by kernel_rfl) (fun _ _ _ h => h) (Or.inl ⟨by rfl, ?_⟩) ?_ ?_
      rotate_left
      · intro w'
        go_simp
        with_reducible rfl
      rotate_left
      · simp only [Act.put, List.setIfInBounds_toArray, List.set_cons_zero, List.set_cons_succ, i64_w, i32_w]
        rfl
      refine pure_ (i := 5) (N := some 29) (v := ?_) (a' := ?_) #[true, true, true, false, true, true, false, false, false, false, false, false, false, false, false] rfl rfl (by kernel_rfl) (fun _ _ _ h => h) (Or.inl ⟨by rfl, ?_⟩) ?_ ?_
      rotate_left
      · intro w'
        go_simp
        with_reducible rfl
      rotate_left
      · simp only [Act.put, List.setIfInBounds_toArray, List.set_cons_zero, List.set_cons_succ, i64_w, i32_w]
        rfl
      refine pure_ (i := 6) (N := some 30) (v := ?_) (a' := ?_) #[true, true, true, false, true, true, true, false, false, false, false, false, false, false, false] rfl rfl (by kernel_rfl) (fun _ _ _ h => h) (Or.inl ⟨by rfl, ?_⟩) ?_ ?_
      rotate_left
      · intro w'
        go_simp
        with_reducible rfl
      rotate_left
      · simp only [Act.put, List.setIfInBounds_toArray, List.set_cons_zero, List.set_cons_succ, i64_w, i32_w]
        rfl
      refine pure_ (i := 7) (N := some 31) (v := ?_) (a' := ?_) #[true, true, true, false, true, true, true, true, false, false, false, false, false, false, false] rfl rfl (by kernel_rfl) (fun _ _ _ h => h) (Or.inl ⟨by rfl, ?_⟩) ?_ ?_
      rotate_left
      · intro w'
        go_simp
        with_reducible rfl
      rotate_left
      · simp only [Act.put, List.setIfInBounds_toArray, List.set_cons_zero, List.set_cons_succ, i64_w, i32_w]
        rfl
      refine take_ (i := 3) (N := some 27) (v := ?_) (a' := ?_) #[true, true, true, true, true, true, true, true, false, false, false, false, false, false, false] rfl rfl (by kernel_rfl) (fun _ _ _ h => h) (Or.inl ⟨by rfl, ?_⟩) hHeld ?_ ?_
      rotate_left
      · rintro w' ⟨s0, s1⟩
        go_simp
        with_reducible rfl
      rotate_left
      · simp only [Act.put, List.setIfInBounds_toArray, List.set_cons_zero, List.set_cons_succ, i64_w, i32_w]
        rfl
      refine take_ (i := 8) (N := some 32) (v := ?_) (a' := ?_) #[true, true, true, true, true, true, true, true, true, false, false, false, false, false, false] rfl rfl (by kernel_rfl) (fun _ _ _ h => h) (Or.inl ⟨by rfl, ?_⟩) hHeld ?_ ?_
      rotate_left
      · rintro w' ⟨s0, s1⟩
        go_simp
        with_reducible rfl
      rotate_left
      · simp only [Act.put, List.setIfInBounds_toArray, List.set_cons_zero, List.set_cons_succ, i64_w, i32_w]
        rfl
      refine one_ (i := 9) (N := some 33) #[true, true, true, true, true, true, true, true, true, true, false, false, false, false, false] rfl rfl (by kernel_rfl) (by decide) (fun K hK => ?_)
      refine goes_ Try.func71 (by kernel_rfl) rfl #[.slice A lst.length cp, .slice Al set.length cl, .int .i64 wd] (by rfl) rfl rfl (by simp only [List.map_toArray, List.map_cons, List.map_nil]; rfl) ?_
      with_reducible refine (spec_l10Total.calls k2 A cp lst Al cl set wd fs r2 _ (Kd.C_below HRL.out H30.out.bel) hcL (Kd.C_below HLC.out.2.2 HB30.out) HLC.out.2.1 HE2.out).mono ?_
      rintro e w31 ⟨rfl, hb_⟩
      refine ⟨_, rfl, ?_⟩
      have H31 := Aside0.mk (H30.out.below hb_)
      have HB31 := Aside0.mk (below_step HB30.out hb_)
      clear hb_
      refine hK.out _ _ ⟨H31.out.c0, H31.out.c1⟩ (fun hHeld => ?_)
      clear hK K
      refine norm_ (a' := ?_) ?_ ?_
      rotate_left
      · show Act.put _ (some 33) _ = _
        simp only [Act.put, List.setIfInBounds_toArray, List.set_cons_zero, List.set_cons_succ, i64_w, i32_w]
        rfl
      refine pure_ (i := 10) (N := some 23) (v := ?_) (a' := ?_) #[true, true, true, true, true, true, true, true, true, true, true, false, false, false, false] rfl rfl (by kernel_rfl) (fun _ _ _ h => h) (Or.inl ⟨by rfl, ?_⟩) ?_ ?_
      rotate_left
      · intro w'
        go_simp
        with_reducible rfl
      rotate_left
      · simp only [Act.put, List.setIfInBounds_toArray, List.set_cons_zero, List.set_cons_succ, i64_w, i32_w]
        rfl
      refine pure_ (i := 11) (N := some 34) (v := ?_) (a' := ?_) #[true, true, true, true, true, true, true, true, true, true, true, true, false, false, false] rfl rfl (by kernel_rfl) (fun _ _ _ h => h) (Or.inl ⟨by rfl, ?_⟩) ?_ ?_
      rotate_left
      · intro w'
        go_simp
        with_reducible rfl
      rotate_left
      · simp only [Act.put, List.setIfInBounds_toArray, List.set_cons_zero, List.set_cons_succ, i64_w, i32_w]
        rfl
      refine pure_ (i := 12) (N := some 35) (v := ?_) (a' := ?_) #[true, true, true, true, true, true, true, true, true, true, true, true, true, false, false] rfl rfl (by kernel_rfl) (fun _ _ _ h => h) (Or.inl ⟨by rfl, ?_⟩) ?_ ?_
      rotate_left
      · intro w'
        go_simp
        with_reducible rfl
      rotate_left
      · simp only [Act.put, List.setIfInBounds_toArray, List.set_cons_zero, List.set_cons_succ, i64_w, i32_w]
        rfl
      refine pure_ (i := 13) (N := some 4) (v := ?_) (a' := ?_) #[true, true, true, true, true, true, true, true, true, true, true, true, true, true, false] rfl rfl (by kernel_rfl) (fun _ _ _ h => h) (Or.inl ⟨by rfl, ?_⟩) ?_ ?_
      rotate_left
      · intro w'
        go_simp
        with_reducible rfl
      rotate_left
      · simp only [Act.put, List.setIfInBounds_toArray, List.set_cons_zero, List.set_cons_succ, i64_w, i32_w]
        rfl
      refine pure_ (i := 14) (N := some 5) (v := ?_) (a' := ?_) #[true, true, true, true, true, true, true, true, true, true, true, true, true, true, true] rfl rfl (by kernel_rfl) (fun _ _ _ h => h) (Or.inl ⟨by rfl, ?_⟩) ?_ ?_
      rotate_left
      · intro w'
        go_simp
        with_reducible rfl
      rotate_left
      · simp only [Act.put, List.setIfInBounds_toArray, List.set_cons_zero, List.set_cons_succ, i64_w, i32_w]
        rfl
      refine done_ (by kernel_rfl) ?_
      obtain ⟨vb, ev31, _⟩ := H31.out.rest
      rw [HSL.out] at ev31
      have EV31 := Aside0.mk ev31
      have cs4 : w31.cell? ⟨gw, 4, none⟩ = some (.int .i64 sl) := (blk_cell ev31 4).trans rfl
      have cy3 : w31.cell? ⟨gw, 3, none⟩ = some vb := (blk_cell ev31 3).trans rfl
      have fy3 := blk_frozen ev31 3
      clear ev31
      rcases HTO.out with ⟨hs0, hi0⟩ | ⟨pre, j0, hs0, hi0⟩
      · skip
        have hl0 : decide ((0 : Int) < (set.length : Int)) = false := by rw [hs0]; rfl
        have hl1 : decide (0 < set.length) = false := by rw [hs0]; rfl
        have HI0 := Aside0.mk hi0
        clear hi0 hs0
        clear cy3 fy3
        go_wp2
        have HFS := Aside0.mk H31.out
        have HKS := Aside0.mk (Kept.of_below HB31.out (fun k => k = gw))
        clear cs4
        go_loopw [7] (fun v7 wr => ∃ (j : Nat), v7 = .int .i64 (j : Int) ∧ Aside0 (i ≤ j ∧ j ≤ lst.length) ∧ Aside0 (SwW w0 gw A lst.length cp wd mt ((List.range' i (j - i)).foldl (fun s (j : Nat) => wk st fo lst.length m s (set ++ [(j : Int)]) (j + 1)) s) wr) ∧ Aside0 (Kd.R (Kd.int .i64) 2 wr w0.heap.size (fun k => k ≠ gw) (.slice Al set.length cl) set) ∧ Aside0 (Kept w wr (fun k => k = gw))) (fun v7 _ => (2000 - intOf v7).toNat)
        case atStart => exact ⟨i, by first | rfl | (rw [HE8.out]; done) | (rw [HI0.out]; rfl) | (rw [HI0.out]; done) | (rw [HI0.out, e8]; done) | (rw [HI0.out]; simp; done) | (rw [HI0.out]; simp [e8]; done) | (rw [HI0.out]; congr 1; omega) | trace_state, ⟨by have := HLL.out; omega⟩, ⟨by rw [show i - i = 0 from by omega]; exact HFS.out⟩, ⟨Kd.R_kept HL.out HKS.out (fun k h1 h2 => h1 h2)⟩, HKS⟩
        case round =>
          obtain ⟨j, rfl, HJN, HFr, HLr, HKr⟩ := hrel
          have c0r : wr.cell? ⟨gw, 0, none⟩ = some (.slice A lst.length cp) := HFr.out.c0
          have hjn := HJN.out
          have hll := HLL.out
          by_cases hc9 : j < lst.length
          · have hcb : decide ((j : Int) < (lst.length : Int)) = true := decide_eq_true (by omega)
            have hcc : decide (j < lst.length) = true := decide_eq_true hc9
            have HJM := Aside0.mk hc9
            have e5 : wrap64 ((j : Int) + 1) = ((j + 1 : Nat) : Int) := by unfold wrap64; omega
            clear hjn hll hc9
            go_wp2_with (first
              | (go_at_call 89; refine (spec_l00Own.calls Al cl set set _ (Kd.R_reads' HLr.out).2.2 (Kd.R_reads' HLr.out).2.1 (own_same set (by have := HLL.out; omega))).mono ?_; rintro e w41 ⟨v41, rfl, ho41, hb41⟩; have HO41 := Aside0.mk ho41; have HB41 := Aside0.mk hb41; clear ho41 hb41 c0r)
              | ((with_reducible refine gate_dst (N := 74) rfl ?_); refine Kd.R_lit (Kd.int .i64) _ 2 ?hg (N := 74) ?hd (xs := ([(j : Int)] : List Int)) (inner := [.int .i64 (j : Int)]) (ok := fun _ => True) (okp := fun _ => True) ?hr ?hp (fun _ hk => hk) trivial (Below.refl _ _) (Nat.le_refl _) (by simp) ?_; (case hd => rfl); (case hg => rfl); (case hr => first | (go_simp; done) | (go_simp; rfl)); (case hp => exact R_reps1 rfl); intro v42 w42 ho42 hb42 hg_ hnew_; clear hg_ hnew_; have HO42 := Aside0.mk ho42; have HO43 := Aside0.mk (Kd.R_below HO41.out hb42); have HB42 := Aside0.mk (below_step HB41.out hb42); obtain ⟨A42, c42, ev42⟩ := Kd.R_slice ho42; subst ev42; clear ho42 hb42)
              | ((with_reducible refine gate_builtin (b := .append) (xs := #[.tmp 72, .tmp 74]) rfl ?_); at_builtin; refine Kd.R_append_rows (Kd.int .i64) (w0 := wr) wr.heap.size rfl (.tmp 72) (.tmp 74) 30 2 (.int .i64 0) 8 rfl Try.underlying30 info2 rfl (by decide) (by omega) v41 set [(j : Int)] _ _ _ (fun _ => True) (fun _ => False) rfl rfl HO43.out ?aR (fun _ _ h => h) (fun _ h => h.elim) (fun _ _ => trivial) HB42.out (below_size HB42.out) ?aL ?_; (case aR => exact (Kd.R_reads' HO42.out).2.2); (case aL => have := HLL.out; simp; omega); intro v44 w44 ho hb hg hat; clear hg hat; have HO44 := Aside0.mk ho; have HB44 := Aside0.mk hb; obtain ⟨A44, c44, ev44⟩ := Kd.R_slice ho; have hLZ : (set ++ [((j : Nat) : Int)]).length = set.length + 1 := (by simp); rw [hLZ] at ev44; subst ev44; have HLZ := Aside0.mk hLZ; clear ho hb hLZ)
              | (go_at_call 74; refine calls_of_args (args' := #[.pointer (some ⟨gw, 0, none⟩), .slice A44 (set.length + 1) c44]) (by first | rfl | simp) ?_; have ih_ := IH.out (j + 1) A44 c44 (set ++ [((j : Nat) : Int)]) _ w44 (by have := HJN.out; have := HMI.out; omega) (by have := HJM.out; omega) (SetIn.snoc HSI.out HJN.out.1) (.inr ⟨set, j, rfl, rfl⟩) (HFr.out.below HB44.out) (by rw [HLZ.out]; exact sw_fresh HFr.out HO44.out); rw [HLZ.out] at ih_; refine ih_.mono ?_; clear ih_; rintro e w45 ⟨rfl, h45, k45⟩; have H45 := Aside0.mk h45; have HK45 := Aside0.mk k45; clear h45 k45))
            go_roundw
            case rel =>
              refine ⟨j + 1, by first | rfl | (simp; omega) | (congr 1; omega), ⟨by have := HJN.out; have := HJM.out; omega⟩, ⟨?_⟩, ⟨?_⟩, ⟨?_⟩⟩
              · rw [wk_next _ _ HJN.out.1]
                exact H45.out
              · exact Kd.R_kept (Kd.R_below HLr.out HB44.out) HK45.out (fun k h1 h2 => h1 h2)
              · exact Kept.then_ (Kept.below HKr.out HB44.out) HK45.out (fun k hk => .inl hk)
            case measure => exact wk_meas e5 (by have := HJM.out; have := HLL.out; omega)
          · have hcb : decide ((j : Int) < (lst.length : Int)) = false := decide_eq_false (by omega)
            have hcc : decide (j < lst.length) = false := decide_eq_false hc9
            have hq : j = lst.length := by omega
            clear hjn hll hc9
            go_wp2
            first | go_end0 | (simp only [Exit.inBlock, Exit.then]; refine bodyPost_ret (results_none rfl _ _ _) rfl ?_) | refine bodyPost_ret (results_none rfl _ _ _) rfl ?_
            have h := HFr.out
            rw [hq] at h
            rw [HW.out]
            exact ⟨by first | rfl | (simp; done), h, HKr.out⟩
      · skip
        have hq0 : set.length = pre.length + 1 := by rw [hs0]; simp
        have hl0 : decide ((0 : Int) < (set.length : Int)) = true := decide_eq_true (by omega)
        have hl1 : decide (0 < set.length) = true := decide_eq_true (by omega)
        obtain ⟨ad, hA, _⟩ := Kd.at_int HLC.out.2.2 ((pre.length : Nat) : Int) (by omega) (by omega)
        subst hA
        have hxf : ∀ W, Kd.R (Kd.int .i64) 2 W w0.heap.size (fun k => k ≠ gw) (.slice (some ad) set.length cl) set → W.cell? (ad.add pre.length) = some (.int .i64 ((j0 : Nat) : Int)) := fun W h => by rw [hs0] at h; exact sw_last h rfl
        have HXF := Aside0.mk hxf
        obtain ⟨q, hqq⟩ : ∃ z, pre.length = z := ⟨_, rfl⟩
        rw [hqq] at hq0 hxf HXF
        have e7 : wrap64 ((set.length : Int) - 1) = ((q : Nat) : Int) := by have := HLL.out; unfold wrap64; omega
        have HE8 := Aside0.mk (show wrap64 (((j0 : Nat) : Int) + 1) = ((i : Nat) : Int) from by have := HLL.out; unfold wrap64; omega)
        have p7 : (0 ≤ ((q : Nat) : Int)) = True := eq_true (by omega)
        have q7 : (((q : Nat) : Int) < (set.length : Int)) = True := eq_true (by omega)
        clear hxf hqq hq0
        have HI0 := Aside0.mk hi0
        clear hi0 hs0
        clear cy3 fy3
        have hx7 := HXF.out w31 (Kd.R_below HL.out HB31.out)
        go_wp2
        have HFS := Aside0.mk H31.out
        have HKS := Aside0.mk (Kept.of_below HB31.out (fun k => k = gw))
        clear cs4
        clear hx7 e7 p7 q7
        go_loopw [7] (fun v7 wr => ∃ (j : Nat), v7 = .int .i64 (j : Int) ∧ Aside0 (i ≤ j ∧ j ≤ lst.length) ∧ Aside0 (SwW w0 gw A lst.length cp wd mt ((List.range' i (j - i)).foldl (fun s (j : Nat) => wk st fo lst.length m s (set ++ [(j : Int)]) (j + 1)) s) wr) ∧ Aside0 (Kd.R (Kd.int .i64) 2 wr w0.heap.size (fun k => k ≠ gw) (.slice (some ad) set.length cl) set) ∧ Aside0 (Kept w wr (fun k => k = gw))) (fun v7 _ => (2000 - intOf v7).toNat)
        case atStart => exact ⟨i, by first | rfl | (rw [HE8.out]; done) | (rw [HI0.out]; rfl) | (rw [HI0.out]; done) | (rw [HI0.out, e8]; done) | (rw [HI0.out]; simp; done) | (rw [HI0.out]; simp [e8]; done) | (rw [HI0.out]; congr 1; omega) | trace_state, ⟨by have := HLL.out; omega⟩, ⟨by rw [show i - i = 0 from by omega]; exact HFS.out⟩, ⟨Kd.R_kept HL.out HKS.out (fun k h1 h2 => h1 h2)⟩, HKS⟩
        case round =>
          obtain ⟨j, rfl, HJN, HFr, HLr, HKr⟩ := hrel
          have c0r : wr.cell? ⟨gw, 0, none⟩ = some (.slice A lst.length cp) := HFr.out.c0
          have hjn := HJN.out
          have hll := HLL.out
          by_cases hc9 : j < lst.length
          · have hcb : decide ((j : Int) < (lst.length : Int)) = true := decide_eq_true (by omega)
            have hcc : decide (j < lst.length) = true := decide_eq_true hc9
            have HJM := Aside0.mk hc9
            have e5 : wrap64 ((j : Int) + 1) = ((j + 1 : Nat) : Int) := by unfold wrap64; omega
            clear hjn hll hc9
            go_wp2_with (first
              | (go_at_call 89; refine (spec_l00Own.calls (some ad) cl set set _ (Kd.R_reads' HLr.out).2.2 (Kd.R_reads' HLr.out).2.1 (own_same set (by have := HLL.out; omega))).mono ?_; rintro e w41 ⟨v41, rfl, ho41, hb41⟩; have HO41 := Aside0.mk ho41; have HB41 := Aside0.mk hb41; clear ho41 hb41 c0r)
              | ((with_reducible refine gate_dst (N := 74) rfl ?_); refine Kd.R_lit (Kd.int .i64) _ 2 ?hg (N := 74) ?hd (xs := ([(j : Int)] : List Int)) (inner := [.int .i64 (j : Int)]) (ok := fun _ => True) (okp := fun _ => True) ?hr ?hp (fun _ hk => hk) trivial (Below.refl _ _) (Nat.le_refl _) (by simp) ?_; (case hd => rfl); (case hg => rfl); (case hr => first | (go_simp; done) | (go_simp; rfl)); (case hp => exact R_reps1 rfl); intro v42 w42 ho42 hb42 hg_ hnew_; clear hg_ hnew_; have HO42 := Aside0.mk ho42; have HO43 := Aside0.mk (Kd.R_below HO41.out hb42); have HB42 := Aside0.mk (below_step HB41.out hb42); obtain ⟨A42, c42, ev42⟩ := Kd.R_slice ho42; subst ev42; clear ho42 hb42)
              | ((with_reducible refine gate_builtin (b := .append) (xs := #[.tmp 72, .tmp 74]) rfl ?_); at_builtin; refine Kd.R_append_rows (Kd.int .i64) (w0 := wr) wr.heap.size rfl (.tmp 72) (.tmp 74) 30 2 (.int .i64 0) 8 rfl Try.underlying30 info2 rfl (by decide) (by omega) v41 set [(j : Int)] _ _ _ (fun _ => True) (fun _ => False) rfl rfl HO43.out ?aR (fun _ _ h => h) (fun _ h => h.elim) (fun _ _ => trivial) HB42.out (below_size HB42.out) ?aL ?_; (case aR => exact (Kd.R_reads' HO42.out).2.2); (case aL => have := HLL.out; simp; omega); intro v44 w44 ho hb hg hat; clear hg hat; have HO44 := Aside0.mk ho; have HB44 := Aside0.mk hb; obtain ⟨A44, c44, ev44⟩ := Kd.R_slice ho; have hLZ : (set ++ [((j : Nat) : Int)]).length = set.length + 1 := (by simp); rw [hLZ] at ev44; subst ev44; have HLZ := Aside0.mk hLZ; clear ho hb hLZ)
              | (go_at_call 74; refine calls_of_args (args' := #[.pointer (some ⟨gw, 0, none⟩), .slice A44 (set.length + 1) c44]) (by first | rfl | simp) ?_; have ih_ := IH.out (j + 1) A44 c44 (set ++ [((j : Nat) : Int)]) _ w44 (by have := HJN.out; have := HMI.out; omega) (by have := HJM.out; omega) (SetIn.snoc HSI.out HJN.out.1) (.inr ⟨set, j, rfl, rfl⟩) (HFr.out.below HB44.out) (by rw [HLZ.out]; exact sw_fresh HFr.out HO44.out); rw [HLZ.out] at ih_; refine ih_.mono ?_; clear ih_; rintro e w45 ⟨rfl, h45, k45⟩; have H45 := Aside0.mk h45; have HK45 := Aside0.mk k45; clear h45 k45))
            go_roundw
            case rel =>
              refine ⟨j + 1, by first | rfl | (simp; omega) | (congr 1; omega), ⟨by have := HJN.out; have := HJM.out; omega⟩, ⟨?_⟩, ⟨?_⟩, ⟨?_⟩⟩
              · rw [wk_next _ _ HJN.out.1]
                exact H45.out
              · exact Kd.R_kept (Kd.R_below HLr.out HB44.out) HK45.out (fun k h1 h2 => h1 h2)
              · exact Kept.then_ (Kept.below HKr.out HB44.out) HK45.out (fun k hk => .inl hk)
            case measure => exact wk_meas e5 (by have := HJM.out; have := HLL.out; omega)
          · have hcb : decide ((j : Int) < (lst.length : Int)) = false := decide_eq_false (by omega)
            have hcc : decide (j < lst.length) = false := decide_eq_false hc9
            have hq : j = lst.length := by omega
            clear hjn hll hc9
            go_wp2
            first | go_end0 | (simp only [Exit.inBlock, Exit.then]; refine bodyPost_ret (results_none rfl _ _ _) rfl ?_) | refine bodyPost_ret (results_none rfl _ _ _) rfl ?_
            have h := HFr.out
            rw [hq] at h
            rw [HW.out]
            exact ⟨by first | rfl | (simp; done), h, HKr.out⟩
/-! by hand: spec.BestSet -/
noncomputable def stS (l : List S27) (wd mt : Int) (set : List Int) : Bool := theOf false (fun k => spec_l10Stand.f k l set wd mt)
noncomputable def foS (l : List S27) (wd : Int) (set : List Int) : Int := (theOf (0, 0) (fun k => spec_l10Total.f k l set wd)).1
def SpOk (l : List S27) (wd mt : Int) : Prop := l.length ≤ 1024 ∧ ∀ set i, SetIn set i → i ≤ l.length → (∃ b, ∃ k, spec_l10Stand.f k l set wd mt = some b) ∧ ∃ r, ∃ k, spec_l10Total.f k l set wd = some r
noncomputable def bestS (l : List S27) (wd mt : Int) : List Int × Int := wk (stS l wd mt) (foS l wd) l.length (l.length + 1) ([], -1) [] 0
theorem SpOk.st {l : List S27} {wd mt : Int} (h : SpOk l wd mt) (set : List Int) (i : Nat) (h1 : SetIn set i) (h2 : i ≤ l.length) : (∃ k, spec_l10Stand.f k l set wd mt = some (stS l wd mt set)) ∧ ∃ k r2, spec_l10Total.f k l set wd = some (foS l wd set, r2) := by
  obtain ⟨⟨b, k1, e1⟩, ⟨r, k2, e2⟩⟩ := h.2 set i h1 h2
  refine ⟨⟨k1, ?_⟩, k2, r.2, ?_⟩
  · rw [e1]; unfold stS; rw [theOf_eq (fun k => spec_l10Stand.mono _ _ _ _ k) ⟨k1, e1⟩]
  · rw [e2]; unfold foS; rw [theOf_eq (fun k => spec_l10Total.mono _ _ _ k) ⟨k2, e2⟩]
open Classical in
noncomputable def spec_BestSet.f (k : Nat) (l0 : List S27) (a1 a2 : Int) : Option (List Int × Int × Int) :=
  (spec_l10Code.f k l0 [] a1).bind fun c => if c = 0 then ((spec_l10Moment.f a2).bind fun b => if b = true then (if SpOk l0 a1 a2 then some ((bestS l0 a1 a2).1, (bestS l0 a1 a2).2, 0) else none) else some ([], 0, 2)) else some ([], 0, c)
theorem spec_BestSet.mono : ∀ a0 a1 a2 k, LeO (spec_BestSet.f k a0 a1 a2) (spec_BestSet.f (k + 1) a0 a1 a2) := by
  intro a0 a1 a2 k r h
  unfold spec_BestSet.f at h ⊢
  obtain ⟨v, h1, h2⟩ := Option.bind_eq_some_iff.mp h
  exact Option.bind_eq_some_iff.mpr ⟨v, spec_l10Code.mono _ _ _ _ _ h1, h2⟩
theorem spec_BestSet.cases {k : Nat} {l0 : List S27} {a1 a2 : Int} {r1 : List Int} {r2 r3 : Int} (h : spec_BestSet.f k l0 a1 a2 = some (r1, r2, r3)) : ∃ c, spec_l10Code.f k l0 [] a1 = some c ∧ ((c ≠ 0 ∧ r1 = [] ∧ r2 = 0 ∧ r3 = c) ∨ (c = 0 ∧ spec_l10Moment.f a2 = some false ∧ r1 = [] ∧ r2 = 0 ∧ r3 = 2) ∨ (c = 0 ∧ spec_l10Moment.f a2 = some true ∧ SpOk l0 a1 a2 ∧ bestS l0 a1 a2 = (r1, r2) ∧ r3 = 0)) := by
  unfold spec_BestSet.f at h
  obtain ⟨c, hc, H⟩ := Option.bind_eq_some_iff.mp h
  refine ⟨c, hc, ?_⟩
  by_cases h0 : c = 0
  · rw [if_pos h0] at H
    obtain ⟨b, hb, H⟩ := Option.bind_eq_some_iff.mp H
    cases b with
    | false => simp at H; exact .inr (.inl ⟨h0, hb, by rw [← H.1], H.2.1.symm, H.2.2.symm⟩)
    | true =>
      rw [if_pos rfl] at H
      by_cases ho : SpOk l0 a1 a2
      · rw [if_pos ho] at H; simp at H; exact .inr (.inr ⟨h0, hb, ho, by rw [← H.1, ← H.2.1], H.2.2.symm⟩)
      · rw [if_neg ho] at H; simp at H
  · rw [if_neg h0] at H; simp at H; exact .inl ⟨h0, by rw [← H.1], H.2.1.symm, H.2.2.symm⟩
set_option maxHeartbeats 8000000 in
set_option maxRecDepth 100000 in
theorem spec_BestSet.calls (k : Nat) (A0 : Option Addr) (c0 : Nat) (l0 : List S27) (a1 a2 : Int) (r1 : List Int) (r2 r3 : Int) (w : World) (hr0 : Kd.C k27 w A0 l0.length l0) (hc0 : l0.length ≤ c0) (h : spec_BestSet.f k l0 a1 a2 = some (r1, r2, r3)) :
    Calls Try.prog 38 #[.slice A0 l0.length c0, .int .i64 a1, .int .i64 a2] w fun e w' => ∃ v0_ : Value, e = .returned (.tuple #[v0_, .int .i64 r2, .int .i64 r3]) ∧ Kd.R (Kd.int .i64) 2 w' w.heap.size (fun _ => True) v0_ r1 ∧ Below w.heap.size w w' := by
  have hu30 := Try.underlying30
  have hu85 := Try.underlying85
  have HR0 := Aside0.mk hr0
  clear hr0
  obtain ⟨c, hc, hcases⟩ := spec_BestSet.cases h
  clear h
  have HC := Aside0.mk hc
  clear hc
  rcases hcases with ⟨hne, rfl, rfl, rfl⟩ | ⟨rfl, hmo, rfl, rfl, rfl⟩ | ⟨rfl, hmo, hok, hbest, rfl⟩
  · have hnb : (r3 != 0) = true := bne_iff_ne.mpr hne
    have hnd : (r3 == 0) = false := beq_eq_false_iff_ne.mpr hne
    clear hne
    go_enter Try.func38, Try.ntmps38
    go_wp2_with (first
      | ((with_reducible refine gate_dst (N := 12) rfl ?_); refine Kd.R_lit (Kd.int .i64) _ 2 ?hg (N := 12) ?hd (xs := ([] : List Int)) (inner := []) (ok := fun _ => True) (okp := fun _ => True) ?hr ?hp (fun _ hk => hk) trivial (Below.refl _ _) (Nat.le_refl _) (by simp) ?_; (case hd => rfl); (case hg => rfl); (case hr => first | (go_simp; done) | (go_simp; rfl)); (case hp => exact (Reps.none _ _)); intro v1 w1 ho1 hb1 hg_ hnew_; clear hg_ hnew_; have HB1 := Aside0.mk hb1; obtain ⟨A1, c1, ev1⟩ := Kd.R_slice ho1; subst ev1; have HV := Aside0.mk (Kd.R_reads' ho1); clear ho1 hb1)
      | (go_at_call 70; refine (spec_l10Code.calls k A0 c0 l0 A1 c1 [] a1 r3 _ (Kd.C_below HR0.out HB1.out) hc0 HV.out.2.2 HV.out.2.1 HC.out).mono ?_; rintro e w2 ⟨rfl, hb2⟩; have HB2 := Aside0.mk (below_step HB1.out hb2); clear hb2))
    go_ret3
    exact ⟨_, by first | rfl | (simp; done), Kd.R_nil _ _ _ _ _, HB2.out⟩
  · have HMO := Aside0.mk hmo
    clear hmo
    go_enter Try.func38, Try.ntmps38
    go_wp2_with (first
      | ((with_reducible refine gate_dst (N := 12) rfl ?_); refine Kd.R_lit (Kd.int .i64) _ 2 ?hg (N := 12) ?hd (xs := ([] : List Int)) (inner := []) (ok := fun _ => True) (okp := fun _ => True) ?hr ?hp (fun _ hk => hk) trivial (Below.refl _ _) (Nat.le_refl _) (by simp) ?_; (case hd => rfl); (case hg => rfl); (case hr => first | (go_simp; done) | (go_simp; rfl)); (case hp => exact (Reps.none _ _)); intro v1 w1 ho1 hb1 hg_ hnew_; clear hg_ hnew_; have HB1 := Aside0.mk hb1; obtain ⟨A1, c1, ev1⟩ := Kd.R_slice ho1; subst ev1; have HV := Aside0.mk (Kd.R_reads' ho1); clear ho1 hb1)
      | (go_at_call 70; refine (spec_l10Code.calls k A0 c0 l0 A1 c1 [] a1 0 _ (Kd.C_below HR0.out HB1.out) hc0 HV.out.2.2 HV.out.2.1 HC.out).mono ?_; rintro e w2 ⟨rfl, hb2⟩; have HB2 := Aside0.mk (below_step HB1.out hb2); clear hb2)
      | (go_at_call 72; refine (spec_l10Moment.calls a2 false _ HMO.out).mono ?_; rintro e w' ⟨rfl, ⟨nd, rfl⟩⟩))
    go_ret3
    exact ⟨_, by first | rfl | (simp; done), Kd.R_nil _ _ _ _ _, by repeat (first | (with_reducible first | exact HB2.out | apply pw_below_drewN | apply below_drew1) | exact HB2.out)⟩
  · have HMO := Aside0.mk hmo
    have HOK := Aside0.mk hok
    have HBEST := Aside0.mk hbest
    clear hmo hok hbest
    go_enter Try.func38, Try.ntmps38
    go_wp2_with (first
      | ((with_reducible refine gate_dst (N := 12) rfl ?_); refine Kd.R_lit (Kd.int .i64) _ 2 ?hg (N := 12) ?hd (xs := ([] : List Int)) (inner := []) (ok := fun _ => True) (okp := fun _ => True) ?hr ?hp (fun _ hk => hk) trivial (Below.refl _ _) (Nat.le_refl _) (by simp) ?_; (case hd => rfl); (case hg => rfl); (case hr => first | (go_simp; done) | (go_simp; rfl)); (case hp => exact (Reps.none _ _)); intro v1 w1 ho1 hb1 hg_ hnew_; clear hg_ hnew_; have HB1 := Aside0.mk hb1; obtain ⟨A1, c1, ev1⟩ := Kd.R_slice ho1; subst ev1; have HV := Aside0.mk (Kd.R_reads' ho1); clear ho1 hb1)
      | (go_at_call 70; refine (spec_l10Code.calls k A0 c0 l0 A1 c1 [] a1 0 _ (Kd.C_below HR0.out HB1.out) hc0 HV.out.2.2 HV.out.2.1 HC.out).mono ?_; rintro e w2 ⟨rfl, hb2⟩; have HB2 := Aside0.mk (below_step HB1.out hb2); clear hb2)
      | (go_at_call 72; refine (spec_l10Moment.calls a2 true _ HMO.out).mono ?_; rintro e w' ⟨rfl, hdr⟩; have HB3 := Aside0.mk (show Below w.heap.size w w' from by obtain ⟨nd, rfl⟩ := hdr; exact pw_below_drewN HB2.out _); clear hdr)
      | ((with_reducible refine gate_dst (N := 29) rfl ?_); refine box_event ?hg (N := 29) ?hd (cs := #[.slice A0 l0.length c0, .int .i64 a1, .int .i64 a2, .slice none 0 0, .int .i64 (-1)]) (t := 85) ?hr ?_; (case hd => rfl); (case hg => rfl); (case hr => first | (go_simp; done) | (go_simp; rfl)); intro g1 hg1 w4 hb4 hl4; have HB4 := Aside0.mk (below_step HB3.out hl4); have B4 := Aside0.mk hb4; have G1 := Aside0.mk (show w.heap.size ≤ g1 from by rw [hg1]; exact below_size HB3.out); clear hb4 hl4 hg1)
      | ((with_reducible refine gate_dst (N := 31) rfl ?_); refine Kd.R_lit (Kd.int .i64) _ 2 ?hg (N := 31) ?hd (xs := ([] : List Int)) (inner := []) (ok := fun _ => True) (okp := fun _ => True) ?hr ?hp (fun _ hk => hk) trivial (Below.refl _ _) (Nat.le_refl _) (by simp) ?_; (case hd => rfl); (case hg => rfl); (case hr => first | (go_simp; done) | (go_simp; rfl)); (case hp => exact (Reps.none _ _)); intro v5 w5 ho5 hb5 hg_ hnew_; clear hg_ hnew_; have HS4 : SwW w g1 A0 l0.length c0 a1 a2 ([], -1) w4 := ⟨⟨_, B4.out, Kd.R_nil _ _ _ _ _⟩, HB4.out, G1.out⟩; have HO5 := Aside0.mk (sw_fresh HS4 ho5); have HS5 := Aside0.mk (HS4.below hb5); obtain ⟨A5, c5, ev5⟩ := Kd.R_slice ho5; subst ev5; clear ho5 hb5 HS4)
      | (go_at_call 74; refine calls_of_args (args' := #[.pointer (some ⟨g1, 0, none⟩), .slice A5 ([] : List Int).length c5]) (by first | rfl | simp) ?_; refine (walkS_calls w g1 A0 c0 l0 a1 a2 HOK.out.1 HR0.out hc0 (stS l0 a1 a2) (foS l0 a1) (fun set i h1 h2 => HOK.out.st set i h1 h2) (l0.length + 1) 0 A5 c5 [] ([], -1) w5 (by omega) (by omega) ⟨by simp, by simp⟩ (.inl ⟨rfl, rfl⟩) HS5.out HO5.out).mono ?_; rintro e w9 ⟨rfl, hF9, _⟩; have hbe := HBEST.out; unfold bestS at hbe; rw [hbe] at hF9; have HB9 := Aside0.mk hF9.bel; have cv4 : w9.cell? ⟨g1, 4, none⟩ = some (.int .i64 r2) := hF9.c4; obtain ⟨vb, e1_, e2_⟩ := hF9.rest; obtain ⟨A9, c9, ev9⟩ := Kd.R_slice e2_; subst ev9; have HR9 := Aside0.mk e2_; have cv3 : w9.cell? ⟨g1, 3, none⟩ = some (.slice A9 r1.length c9) := (blk_cell e1_ 3).trans rfl; clear hbe hF9 e1_ e2_))
    repeat (go_quiet (fail); try go_wp2)
    go_ret3
    exact ⟨_, by first | rfl | (simp; done), by (with_reducible repeat (first | apply Kd.R_drewN | apply Kd.R_drew)); exact Kd.R_mono HR9.out (fun _ _ => trivial), by repeat (first | (with_reducible first | exact HB9.out | apply pw_below_drewN | apply below_drew1) | exact HB9.out)⟩

end
end Go.Proofs.Ythbfpkagjobgiaa.PFnExactBestSet
