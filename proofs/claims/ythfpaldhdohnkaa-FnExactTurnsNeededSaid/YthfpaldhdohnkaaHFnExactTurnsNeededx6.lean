/- The walks of the functions that the law reaches: each computes what its Lean function says. No condition beyond each contract's own. -/
import Derived.Test.YthfpaldhdohnkaaHFnExactTurnsNeededx0
import Derived.Test.YthfpaldhdohnkaaHFnExactTurnsNeededx2
import Derived.Test.YthfpaldhdohnkaaHFnExactTurnsNeededx4
import Derived.Test.YthfpaldhdohnkaaHFnExactTurnsNeededx5
namespace Go.Proofs.Ythfpaldhdohnkaa.PFnExactTurnsNeeded
open Go.RowKit Go.Proofs.YthfpaldhdohnkaaW.PrintWords Go.Proofs.YthfpaldhdohnkaaW.PrintLast Go.Proofs.YthfpaldhdohnkaaW.PrintMore
attribute [local go_sem] max2_int min2_int max_two min_two max_three min_three max_four min_four   -- for this text's walks alone
set_option linter.unusedVariables false
set_option linter.unusedSimpArgs false

/-! ### spec_TurnsNeeded: function 45 -/
/-! by hand: (*l12W).walk, over whatever its cost computes -/
structure SpJ (w0 : World) (gt gw : Nat) (A0 : Option Addr) (n0 c0 : Nat) (A1 : Option Addr) (n1 c1 : Nat) (lv hv : Value) (M : Nat) (s : List Int × Int) (w : World) : Prop where
  b0 : w.heap[gt]? = some (.cells #[.slice A0 n0 c0, .slice A1 n1 c1] 27 (0, 0))
  rest : ∃ vb, w.heap[gw]? = some (.cells #[.pointer (some ⟨gt, 0, none⟩), lv, hv, vb, .int .i64 s.2] 75 (0, 0)) ∧ Kd.R (Kd.int .i64) 2 w w0.heap.size (fun k => M ≤ k) vb s.1
theorem SpJ.kept {w0 w w' : World} {gt gw : Nat} {A0 : Option Addr} {n0 c0 : Nat} {A1 : Option Addr} {n1 c1 : Nat} {lv hv : Value} {M : Nat} {s : List Int × Int} {S : Nat → Prop} (h : SpJ w0 gt gw A0 n0 c0 A1 n1 c1 lv hv M s w) (hk : Kept w w' S) (h0 : ¬ S gt) (h1 : ¬ S gw) (hN : ∀ k, M ≤ k → ¬ S k) : SpJ w0 gt gw A0 n0 c0 A1 n1 c1 lv hv M s w' := by
  obtain ⟨vb, e1, e2⟩ := h.rest
  exact ⟨blk_kept h.b0 hk h0, vb, blk_kept e1 hk h1, Kd.R_kept e2 hk hN⟩
def stepC (costF : List Int → Int) (s : List Int × Int) (tn : List Int) : List Int × Int :=
  if 0 ≤ costF tn ∧ (s.2 < 0 ∨ costF tn < s.2) then (tn, costF tn) else s
theorem R_fit1 {P : Program} {ops : Array Oper} {rest : List Oper} {o : Oper} {a : Act} {Q : Exit → Act → World → Prop} {W : World} (hgd : o.guard = none) (s x : Operand) (t e : TypeId) {z : Value} {bytes : Nat}
    (hop : o.op = Op.call { callee := Callee.builtin Builtin.append, args := #[s, x], argTypes := #[t, t] }) (ht : P.underlying t = some (.slice e)) (hinfo : (P.info? e).map (fun i => (i.zero, i.size, i.bytes)) = some (some z, 1, bytes))
    (base : Nat) (ok ok2 : Nat → Prop) (base2 : Nat) (g i cap c : Nat) (A : Option Addr) (pre : List Int) (v : Int) (hs : a.eval s = .slice (some ⟨g, 0, none⟩) i cap) (hx : a.eval x = .slice A 1 c) (hi : pre.length = i)
    (HO : Kd.R (Kd.int .i64) e W base ok (.slice (some ⟨g, 0, none⟩) i cap) pre) (HX : Kd.R (Kd.int .i64) e W base2 ok2 (.slice A 1 c) [v]) (hc : i + 1 ≤ cap)
    (h : ∀ w1, Kd.R (Kd.int .i64) e w1 base ok (.slice (some ⟨g, 0, none⟩) (i + 1) cap) (pre ++ [v]) → W.grownBy w1 (some g) → wpList P ops Q rest (a.put o.dst (.slice (some ⟨g, 0, none⟩) (i + 1) cap)) w1) : wpList P ops Q (o :: rest) a W := by
  obtain ⟨i0, hi0, hzz⟩ := Option.map_eq_some_iff.1 hinfo
  simp only [Prod.mk.injEq] at hzz
  obtain ⟨h0, inner, ho, hr⟩ := HO
  obtain ⟨gx, rfl⟩ := R_some HX (by omega)
  have hcx : W.cell? ⟨gx, 0, none⟩ = some (.int .i64 v) := (Kd.R_celln 0 HX 0 (by omega) (by simp)).1
  subst hi
  refine wpList_append_fits W hgd s x t hop base e i0 1 ht hi0 hzz.2.1 g pre.length cap inner hs ho ⟨gx, 0, none⟩ 1 c [.int .i64 v] hx rfl ?_ ?_ hc ?_
  · intro j u hj
    match j, hj with
    | 0, hj => simp at hj; subst hj; exact hcx
    | j + 1, hj => simp at hj
  · intro u hu
    rw [List.mem_singleton.1 hu]
    rfl
  · intro w' ho' hg'
    exact h w' ⟨h0, inner ++ [.int .i64 v], by rw [List.length_append]; exact ho', Reps.snoc (R := (Kd.int .i64).M w' base _) (c := [.int .i64 v]) (hr.imp_ (fun p c hp => hp)) (show [Value.int .i64 v] = [Value.int .i64 v] from rfl) rfl⟩ hg'
set_option maxHeartbeats 8000000 in
set_option maxRecDepth 100000 in
theorem walkC_calls (w0 : World) (gt gw gr n : Nat) (A0 : Option Addr) (c0 : Nat) (A1 : Option Addr) (n1 c1 : Nat) (lv hv : Value) (M : Nat) (hg : w0.heap.size ≤ gt ∧ gt < gw ∧ gw < gr ∧ gr < M) (hn1 : 1 ≤ n) (hn6 : n ≤ 1048576) (costF : List Int → Int)
    (hown : ∀ pre : List Int, pre.length = n → spec_l00Own.f pre = some pre)
    (hcost : ∀ s w cp pre, SpJ w0 gt gw A0 n c0 A1 n1 c1 lv hv M s w → Below w0.heap.size w0 w → pre.length = n → Kd.C (Kd.int .i64) w (some ⟨gr, 0, none⟩) pre.length pre → pre.length ≤ cp → Calls Try.prog 78 #[.pointer (some ⟨gw, 0, none⟩), .slice (some ⟨gr, 0, none⟩) pre.length cp] w fun e w' => e = .returned (.int .i64 (costF pre)) ∧ Below w.heap.size w w') :
    ∀ (m i : Nat) (s : List Int × Int) (pre : List Int) (w : World), n - i = m → i ≤ n → pre.length = i → SpJ w0 gt gw A0 n c0 A1 n1 c1 lv hv M s w → M ≤ w.heap.size → Below w0.heap.size w0 w → Kd.R (Kd.int .i64) 2 w w0.heap.size (fun k => k = gr) (.slice (some ⟨gr, 0, none⟩) i n) pre →
    Calls Try.prog 73 #[.pointer (some ⟨gw, 0, none⟩), .slice (some ⟨gr, 0, none⟩) i n] w fun e w' =>
      e = .returned (.tuple #[]) ∧ SpJ w0 gt gw A0 n c0 A1 n1 c1 lv hv M (fills (stepC costF) m s pre) w' ∧ M ≤ w'.heap.size ∧ Below w0.heap.size w0 w' ∧ Kd.R (Kd.int .i64) 2 w' w0.heap.size (fun k => k = gr) (.slice (some ⟨gr, 0, none⟩) i n) pre := by
  have hu24 := Try.underlying24
  have hu27 := Try.underlying27
  have hu75 := Try.underlying75
  intro m
  induction m with
  | zero =>
    intro i s pre w h1 h2 h3 hJ hM hB hR
    obtain rfl : i = n := by omega
    have hpre := hown pre h3
    have hc := hcost s w i pre hJ hB h3 (Kd.R_reads' (by rw [h3] at *; exact hR)).2.2 (by omega)
    rw [h3] at hc
    obtain ⟨vb, e1, e2⟩ := hJ.rest
    have hcases : (decide (0 ≤ costF pre) = false ∧ stepC costF s pre = s) ∨ (decide (0 ≤ costF pre) = true ∧ decide (s.2 < 0) = true ∧ stepC costF s pre = (pre, costF pre)) ∨ (decide (0 ≤ costF pre) = true ∧ decide (s.2 < 0) = false ∧ decide (costF pre < s.2) = true ∧ stepC costF s pre = (pre, costF pre)) ∨ (decide (0 ≤ costF pre) = true ∧ decide (s.2 < 0) = false ∧ decide (costF pre < s.2) = false ∧ stepC costF s pre = s) := by
      by_cases a1 : 0 ≤ costF pre
      · by_cases a2 : s.2 < 0
        · exact .inr (.inl ⟨decide_eq_true a1, decide_eq_true a2, if_pos ⟨a1, .inl a2⟩⟩)
        · by_cases a3 : costF pre < s.2
          · exact .inr (.inr (.inl ⟨decide_eq_true a1, decide_eq_false a2, decide_eq_true a3, if_pos ⟨a1, .inr a3⟩⟩))
          · exact .inr (.inr (.inr ⟨decide_eq_true a1, decide_eq_false a2, decide_eq_false a3, if_neg (fun h_ => h_.2.elim a2 a3)⟩))
      · exact .inl ⟨decide_eq_false a1, if_neg (fun h_ => a1 h_.1)⟩
    obtain ⟨sl, hsl⟩ : ∃ sl, s.2 = sl := ⟨_, rfl⟩
    rw [hsl] at hcases e1
    obtain ⟨cst, hcst⟩ : ∃ cst, costF pre = cst := ⟨_, rfl⟩
    rw [hcst] at hcases hc
    have cz0 : w.cell? ⟨gw, 0, none⟩ = some (.pointer (some ⟨gt, 0, none⟩)) := (blk_cell e1 0).trans rfl
    have ct : w.cell? ⟨gt, 0, none⟩ = some (.slice A0 i c0) := (blk_cell hJ.b0 0).trans rfl
    have hee : ((i : Int) == (i : Int)) = true := beq_self_eq_true _
    have HJ := Aside0.mk hJ
    have HE := Aside0.mk e1
    have HM := Aside0.mk hM
    have HB := Aside0.mk hB
    have HR := Aside0.mk hR
    have HC := Aside0.mk hc
    have HP := Aside0.mk hpre
    have HG := Aside0.mk hg
    have H3 := Aside0.mk h3
    have hnew : ∀ w5 w6 w7 v5, Below w.heap.size w w5 → Kd.R (Kd.int .i64) 2 w5 w0.heap.size (fun k => M ≤ k) v5 pre → w6 = w5.setCell ⟨gw, 3, none⟩ v5 → w7 = w6.setCell ⟨gw, 4, none⟩ (.int .i64 cst) → SpJ w0 gt gw A0 i c0 A1 n1 c1 lv hv M (pre, cst) w7 ∧ M ≤ w7.heap.size ∧ Below w0.heap.size w0 w7 ∧ Kd.R (Kd.int .i64) 2 w7 w0.heap.size (fun k => k = gr) (.slice (some ⟨gr, 0, none⟩) i i) pre := by
      intro w5 w6 w7 v5 h5 hr e6 e7
      have hG := HG.out
      have k6 : Kept w5 w6 (fun k => k = gw) := by rw [e6]; exact Kept.setCell (S := fun k => k = gw) (p := ⟨gw, 3, none⟩) (Kept.refl _ _) (.inl rfl) _
      have k7 : Kept w6 w7 (fun k => k = gw) := by rw [e7]; exact Kept.setCell (S := fun k => k = gw) (p := ⟨gw, 4, none⟩) (Kept.refl _ _) (.inl rfl) _
      have b16 : w6.heap[gw]? = some (.cells #[.pointer (some ⟨gt, 0, none⟩), lv, hv, v5, .int .i64 sl] 75 (0, 0)) := by rw [e6]; exact blk_put (cs := #[.pointer (some ⟨gt, 0, none⟩), lv, hv, vb, .int .i64 sl]) (blk_below HE.out h5) 3 _ rfl
      have b17 : w7.heap[gw]? = some (.cells #[.pointer (some ⟨gt, 0, none⟩), lv, hv, v5, .int .i64 cst] 75 (0, 0)) := by rw [e7]; exact blk_put (cs := #[.pointer (some ⟨gt, 0, none⟩), lv, hv, v5, .int .i64 sl]) b16 4 _ rfl
      refine ⟨⟨blk_kept (blk_kept (blk_below HJ.out.b0 h5) k6 (by omega)) k7 (by omega), v5, b17, Kd.R_kept (Kd.R_kept hr k6 (fun k h1 h2 => by omega)) k7 (fun k h1 h2 => by omega)⟩, Nat.le_trans HM.out (Nat.le_trans (below_size h5) (Nat.le_trans k6.1 k7.1)), ?_, Kd.R_kept (Kd.R_kept (Kd.R_below HR.out h5) k6 (fun k h1 h2 => by omega)) k7 (fun k h1 h2 => by omega)⟩
      rw [e7, e6]
      exact below_set (below_set (below_step HB.out h5) (by show _ ≤ gw; omega)) (by show _ ≤ gw; omega)
    have HNEW := Aside0.mk hnew
    clear hnew hJ e1 e2 hM hB hR hc hpre hg hcost hown
    rcases hcases with ⟨k1, hst⟩ | ⟨k1, k2, hst⟩ | ⟨k1, k2, k3, hst⟩ | ⟨k1, k2, k3, hst⟩
    all_goals
      have HST := Aside0.mk hst
      clear hst
      go_enter Try.func73, Try.ntmps73
      go_wp2_with (first
        | (go_at_call 78; refine (HC.out).mono ?_; rintro e w1 ⟨rfl, hb1⟩; have HW1 := Aside0.mk hb1; have cx4 : w1.cell? ⟨gw, 4, none⟩ = some (.int .i64 sl) := (blk_cell (blk_below HE.out hb1) 4).trans rfl; clear hb1 cz0 ct)
        | (go_at_call 77; refine calls_of_args (args' := #[.slice (some ⟨gr, 0, none⟩) pre.length i]) (by rw [H3.out]) ?_; refine (spec_l00Own.calls (some ⟨gr, 0, none⟩) i pre pre _ (Kd.C_below (Kd.R_reads' HR.out).2.2 HW1.out) (by have := H3.out; omega) HP.out).mono ?_; rintro e w2 ⟨v5, rfl, ho, hb2⟩; have HW2 := Aside0.mk (below_step HW1.out hb2); have HO2 := Aside0.mk (Kd.R_lower (Kd.R_mono (Kd.R_bound ho) (ok' := fun k => M ≤ k) (fun k hk => Nat.le_trans HM.out (Nat.le_trans (below_size HW1.out) hk.2.1))) (Nat.le_trans (below_size HB.out) (below_size HW1.out))); obtain ⟨A5, c5, ev5⟩ := Kd.R_slice ho; subst ev5; have cy3 := (blk_cell (blk_below HE.out HW2.out) 3).trans rfl; have fy3 := blk_frozen (blk_below HE.out HW2.out) 3; clear ho hb2 cx4)
        | ((with_reducible refine gate_store (t := 24) (p := 41) rfl ?_); refine store_event (t := 24) (p := 41) (v := ?vo_w6) (w1 := (w2.setCell ⟨gw, 3, none⟩ (.slice A5 pre.length c5))) ?hg ?ho ?hn ?hr ?_; (case ho => rfl); (case hg => rfl); (case hn => rfl); (case hr => first | (go_simp; done) | (go_simp; rfl)); intro w6 hw6; have HE6 := Aside0.mk hw6; have b2_ : w6.heap[gw]? = some (.cells #[.pointer (some ⟨gt, 0, none⟩), lv, hv, .slice A5 pre.length c5, .int .i64 sl] 75 (0, 0)) := (by rw [hw6]; exact blk_put (cs := #[.pointer (some ⟨gt, 0, none⟩), lv, hv, vb, .int .i64 sl]) (blk_below HE.out HW2.out) 3 _ rfl); have cy4 : w6.cell? ⟨gw, 4, none⟩ = some (.int .i64 sl) := (blk_cell b2_ 4).trans rfl; have fy4 := blk_frozen b2_ 4; clear hw6 cy3 fy3 b2_)
        | ((with_reducible refine gate_store (t := 2) (p := 45) rfl ?_); refine store_event (t := 2) (p := 45) (v := ?vo_w7) (w1 := (w6.setCell ⟨gw, 4, none⟩ (.int .i64 cst))) ?hg ?ho ?hn ?hr ?_; (case ho => rfl); (case hg => rfl); (case hn => rfl); (case hr => first | (go_simp; done) | (go_simp; rfl)); intro w7 hw7; have HE7 := Aside0.mk hw7; clear hw7 cy4 fy4))
      first | go_end0 | (simp only [Exit.inBlock, Exit.then]; refine bodyPost_ret (results_none rfl _ _ _) rfl ?_) | refine bodyPost_ret (results_none rfl _ _ _) rfl ?_
      rw [show fills (stepC costF) 0 s pre = stepC costF s pre from rfl, HST.out]
      first
        | exact ⟨by first | rfl | (simp; done), SpJ.kept HJ.out (Kept.of_below HW1.out (fun _ => False)) id id (fun _ _ => id), Nat.le_trans HM.out (below_size HW1.out), below_step HB.out HW1.out, Kd.R_below HR.out HW1.out⟩
        | exact ⟨by first | rfl | (simp; done), HNEW.out _ _ _ _ HW2.out HO2.out HE6.out (by first | exact HE7.out | rfl)⟩
  | succ m ih =>
    intro i s pre w h1 h2 h3 hJ hM hB hR
    have hlt : i < n := by omega
    obtain ⟨vb, e1, e2⟩ := hJ.rest
    have cz0 : w.cell? ⟨gw, 0, none⟩ = some (.pointer (some ⟨gt, 0, none⟩)) := (blk_cell e1 0).trans rfl
    have ct : w.cell? ⟨gt, 0, none⟩ = some (.slice A0 n c0) := (blk_cell hJ.b0 0).trans rfl
    have hee : ((i : Int) == (n : Int)) = false := by rw [beq_eq_false_iff_ne]; omega
    have HJ := Aside0.mk hJ
    have HM := Aside0.mk hM
    have HB := Aside0.mk hB
    have HR := Aside0.mk hR
    have HG := Aside0.mk hg
    have IH := Aside0.mk ih
    clear hJ e1 e2 hM hB hR hg hcost hown ih
    go_enter Try.func73, Try.ntmps73
    go_wp2
    go_loopw [5] (fun v5 wr => ∃ (j : Nat), v5 = .int .i64 ((j : Int) - 6) ∧ j ≤ 13 ∧ SpJ w0 gt gw A0 n c0 A1 n1 c1 lv hv M ((List.range j).foldl (fun s (j : Nat) => fills (stepC costF) m s (pre ++ [(j : Int) - 6])) s) wr ∧ M ≤ wr.heap.size ∧ Below w0.heap.size w0 wr ∧ Kd.R (Kd.int .i64) 2 wr w0.heap.size (fun k => k = gr) (.slice (some ⟨gr, 0, none⟩) i n) pre) (fun v5 _ => (7 - intOf v5).toNat)
    case atStart => exact ⟨0, rfl, by omega, HJ.out, HM.out, HB.out, HR.out⟩
    case round =>
      obtain ⟨j, rfl, hj, hJ', hM', hB', hR'⟩ := hrel
      by_cases hc : j < 13
      · have hcb : decide ((j : Int) - 6 ≤ 6) = true := decide_eq_true (by omega)
        have HJ' := Aside0.mk hJ'
        have HM' := Aside0.mk hM'
        have HB' := Aside0.mk hB'
        have HR' := Aside0.mk hR'
        clear hJ' hM' hB' hR'
        go_wp2_with (first
          | ((with_reducible refine gate_dst (N := 53) rfl ?_); refine Kd.R_lit (Kd.int .i64) _ 2 ?hg (N := 53) ?hd (xs := ([(j : Int) - 6] : List Int)) (inner := [.int .i64 ((j : Int) - 6)]) (ok := fun _ => True) (okp := fun _ => True) ?hr ?hp (fun _ hk => hk) trivial (Below.refl _ _) (Nat.le_refl _) (by simp) ?_; (case hd => rfl); (case hg => rfl); (case hr => first | (go_simp; done) | (go_simp; rfl)); (case hp => exact (Reps.one (show Kd.M (Kd.int .i64) _ _ _ ((j : Int) - 6) [.int .i64 ((j : Int) - 6)] from rfl) (Reps.none _ _))); intro v4 w4 ho4 hb4 hg_ hnew_; clear hg_ hnew_; obtain ⟨A4, c4, ev4⟩ := Kd.R_slice ho4; subst ev4; have HO4 := Aside0.mk ho4; have HB4 := Aside0.mk (below_step HB'.out hb4); have HJ4 := Aside0.mk (SpJ.kept HJ'.out (Kept.of_below hb4 (fun _ => False)) id id (fun _ _ => id)); have HR4 := Aside0.mk (Kd.R_below HR'.out hb4); have HM4 := Aside0.mk (Nat.le_trans HM'.out (below_size hb4)); clear ho4 hb4)
          | ((with_reducible refine gate_builtin (b := .append) (xs := #[.tmp 51, .tmp 53]) rfl ?_); at_builtin; refine R_fit1 rfl (.tmp 51) (.tmp 53) 24 2 rfl Try.underlying24 info2 w0.heap.size (fun k => k = gr) (fun _ => True) _ gr i n c4 A4 pre ((j : Int) - 6) rfl rfl h3 HR4.out HO4.out (by omega) ?_; intro w5 ho5 hg5; have hk5 := Kept.of_grown (S := fun k => k = gr) hg5 (Kept.refl _ _) (fun k hk => .inl (by injection hk with hk; exact hk.symm)); have HR5 := Aside0.mk ho5; have HJ5 := Aside0.mk (SpJ.kept HJ4.out hk5 (by have := HG.out; omega) (by have := HG.out; omega) (fun k h_ => by have := HG.out; omega)); have HB5 := Aside0.mk (HB4.out.grown hg5 (below_size HB4.out) (fun k hk => by injection hk with hk; have := HG.out; omega)); have HM5 := Aside0.mk (Nat.le_trans HM4.out hk5.1); clear ho5 hg5 hk5)
          | (go_at_call 73; refine (IH.out (i + 1) _ (pre ++ [(j : Int) - 6]) _ (by omega) (by omega) (by rw [List.length_append, h3]; rfl) HJ5.out HM5.out HB5.out HR5.out).mono ?_; rintro e w9 ⟨rfl, hJ9, hM9, hB9, hR9⟩))
        go_roundw
        case rel =>
          refine ⟨j + 1, by first | rfl | (simp; omega) | (congr 1; omega), by omega, ?_, hM9, hB9, ?_⟩
          · rw [foldl_range]
            exact hJ9
          · have := Kd.R_take (m := i) hR9 (by rw [List.length_append, h3]; simp)
            rw [List.take_append_of_le_length (by omega), List.take_of_length_le (by omega)] at this
            exact this
        case measure => simp [intOf]; omega
      · have hcb : decide ((j : Int) - 6 ≤ 6) = false := decide_eq_false (by omega)
        obtain rfl : j = 13 := by omega
        go_wp2
        first | go_end0 | (simp only [Exit.inBlock, Exit.then]; refine bodyPost_ret (results_none rfl _ _ _) rfl ?_) | refine bodyPost_ret (results_none rfl _ _ _) rfl ?_
        exact ⟨by first | rfl | (simp; done), hJ', hM', hB', hR'⟩
/-! by hand: (*l12W).cost with bounds -/
def costB (a lo hi : List Int) (c : Int) : Int := if inB a lo hi a.length 0 = true then c else -1
set_option maxHeartbeats 8000000 in
set_option maxRecDepth 100000 in
theorem costB_calls (ts : List Int) (es : List (List Int)) (lo hi : List Int) (w0 w : World) (gt gw gr : Nat) (A0 A1 Al Ah : Option Addr) (c0 c1 cl ch : Nat) (M : Nat) (hr0 : Kd.C (Kd.int .i64) w0 A0 ts.length ts) (hc0 : ts.length ≤ c0) (hr1 : Kd.C (Kd.slice 2 (Kd.int .i64)) w0 A1 es.length es) (hc1 : es.length ≤ c1) (hrl : Kd.C (Kd.int .i64) w0 Al lo.length lo) (hrh : Kd.C (Kd.int .i64) w0 Ah hi.length hi)
    (s : List Int × Int) (cp : Nat) (pre : List Int) (hJ : SpJ w0 gt gw A0 ts.length c0 A1 es.length c1 (.slice Al lo.length cl) (.slice Ah hi.length ch) M s w) (hB : Below w0.heap.size w0 w) (hC : Kd.C (Kd.int .i64) w (some ⟨gr, 0, none⟩) pre.length pre) (hcp : pre.length ≤ cp)
    (a : List Int) (ka kc : Nat) (cn : Int) (ha : spec_l12After.f ka ts es pre = some a) (hcn : spec_l12Count.f kc pre = some cn) (ha0 : 0 < a.length) (ha6 : a.length ≤ 1048576) (hal : a.length = lo.length) (hah : a.length = hi.length) :
    Calls Try.prog 78 #[.pointer (some ⟨gw, 0, none⟩), .slice (some ⟨gr, 0, none⟩) pre.length cp] w fun e w' => e = .returned (.int .i64 (costB a lo hi cn)) ∧ Below w.heap.size w w' := by
  have hu24 := Try.underlying24
  have hu75 := Try.underlying75
  obtain ⟨vb, e1, e2⟩ := hJ.rest
  have cz0 : w.cell? ⟨gw, 0, none⟩ = some (.pointer (some ⟨gt, 0, none⟩)) := (blk_cell e1 0).trans rfl
  have HE := Aside0.mk e1
  have HB0 := Aside0.mk hJ.b0
  have HB := Aside0.mk hB
  have HR0 := Aside0.mk hr0
  have HR1 := Aside0.mk hr1
  have HRL := Aside0.mk hrl
  have HRH := Aside0.mk hrh
  have HC := Aside0.mk hC
  have HA := Aside0.mk ha
  have HCN := Aside0.mk hcn
  have HAL := Aside0.mk hal
  have HAH := Aside0.mk hah
  clear hJ e1 e2 hB hr0 hr1 hC ha hcn hrl hrh hal hah
  have hl0 : decide ((0 : Int) < (lo.length : Int)) = true := decide_eq_true (by have := HAL.out; omega)
  have hl1 : decide (0 < lo.length) = true := decide_eq_true (by have := HAL.out; omega)
  have hl2 : (0 < lo.length) = True := eq_true (by have := HAL.out; omega)
  go_enter Try.func78, Try.ntmps78
  go_wp2_with (first
    | (go_at_call 68; refine (spec_l12After.calls ka gt A0 c0 ts A1 c1 es _ cp pre a _ HB0.out (Kd.C_below HR0.out HB.out) hc0 (Kd.C_below HR1.out HB.out) hc1 HC.out hcp HA.out).mono ?_; rintro e w1 ⟨v1, rfl, ho1, hb1⟩; have HW1 := Aside0.mk hb1; obtain ⟨A2, c2, ev1⟩ := Kd.R_slice ho1; subst ev1; have HV := Aside0.mk (Kd.R_reads' ho1); have cx1 : w1.cell? ⟨gw, 1, none⟩ = some (.slice Al lo.length cl) := (blk_cell (blk_below HE.out hb1) 1).trans rfl; have cx2 : w1.cell? ⟨gw, 2, none⟩ = some (.slice Ah hi.length ch) := (blk_cell (blk_below HE.out hb1) 2).trans rfl; have HL1 := Aside0.mk (Kd.C_below (Kd.C_below HRL.out HB.out) hb1); have HH1 := Aside0.mk (Kd.C_below (Kd.C_below HRH.out HB.out) hb1); clear ho1 hb1 cz0))
  go_loopw [6] (fun v6 wr => ∃ (q : Nat), v6 = .int .i64 (q : Int) ∧ q ≤ a.length ∧ Aside0 (inB a lo hi (a.length - q) q = inB a lo hi a.length 0) ∧ Drawn0 w1 wr) (fun v6 _ => ((a.length : Int) - intOf v6).toNat)
  case atStart => exact ⟨0, by first | rfl | (simp; done), by omega, ⟨by rw [Nat.sub_zero]⟩, by repeat (first | exact Drawn0.refl _ | apply Drawn0.step)⟩
  case round =>
    obtain ⟨q, rfl, hq, HIN, ⟨m1, rfl⟩⟩ := hrel
    by_cases hc : q < a.length
    · have hcb : decide ((q : Int) < (a.length : Int)) = true := decide_eq_true (by omega)
      have hin := HIN.out
      rw [show a.length - q = (a.length - (q + 1)) + 1 from by omega] at hin
      have hin2 : ((decide (lo.getD q 0 ≤ a.getD q 0) && decide (a.getD q 0 ≤ hi.getD q 0)) && inB a lo hi (a.length - (q + 1)) (q + 1)) = inB a lo hi a.length 0 := hin
      have hx : ∃ x, rd a (q : Int) = x ∧ a.getD q 0 = x := ⟨_, rfl, by show _ = a.getD (Int.toNat (q : Int)) 0; rw [Int.toNat_natCast]⟩
      have hxl : ∃ x, rd lo (q : Int) = x ∧ lo.getD q 0 = x := ⟨_, rfl, by show _ = lo.getD (Int.toNat (q : Int)) 0; rw [Int.toNat_natCast]⟩
      have hxh : ∃ x, rd hi (q : Int) = x ∧ hi.getD q 0 = x := ⟨_, rfl, by show _ = hi.getD (Int.toNat (q : Int)) 0; rw [Int.toNat_natCast]⟩
      obtain ⟨x, hx1, hx2⟩ := hx
      obtain ⟨xl, hxl1, hxl2⟩ := hxl
      obtain ⟨xh, hxh1, hxh2⟩ := hxh
      obtain ⟨ad1, ea1, hc1_⟩ := Kd.at_int HV.out.2.2 (q : Int) (by omega) (by omega)
      obtain ⟨ad2, ea2, hc2_⟩ := Kd.at_int HL1.out (q : Int) (by omega) (by have := HAL.out; omega)
      obtain ⟨ad3, ea3, hc3_⟩ := Kd.at_int HH1.out (q : Int) (by omega) (by have := HAH.out; omega)
      rw [hx1, Int.toNat_natCast] at hc1_
      rw [hxl1, Int.toNat_natCast] at hc2_
      rw [hxh1, Int.toNat_natCast] at hc3_
      rw [hx2, hxl2, hxh2] at hin2
      subst ea1 ea2 ea3
      have p5 : (0 ≤ (q : Int)) = True := eq_true (by omega)
      have q5 : ((q : Int) < (a.length : Int)) = True := eq_true (by omega)
      have q6 : ((q : Int) < (lo.length : Int)) = True := eq_true (by have := HAL.out; omega)
      have q7 : ((q : Int) < (hi.length : Int)) = True := eq_true (by have := HAH.out; omega)
      have HIN2 := Aside0.mk hin2
      clear hin hin2 hx1 hx2 hxl1 hxl2 hxh1 hxh2
      by_cases hwi : xl ≤ x ∧ x ≤ xh
      · have A9 := Aside0.mk (show spec_l00In.f x xl xh = some true from by unfold spec_l00In.f; rw [if_pos hwi.1, decide_eq_true hwi.2])
        have HIN3 := Aside0.mk (show inB a lo hi (a.length - (q + 1)) (q + 1) = inB a lo hi a.length 0 from by rw [← HIN2.out, decide_eq_true hwi.1, decide_eq_true hwi.2]; rfl)
        clear hwi
        go_wp2
        repeat (go_quiet ((go_at_call 63; (with_reducible refine (spec_l00In.calls x xl xh true _ A9.out).mono ?_); rintro e w' ⟨rfl, ⟨nd, rfl⟩⟩; (try first | exact ⟨rfl, _, World.drewN_drewN _ _ _⟩ | exact ⟨rfl, _, Eq.trans (World.drewN_drewN _ _ _) (congrArg (World.drewN _) (Nat.add_assoc _ _ _))⟩))); try go_wp2)
        go_roundw
        case rel => exact ⟨q + 1, by first | rfl | (simp; omega) | (congr 1; omega), by omega, HIN3, by repeat (first | exact Drawn0.refl _ | apply Drawn0.step)⟩
        case measure => simp [intOf]; omega
      · have hf : (decide (xl ≤ x) && decide (x ≤ xh)) = false := by
          cases hq_ : (decide (xl ≤ x) && decide (x ≤ xh)) with
          | false => rfl
          | true => simp only [Bool.and_eq_true, decide_eq_true_eq] at hq_; exact absurd hq_ hwi
        have HF := Aside0.mk (show costB a lo hi cn = -1 from if_neg (by rw [← HIN2.out, hf]; exact Bool.false_ne_true))
        have A9 := Aside0.mk (show spec_l00In.f x xl xh = some false from by
          unfold spec_l00In.f
          by_cases g1 : x ≥ xl
          · rw [if_pos g1, decide_eq_false (fun g2 => hwi ⟨g1, g2⟩)]
          · rw [if_neg g1])
        clear hwi hf
        go_wp2
        repeat (go_quiet ((go_at_call 63; (with_reducible refine (spec_l00In.calls x xl xh false _ A9.out).mono ?_); rintro e w' ⟨rfl, ⟨nd, rfl⟩⟩; (try first | exact ⟨rfl, _, World.drewN_drewN _ _ _⟩ | exact ⟨rfl, _, Eq.trans (World.drewN_drewN _ _ _) (congrArg (World.drewN _) (Nat.add_assoc _ _ _))⟩))); try go_wp2)
        go_ret
        exact ⟨by rw [HF.out]; first | done | rfl | (simp; done), by repeat (first | (with_reducible first | exact HW1.out | apply pw_below_drewN | apply below_drew1) | exact HW1.out)⟩
    · have hcb : decide ((q : Int) < (a.length : Int)) = false := decide_eq_false (by omega)
      obtain rfl : q = a.length := by omega
      have HF := Aside0.mk (show costB a lo hi cn = cn from if_pos (by rw [← HIN.out, Nat.sub_self]; rfl))
      have HWd := Aside0.mk (pw_below_drewN HW1.out m1)
      clear cx1 cx2
      go_wp2_with (first
        | (go_at_call 67; refine (spec_l12Count.calls kc _ cp pre cn _ (Kd.C_below HC.out HWd.out) hcp HCN.out).mono ?_; rintro e w3 ⟨rfl, nd3, rfl⟩; have HW3 := Aside0.mk (pw_below_drewN HWd.out nd3)))
      go_ret
      exact ⟨by rw [HF.out]; first | done | rfl | (simp; done), by repeat (first | (with_reducible first | exact HW1.out | apply pw_below_drewN | apply below_drew1) | exact HW1.out)⟩
/-! by hand: spec.TurnsNeeded -/
noncomputable def aftS (ts : List Int) (es : List (List Int)) (tn : List Int) : List Int := theOf [] (fun k => spec_l12After.f k ts es tn)
noncomputable def costN (ts : List Int) (es : List (List Int)) (lo hi : List Int) (tn : List Int) : Int := costB (aftS ts es tn) lo hi (theOf 0 (fun k => spec_l12Count.f k tn))
def SnOk (ts : List Int) (es : List (List Int)) (lo hi : List Int) : Prop :=
  1 ≤ ts.length ∧ ts.length ≤ 1048576 ∧ lo.length = ts.length ∧ hi.length = ts.length ∧ ∀ tn : List Int, tn.length = ts.length → ∃ a c, (∃ k, spec_l12After.f k ts es tn = some a) ∧ a.length = ts.length ∧ (∃ k, spec_l12Count.f k tn = some c)
theorem costN_eq {ts : List Int} {es : List (List Int)} {lo hi : List Int} {tn a : List Int} {c : Int} (h1 : ∃ k, spec_l12After.f k ts es tn = some a) (h2 : ∃ k, spec_l12Count.f k tn = some c) : costN ts es lo hi tn = costB a lo hi c := by
  unfold costN aftS
  rw [theOf_eq (fun k => spec_l12After.mono _ _ _ k) h1, theOf_eq (fun k => spec_l12Count.mono _ k) h2]
noncomputable def bestN (ts : List Int) (es : List (List Int)) (lo hi : List Int) : List Int × Int := fills (stepC (costN ts es lo hi)) ts.length ([], -1) []
open Classical in
noncomputable def spec_TurnsNeeded.f (k : Nat) (l0_0 : List Int) (l0_1 : List (List Int)) (l1 l2 : List Int) : Option (List Int × Int) :=
  (spec_l12Ok.f k l0_0 l0_1).bind fun v => if v = true then ((spec_l12Bounds.f k l1 (l0_0.length : Int)).bind fun b1 => if b1 = true then ((spec_l12Bounds.f k l2 (l0_0.length : Int)).bind fun b2 => if b2 = true then (if SnOk l0_0 l0_1 l1 l2 then (if (bestN l0_0 l0_1 l1 l2).2 < 0 then some ([], 3) else some ((bestN l0_0 l0_1 l1 l2).1, 0)) else none) else some ([], 2)) else some ([], 2)) else some ([], 1)
theorem spec_TurnsNeeded.mono : ∀ a0 a1 a2 a3 k, LeO (spec_TurnsNeeded.f k a0 a1 a2 a3) (spec_TurnsNeeded.f (k + 1) a0 a1 a2 a3) := by
  intro a0 a1 a2 a3 k r h
  unfold spec_TurnsNeeded.f at h ⊢
  obtain ⟨v, h1, h2⟩ := Option.bind_eq_some_iff.mp h
  refine Option.bind_eq_some_iff.mpr ⟨v, spec_l12Ok.mono _ _ _ _ h1, ?_⟩
  split at h2
  · rename_i hv
    rw [if_pos hv]
    obtain ⟨b1, h3, h4⟩ := Option.bind_eq_some_iff.mp h2
    refine Option.bind_eq_some_iff.mpr ⟨b1, spec_l12Bounds.mono _ _ _ _ h3, ?_⟩
    split at h4
    · rename_i hb
      rw [if_pos hb]
      obtain ⟨b2, h5, h6⟩ := Option.bind_eq_some_iff.mp h4
      exact Option.bind_eq_some_iff.mpr ⟨b2, spec_l12Bounds.mono _ _ _ _ h5, h6⟩
    · rename_i hb
      rw [if_neg hb]
      exact h4
  · rename_i hv
    rw [if_neg hv]
    exact h2
theorem spec_TurnsNeeded.cases {k : Nat} {ts : List Int} {es : List (List Int)} {lo hi r1 : List Int} {r2 : Int} (h : spec_TurnsNeeded.f k ts es lo hi = some (r1, r2)) : ∃ v, spec_l12Ok.f k ts es = some v ∧
    ((v = false ∧ r1 = [] ∧ r2 = 1) ∨ (v = true ∧ spec_l12Bounds.f k lo (ts.length : Int) = some false ∧ r1 = [] ∧ r2 = 2) ∨ (v = true ∧ spec_l12Bounds.f k lo (ts.length : Int) = some true ∧ spec_l12Bounds.f k hi (ts.length : Int) = some false ∧ r1 = [] ∧ r2 = 2) ∨ (v = true ∧ spec_l12Bounds.f k lo (ts.length : Int) = some true ∧ spec_l12Bounds.f k hi (ts.length : Int) = some true ∧ SnOk ts es lo hi ∧ decide ((bestN ts es lo hi).2 < 0) = true ∧ r1 = [] ∧ r2 = 3) ∨
    (v = true ∧ spec_l12Bounds.f k lo (ts.length : Int) = some true ∧ spec_l12Bounds.f k hi (ts.length : Int) = some true ∧ SnOk ts es lo hi ∧ decide ((bestN ts es lo hi).2 < 0) = false ∧ r1 = (bestN ts es lo hi).1 ∧ r2 = 0)) := by
  unfold spec_TurnsNeeded.f at h
  obtain ⟨v, hv, H⟩ := Option.bind_eq_some_iff.mp h
  refine ⟨v, hv, ?_⟩
  cases v with
  | false => simp at H; exact .inl ⟨rfl, by rw [← H.1], H.2.symm⟩
  | true =>
    rw [if_pos rfl] at H
    obtain ⟨b1, h1, H⟩ := Option.bind_eq_some_iff.mp H
    cases b1 with
    | false => simp at H; exact .inr (.inl ⟨rfl, h1, by rw [← H.1], H.2.symm⟩)
    | true =>
      rw [if_pos rfl] at H
      obtain ⟨b2, h2, H⟩ := Option.bind_eq_some_iff.mp H
      cases b2 with
      | false => simp at H; exact .inr (.inr (.inl ⟨rfl, h1, h2, by rw [← H.1], H.2.symm⟩))
      | true =>
        rw [if_pos rfl] at H
        by_cases ho : SnOk ts es lo hi
        · rw [if_pos ho] at H
          by_cases hn : (bestN ts es lo hi).2 < 0
          · rw [if_pos hn] at H; simp at H; exact .inr (.inr (.inr (.inl ⟨rfl, h1, h2, ho, decide_eq_true hn, by rw [← H.1], H.2.symm⟩)))
          · rw [if_neg hn] at H; simp at H; exact .inr (.inr (.inr (.inr ⟨rfl, h1, h2, ho, decide_eq_false hn, H.1.symm, H.2.symm⟩)))
        · rw [if_neg ho] at H; simp at H
theorem own_same (pre : List Int) (h : pre.length ≤ 1048576) : spec_l00Own.f pre = some pre := by
  unfold spec_l00Own.f
  simp only [Option.bind_some]
  rw [if_pos (by simp; omega)]
  rfl
set_option maxHeartbeats 8000000 in
set_option maxRecDepth 100000 in
theorem spec_TurnsNeeded.calls (k : Nat) (A0_0 : Option Addr) (c0_0 : Nat) (l0_0 : List Int) (A0_1 : Option Addr) (c0_1 : Nat) (l0_1 : List (List Int)) (A1 : Option Addr) (c1 : Nat) (l1 : List Int) (A2 : Option Addr) (c2 : Nat) (l2 : List Int) (r1 : List Int) (r2 : Int) (w : World) (hr0_0 : Kd.C (Kd.int .i64) w A0_0 l0_0.length l0_0) (hc0_0 : l0_0.length ≤ c0_0) (hr0_1 : Kd.C (Kd.slice 2 (Kd.int .i64)) w A0_1 l0_1.length l0_1) (hc0_1 : l0_1.length ≤ c0_1) (hr1 : Kd.C (Kd.int .i64) w A1 l1.length l1) (hc1 : l1.length ≤ c1) (hr2 : Kd.C (Kd.int .i64) w A2 l2.length l2) (hc2 : l2.length ≤ c2) (h : spec_TurnsNeeded.f k l0_0 l0_1 l1 l2 = some (r1, r2)) :
    Calls Try.prog 45 #[.agg #[.slice A0_0 l0_0.length c0_0, .slice A0_1 l0_1.length c0_1], .slice A1 l1.length c1, .slice A2 l2.length c2] w fun e w' => ∃ v0_ : Value, e = .returned (.tuple #[v0_, .int .i64 r2]) ∧ Kd.R (Kd.int .i64) 2 w' w.heap.size (fun _ => True) v0_ r1 ∧ Below w.heap.size w w' := by
  have hu24 := Try.underlying24
  have hu27 := Try.underlying27
  have hu75 := Try.underlying75
  obtain ⟨i0, hi0, hzz⟩ := Option.map_eq_some_iff.1 info2
  simp only [Prod.mk.injEq] at hzz
  have HI0 := Aside0.mk hi0
  have HZZ := Aside0.mk hzz
  clear hi0 hzz
  have HR0 := Aside0.mk hr0_0
  have HR1 := Aside0.mk hr0_1
  have HRL := Aside0.mk hr1
  have HRH := Aside0.mk hr2
  clear hr0_0 hr0_1 hr1 hr2
  obtain ⟨v, hv, hkind⟩ := spec_TurnsNeeded.cases h
  clear h
  have HV := Aside0.mk hv
  clear hv
  have hl0 : (0 : Int) ≤ (l0_0.length : Int) := by omega
  obtain ⟨bb, hbb⟩ : ∃ bb, bestN l0_0 l0_1 l1 l2 = bb := ⟨_, rfl⟩
  have HBB := Aside0.mk hbb
  rw [hbb] at hkind
  clear hbb
  obtain ⟨b1, b2⟩ := bb
  simp only at hkind
  rcases hkind with ⟨rfl, rfl, rfl⟩ | ⟨rfl, i1, rfl, rfl⟩ | ⟨rfl, i1, i2, rfl, rfl⟩ | ⟨rfl, i1, i2, ho, kn, rfl, rfl⟩ | ⟨rfl, i1, i2, ho, kn, rfl, rfl⟩
  · skip
    go_enter Try.func45, Try.ntmps45
    go_wp2_with (first
      | ((with_reducible refine gate_dst (N := 3) rfl ?_); refine box_event ?hg (N := 3) ?hd (cs := #[.slice A0_0 l0_0.length c0_0, .slice A0_1 l0_1.length c0_1]) (t := 27) ?hr ?_; (case hd => rfl); (case hg => rfl); (case hr => first | (go_simp; done) | (go_simp; rfl)); intro g1 hg1 w1 hb1 hl1; have HB1 := Aside0.mk hl1; have BX1 := Aside0.mk hb1; have G1 := Aside0.mk (show w.heap.size ≤ g1 from by rw [hg1]; exact Nat.le_refl _); clear hb1 hl1 hg1)
      | (go_at_call 60; refine (spec_l12Ok.calls k g1 A0_0 c0_0 l0_0 A0_1 c0_1 l0_1 false _ BX1.out (Kd.C_below HR0.out HB1.out) hc0_0 (Kd.C_below HR1.out HB1.out) hc0_1 HV.out).mono ?_; rintro e w2 ⟨rfl, hb2⟩; have HB2 := Aside0.mk (below_step HB1.out hb2); have BX2 := Aside0.mk (blk_below BX1.out hb2); have cz0 : w2.cell? ⟨g1, 0, none⟩ = some (.slice A0_0 l0_0.length c0_0) := (blk_cell BX2.out 0).trans rfl; clear hb2))
    repeat (go_quiet (fail); try go_wp2)
    go_ret2
    exact ⟨_, by first | rfl | (simp; done), Kd.R_nil _ _ _ _ _, by repeat (first | (with_reducible first | exact HB2.out | apply pw_below_drewN | apply below_drew1) | exact HB2.out)⟩
  · have I1 := Aside0.mk i1
    clear i1
    go_enter Try.func45, Try.ntmps45
    go_wp2_with (first
      | ((with_reducible refine gate_dst (N := 3) rfl ?_); refine box_event ?hg (N := 3) ?hd (cs := #[.slice A0_0 l0_0.length c0_0, .slice A0_1 l0_1.length c0_1]) (t := 27) ?hr ?_; (case hd => rfl); (case hg => rfl); (case hr => first | (go_simp; done) | (go_simp; rfl)); intro g1 hg1 w1 hb1 hl1; have HB1 := Aside0.mk hl1; have BX1 := Aside0.mk hb1; have G1 := Aside0.mk (show w.heap.size ≤ g1 from by rw [hg1]; exact Nat.le_refl _); clear hb1 hl1 hg1)
      | (go_at_call 60; refine (spec_l12Ok.calls k g1 A0_0 c0_0 l0_0 A0_1 c0_1 l0_1 true _ BX1.out (Kd.C_below HR0.out HB1.out) hc0_0 (Kd.C_below HR1.out HB1.out) hc0_1 HV.out).mono ?_; rintro e w2 ⟨rfl, hb2⟩; have HB2 := Aside0.mk (below_step HB1.out hb2); have BX2 := Aside0.mk (blk_below BX1.out hb2); have cz0 : w2.cell? ⟨g1, 0, none⟩ = some (.slice A0_0 l0_0.length c0_0) := (blk_cell BX2.out 0).trans rfl; clear hb2)
      | (go_at_call 74; (with_reducible refine (spec_l12Bounds.calls k A1 c1 l1 (l0_0.length : Int) false _ ?hC ?hL I1.out).mono ?_); (case hC => exact Kd.C_below HRL.out HB2.out); (case hL => exact hc1); rintro e wd1 ⟨rfl, nd1, rfl⟩; have HD1 := Aside0.mk (pw_below_drewN (Below.refl w2.heap.size w2) nd1)))
    repeat (go_quiet (fail); try go_wp2)
    go_ret2
    exact ⟨_, by first | rfl | (simp; done), Kd.R_nil _ _ _ _ _, by repeat (first | (with_reducible first | exact HB2.out | apply pw_below_drewN | apply below_drew1) | exact HB2.out)⟩
  · have I1 := Aside0.mk i1
    have I2 := Aside0.mk i2
    clear i1 i2
    go_enter Try.func45, Try.ntmps45
    go_wp2_with (first
      | ((with_reducible refine gate_dst (N := 3) rfl ?_); refine box_event ?hg (N := 3) ?hd (cs := #[.slice A0_0 l0_0.length c0_0, .slice A0_1 l0_1.length c0_1]) (t := 27) ?hr ?_; (case hd => rfl); (case hg => rfl); (case hr => first | (go_simp; done) | (go_simp; rfl)); intro g1 hg1 w1 hb1 hl1; have HB1 := Aside0.mk hl1; have BX1 := Aside0.mk hb1; have G1 := Aside0.mk (show w.heap.size ≤ g1 from by rw [hg1]; exact Nat.le_refl _); clear hb1 hl1 hg1)
      | (go_at_call 60; refine (spec_l12Ok.calls k g1 A0_0 c0_0 l0_0 A0_1 c0_1 l0_1 true _ BX1.out (Kd.C_below HR0.out HB1.out) hc0_0 (Kd.C_below HR1.out HB1.out) hc0_1 HV.out).mono ?_; rintro e w2 ⟨rfl, hb2⟩; have HB2 := Aside0.mk (below_step HB1.out hb2); have BX2 := Aside0.mk (blk_below BX1.out hb2); have cz0 : w2.cell? ⟨g1, 0, none⟩ = some (.slice A0_0 l0_0.length c0_0) := (blk_cell BX2.out 0).trans rfl; clear hb2)
      | (go_at_call 74; (with_reducible refine (spec_l12Bounds.calls k A1 c1 l1 (l0_0.length : Int) true _ ?hC ?hL I1.out).mono ?_); (case hC => exact Kd.C_below HRL.out HB2.out); (case hL => exact hc1); rintro e wd1 ⟨rfl, nd1, rfl⟩; have HD1 := Aside0.mk (pw_below_drewN (Below.refl w2.heap.size w2) nd1))
      | (go_at_call 74; (with_reducible refine (spec_l12Bounds.calls k A2 c2 l2 (l0_0.length : Int) false _ ?hC ?hL I2.out).mono ?_); (case hC => exact Kd.C_below HRH.out (below_step HB2.out HD1.out)); (case hL => exact hc2); rintro e wd2 ⟨rfl, nd2, rfl⟩; have HD2 := Aside0.mk (pw_below_drewN HD1.out nd2)))
    repeat (go_quiet (fail); try go_wp2)
    go_ret2
    exact ⟨_, by first | rfl | (simp; done), Kd.R_nil _ _ _ _ _, by repeat (first | (with_reducible first | exact HB2.out | apply pw_below_drewN | apply below_drew1) | exact HB2.out)⟩
  · skip
    have I1 := Aside0.mk i1
    have I2 := Aside0.mk i2
    have HOK := Aside0.mk ho
    clear i1 i2 ho
    have hcl : ∀ gt gw gr M (s : List Int × Int) (wc : World) (cp : Nat) (pre : List Int), SpJ w gt gw A0_0 l0_0.length c0_0 A0_1 l0_1.length c0_1 (.slice A1 l1.length c1) (.slice A2 l2.length c2) M s wc → Below w.heap.size w wc → pre.length = l0_0.length → Kd.C (Kd.int .i64) wc (some ⟨gr, 0, none⟩) pre.length pre → pre.length ≤ cp → Calls Try.prog 78 #[.pointer (some ⟨gw, 0, none⟩), .slice (some ⟨gr, 0, none⟩) pre.length cp] wc fun e w' => e = .returned (.int .i64 (costN l0_0 l0_1 l1 l2 pre)) ∧ Below wc.heap.size wc w' := by
      intro gt gw gr M s wc cp pre hj hb hp hc hcp
      obtain ⟨a, cn, ⟨ka, e1⟩, e2, ⟨kc, e3⟩⟩ := HOK.out.2.2.2.2 pre hp
      have h1 := HOK.out.1
      have h2 := HOK.out.2.1
      have h3 := HOK.out.2.2.1
      have h4 := HOK.out.2.2.2.1
      rw [costN_eq ⟨ka, e1⟩ ⟨kc, e3⟩]
      exact costB_calls l0_0 l0_1 l1 l2 w wc gt gw gr A0_0 A0_1 A1 A2 c0_0 c0_1 c1 c2 M HR0.out hc0_0 HR1.out hc0_1 HRL.out HRH.out s cp pre hj hb hc hcp a ka kc cn e1 e3 (by omega) (by omega) (by omega) (by omega)
    have HCL := Aside0.mk hcl
    clear hcl
    go_enter Try.func45, Try.ntmps45
    go_wp2_with (first
      | ((with_reducible refine gate_dst (N := 3) rfl ?_); refine box_event ?hg (N := 3) ?hd (cs := #[.slice A0_0 l0_0.length c0_0, .slice A0_1 l0_1.length c0_1]) (t := 27) ?hr ?_; (case hd => rfl); (case hg => rfl); (case hr => first | (go_simp; done) | (go_simp; rfl)); intro g1 hg1 w1 hb1 hl1; have HB1 := Aside0.mk hl1; have BX1 := Aside0.mk hb1; have G1 := Aside0.mk (show w.heap.size ≤ g1 from by rw [hg1]; exact Nat.le_refl _); clear hb1 hl1 hg1)
      | (go_at_call 60; refine (spec_l12Ok.calls k g1 A0_0 c0_0 l0_0 A0_1 c0_1 l0_1 true _ BX1.out (Kd.C_below HR0.out HB1.out) hc0_0 (Kd.C_below HR1.out HB1.out) hc0_1 HV.out).mono ?_; rintro e w2 ⟨rfl, hb2⟩; have HB2 := Aside0.mk (below_step HB1.out hb2); have BX2 := Aside0.mk (blk_below BX1.out hb2); have cz0 : w2.cell? ⟨g1, 0, none⟩ = some (.slice A0_0 l0_0.length c0_0) := (blk_cell BX2.out 0).trans rfl; clear hb2)
      | (go_at_call 74; (with_reducible refine (spec_l12Bounds.calls k A1 c1 l1 (l0_0.length : Int) true _ ?hC ?hL I1.out).mono ?_); (case hC => exact Kd.C_below HRL.out HB2.out); (case hL => exact hc1); rintro e wd1 ⟨rfl, nd1, rfl⟩; have HD1 := Aside0.mk (pw_below_drewN (Below.refl w2.heap.size w2) nd1))
      | (go_at_call 74; (with_reducible refine (spec_l12Bounds.calls k A2 c2 l2 (l0_0.length : Int) true _ ?hC ?hL I2.out).mono ?_); (case hC => exact Kd.C_below HRH.out (below_step HB2.out HD1.out)); (case hL => exact hc2); rintro e wd2 ⟨rfl, nd2, rfl⟩; have HD2 := Aside0.mk (pw_below_drewN HD1.out nd2))
      | ((with_reducible refine gate_dst (N := 28) rfl ?_); refine box_event ?hg (N := 28) ?hd (cs := #[.pointer (some ⟨g1, 0, none⟩), .slice A1 l1.length c1, .slice A2 l2.length c2, .slice none 0 0, .int .i64 (-1)]) (t := 75) ?hr ?_; (case hd => rfl); (case hg => rfl); (case hr => first | (go_simp; done) | (go_simp; rfl)); intro g2 hg2 w3 hb3 hl3; have HS3 := Aside0.mk (below_step (pw_below_drewN (Below.refl w2.heap.size w2) _) hl3); have HB3 := Aside0.mk (below_step HB2.out HS3.out); have BX3 := Aside0.mk (blk_below BX2.out HS3.out); have BY3 := Aside0.mk hb3; have G2 := Aside0.mk (show g1 < g2 from by rw [hg2]; exact blk_lt BX2.out); clear cz0; have cz0 : w3.cell? ⟨g1, 0, none⟩ = some (.slice A0_0 l0_0.length c0_0) := (blk_cell BX3.out 0).trans rfl; clear hb3 hl3 hg2)
      | ((with_reducible refine gate_dst (N := 33) rfl ?_); refine wpList_make_own _ rfl (.const (.int .i64 0)) (.tmp 32) 24 rfl w.heap.size 2 i0 (.int .i64 0) 1 Try.underlying24 HI0.out HZZ.out.1 HZZ.out.2.1 .i64 .i64 (l0_0.length : Int) l0_0.length rfl rfl rfl (by have := HOK.out.2.1; rw [HZZ.out.2.2]; omega) (by have := HOK.out.2.1; show _ ≤ 9223372036854775807; omega) (below_size HB3.out) ?_; intro w4 ho4 hg4; have hb4 : Below w3.heap.size w3 w4 := (Below.refl _ _).grown hg4 (Nat.le_refl _) (fun k hk => by simp at hk); obtain ⟨gr, hgr⟩ : ∃ gr, w3.heap.size = gr := ⟨_, rfl⟩; rw [hgr] at ho4 ⊢; have hr4 : Kd.R (Kd.int .i64) 2 w4 w.heap.size (fun k => k = gr) (.slice (some ⟨gr, 0, none⟩) 0 l0_0.length) [] := ⟨fun k hk => by simpa [Value.ownBlock] using hk.symm, [], ho4, Reps.none _ _⟩; have HR4 := Aside0.mk hr4; have HB4 := Aside0.mk (below_step HB3.out hb4); have BX4 := Aside0.mk (blk_below BX3.out hb4); have BY4 := Aside0.mk (blk_below BY3.out hb4); have HG := Aside0.mk (⟨G1.out, G2.out, by rw [← hgr]; exact blk_lt BY3.out, Kd.R_lt hr4 gr rfl⟩ : w.heap.size ≤ g1 ∧ g1 < g2 ∧ g2 < gr ∧ gr < w4.heap.size); clear hb4 ho4 hg4 hr4 hgr cz0)
      | (go_at_call 73; refine (walkC_calls w g1 g2 gr l0_0.length A0_0 c0_0 A0_1 l0_1.length c0_1 (.slice A1 l1.length c1) (.slice A2 l2.length c2) w4.heap.size HG.out HOK.out.1 HOK.out.2.1 (costN l0_0 l0_1 l1 l2) (fun pre hp => own_same pre (by rw [hp]; exact HOK.out.2.1)) (fun s wc cp pre hj hb hp hc hcp => HCL.out g1 g2 gr w4.heap.size s wc cp pre hj hb hp hc hcp) l0_0.length 0 ([], -1) [] _ (by omega) (by omega) rfl ⟨BX4.out, .slice none 0 0, BY4.out, Kd.R_nil _ _ _ _ _⟩ (Nat.le_refl _) HB4.out HR4.out).mono ?_; rintro e w6 ⟨rfl, hj6, _, hb6, _⟩; have hbb := HBB.out; unfold bestN at hbb; rw [hbb] at hj6; obtain ⟨vb, e1_, e2_⟩ := hj6.rest; have HB6 := Aside0.mk hb6; obtain ⟨A9, c9, ev9⟩ := Kd.R_slice e2_; subst ev9; have HR9 := Aside0.mk e2_; have cv4 : w6.cell? ⟨g2, 4, none⟩ = some (.int .i64 b2) := (blk_cell e1_ 4).trans rfl; (first | have cv3 : w6.cell? ⟨g2, 3, none⟩ = some (.slice A9 b1.length c9) := (blk_cell e1_ 3).trans rfl | have cv3 : w6.cell? ⟨g2, 3, none⟩ = some (.slice A9 r1.length c9) := (blk_cell e1_ 3).trans rfl); clear hbb hj6 hb6 e1_ e2_))
    repeat (go_quiet (fail); try go_wp2)
    go_ret2
    exact ⟨_, by first | rfl | (simp; done), Kd.R_nil _ _ _ _ _, by repeat (first | (with_reducible first | exact HB6.out | apply pw_below_drewN | apply below_drew1) | exact HB6.out)⟩
  · skip
    have I1 := Aside0.mk i1
    have I2 := Aside0.mk i2
    have HOK := Aside0.mk ho
    clear i1 i2 ho
    have hcl : ∀ gt gw gr M (s : List Int × Int) (wc : World) (cp : Nat) (pre : List Int), SpJ w gt gw A0_0 l0_0.length c0_0 A0_1 l0_1.length c0_1 (.slice A1 l1.length c1) (.slice A2 l2.length c2) M s wc → Below w.heap.size w wc → pre.length = l0_0.length → Kd.C (Kd.int .i64) wc (some ⟨gr, 0, none⟩) pre.length pre → pre.length ≤ cp → Calls Try.prog 78 #[.pointer (some ⟨gw, 0, none⟩), .slice (some ⟨gr, 0, none⟩) pre.length cp] wc fun e w' => e = .returned (.int .i64 (costN l0_0 l0_1 l1 l2 pre)) ∧ Below wc.heap.size wc w' := by
      intro gt gw gr M s wc cp pre hj hb hp hc hcp
      obtain ⟨a, cn, ⟨ka, e1⟩, e2, ⟨kc, e3⟩⟩ := HOK.out.2.2.2.2 pre hp
      have h1 := HOK.out.1
      have h2 := HOK.out.2.1
      have h3 := HOK.out.2.2.1
      have h4 := HOK.out.2.2.2.1
      rw [costN_eq ⟨ka, e1⟩ ⟨kc, e3⟩]
      exact costB_calls l0_0 l0_1 l1 l2 w wc gt gw gr A0_0 A0_1 A1 A2 c0_0 c0_1 c1 c2 M HR0.out hc0_0 HR1.out hc0_1 HRL.out HRH.out s cp pre hj hb hc hcp a ka kc cn e1 e3 (by omega) (by omega) (by omega) (by omega)
    have HCL := Aside0.mk hcl
    clear hcl
    go_enter Try.func45, Try.ntmps45
    go_wp2_with (first
      | ((with_reducible refine gate_dst (N := 3) rfl ?_); refine box_event ?hg (N := 3) ?hd (cs := #[.slice A0_0 l0_0.length c0_0, .slice A0_1 l0_1.length c0_1]) (t := 27) ?hr ?_; (case hd => rfl); (case hg => rfl); (case hr => first | (go_simp; done) | (go_simp; rfl)); intro g1 hg1 w1 hb1 hl1; have HB1 := Aside0.mk hl1; have BX1 := Aside0.mk hb1; have G1 := Aside0.mk (show w.heap.size ≤ g1 from by rw [hg1]; exact Nat.le_refl _); clear hb1 hl1 hg1)
      | (go_at_call 60; refine (spec_l12Ok.calls k g1 A0_0 c0_0 l0_0 A0_1 c0_1 l0_1 true _ BX1.out (Kd.C_below HR0.out HB1.out) hc0_0 (Kd.C_below HR1.out HB1.out) hc0_1 HV.out).mono ?_; rintro e w2 ⟨rfl, hb2⟩; have HB2 := Aside0.mk (below_step HB1.out hb2); have BX2 := Aside0.mk (blk_below BX1.out hb2); have cz0 : w2.cell? ⟨g1, 0, none⟩ = some (.slice A0_0 l0_0.length c0_0) := (blk_cell BX2.out 0).trans rfl; clear hb2)
      | (go_at_call 74; (with_reducible refine (spec_l12Bounds.calls k A1 c1 l1 (l0_0.length : Int) true _ ?hC ?hL I1.out).mono ?_); (case hC => exact Kd.C_below HRL.out HB2.out); (case hL => exact hc1); rintro e wd1 ⟨rfl, nd1, rfl⟩; have HD1 := Aside0.mk (pw_below_drewN (Below.refl w2.heap.size w2) nd1))
      | (go_at_call 74; (with_reducible refine (spec_l12Bounds.calls k A2 c2 l2 (l0_0.length : Int) true _ ?hC ?hL I2.out).mono ?_); (case hC => exact Kd.C_below HRH.out (below_step HB2.out HD1.out)); (case hL => exact hc2); rintro e wd2 ⟨rfl, nd2, rfl⟩; have HD2 := Aside0.mk (pw_below_drewN HD1.out nd2))
      | ((with_reducible refine gate_dst (N := 28) rfl ?_); refine box_event ?hg (N := 28) ?hd (cs := #[.pointer (some ⟨g1, 0, none⟩), .slice A1 l1.length c1, .slice A2 l2.length c2, .slice none 0 0, .int .i64 (-1)]) (t := 75) ?hr ?_; (case hd => rfl); (case hg => rfl); (case hr => first | (go_simp; done) | (go_simp; rfl)); intro g2 hg2 w3 hb3 hl3; have HS3 := Aside0.mk (below_step (pw_below_drewN (Below.refl w2.heap.size w2) _) hl3); have HB3 := Aside0.mk (below_step HB2.out HS3.out); have BX3 := Aside0.mk (blk_below BX2.out HS3.out); have BY3 := Aside0.mk hb3; have G2 := Aside0.mk (show g1 < g2 from by rw [hg2]; exact blk_lt BX2.out); clear cz0; have cz0 : w3.cell? ⟨g1, 0, none⟩ = some (.slice A0_0 l0_0.length c0_0) := (blk_cell BX3.out 0).trans rfl; clear hb3 hl3 hg2)
      | ((with_reducible refine gate_dst (N := 33) rfl ?_); refine wpList_make_own _ rfl (.const (.int .i64 0)) (.tmp 32) 24 rfl w.heap.size 2 i0 (.int .i64 0) 1 Try.underlying24 HI0.out HZZ.out.1 HZZ.out.2.1 .i64 .i64 (l0_0.length : Int) l0_0.length rfl rfl rfl (by have := HOK.out.2.1; rw [HZZ.out.2.2]; omega) (by have := HOK.out.2.1; show _ ≤ 9223372036854775807; omega) (below_size HB3.out) ?_; intro w4 ho4 hg4; have hb4 : Below w3.heap.size w3 w4 := (Below.refl _ _).grown hg4 (Nat.le_refl _) (fun k hk => by simp at hk); obtain ⟨gr, hgr⟩ : ∃ gr, w3.heap.size = gr := ⟨_, rfl⟩; rw [hgr] at ho4 ⊢; have hr4 : Kd.R (Kd.int .i64) 2 w4 w.heap.size (fun k => k = gr) (.slice (some ⟨gr, 0, none⟩) 0 l0_0.length) [] := ⟨fun k hk => by simpa [Value.ownBlock] using hk.symm, [], ho4, Reps.none _ _⟩; have HR4 := Aside0.mk hr4; have HB4 := Aside0.mk (below_step HB3.out hb4); have BX4 := Aside0.mk (blk_below BX3.out hb4); have BY4 := Aside0.mk (blk_below BY3.out hb4); have HG := Aside0.mk (⟨G1.out, G2.out, by rw [← hgr]; exact blk_lt BY3.out, Kd.R_lt hr4 gr rfl⟩ : w.heap.size ≤ g1 ∧ g1 < g2 ∧ g2 < gr ∧ gr < w4.heap.size); clear hb4 ho4 hg4 hr4 hgr cz0)
      | (go_at_call 73; refine (walkC_calls w g1 g2 gr l0_0.length A0_0 c0_0 A0_1 l0_1.length c0_1 (.slice A1 l1.length c1) (.slice A2 l2.length c2) w4.heap.size HG.out HOK.out.1 HOK.out.2.1 (costN l0_0 l0_1 l1 l2) (fun pre hp => own_same pre (by rw [hp]; exact HOK.out.2.1)) (fun s wc cp pre hj hb hp hc hcp => HCL.out g1 g2 gr w4.heap.size s wc cp pre hj hb hp hc hcp) l0_0.length 0 ([], -1) [] _ (by omega) (by omega) rfl ⟨BX4.out, .slice none 0 0, BY4.out, Kd.R_nil _ _ _ _ _⟩ (Nat.le_refl _) HB4.out HR4.out).mono ?_; rintro e w6 ⟨rfl, hj6, _, hb6, _⟩; have hbb := HBB.out; unfold bestN at hbb; rw [hbb] at hj6; obtain ⟨vb, e1_, e2_⟩ := hj6.rest; have HB6 := Aside0.mk hb6; obtain ⟨A9, c9, ev9⟩ := Kd.R_slice e2_; subst ev9; have HR9 := Aside0.mk e2_; have cv4 : w6.cell? ⟨g2, 4, none⟩ = some (.int .i64 b2) := (blk_cell e1_ 4).trans rfl; (first | have cv3 : w6.cell? ⟨g2, 3, none⟩ = some (.slice A9 b1.length c9) := (blk_cell e1_ 3).trans rfl | have cv3 : w6.cell? ⟨g2, 3, none⟩ = some (.slice A9 r1.length c9) := (blk_cell e1_ 3).trans rfl); clear hbb hj6 hb6 e1_ e2_))
    repeat (go_quiet (fail); try go_wp2)
    go_ret2
    exact ⟨_, by first | rfl | (simp; done), by (with_reducible repeat (first | apply Kd.R_drewN | apply Kd.R_drew)); exact Kd.R_mono HR9.out (fun _ _ => trivial), by repeat (first | (with_reducible first | exact HB6.out | apply pw_below_drewN | apply below_drew1) | exact HB6.out)⟩

end Go.Proofs.Ythfpaldhdohnkaa.PFnExactTurnsNeeded
