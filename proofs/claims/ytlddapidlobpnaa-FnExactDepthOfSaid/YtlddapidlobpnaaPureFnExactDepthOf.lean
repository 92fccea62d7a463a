import Derived.Test.YtlddapidlobpnaaSayFnExactDepthOf
import Derived.Test.YtlddapidlobpnaaPlain
namespace Go.Proofs.Ytlddapidlobpnaa.Pure
open Go.RowKit Go.Proofs.Ytlddapidlobpnaa.PFnExactDepthOf Go.Proofs.Ytlddapidlobpnaa.Plain Go.Proofs.YtlddapidlobpnaaW.PrintWords
set_option linter.unusedVariables false
set_option linter.unusedSimpArgs false
theorem specIn (n a b : Int) : spec_l00In.f n a b = some (decide (a ≤ n ∧ n ≤ b)) := by
  unfold spec_l00In.f
  by_cases h1 : n ≥ a <;> by_cases h2 : n ≤ b <;> simp [h1, h2] <;> omega
theorem implIn (n a b : Int) : impl_within.f n a b = some (decide (a ≤ n ∧ n ≤ b)) := by
  unfold impl_within.f
  by_cases h1 : n ≥ a <;> by_cases h2 : n ≤ b <;> simp [h1, h2] <;> omega
theorem toInts (l : List Int) (h : l.length ≤ 1048576) : Ev (fun k => laws_toInt64S.f k l) l := by
  unfold laws_toInt64S.f
  refine ev_if_pos (by omega) (ev_if_pos (by omega) ?_)
  have := copy_loop 0 0 id (fun k x3 x4 => laws_toInt64S.l0 k l x3 x4) l (by omega) (fun _ _ _ => rfl)
  simpa using this
theorem eqInts (l : List Int) (h : l.length ≤ 1048576) : Ev (fun k => laws_eqInt64S.f k l l) true := by
  unfold laws_eqInt64S.f
  refine ev_if_pos rfl ?_
  exact eq_loop' (fun k x5 => laws_eqInt64S.l0 k l l x5) l (by omega) (fun i => rd l i = rd l i) (fun _ => rfl) (fun _ _ => rfl)
def ok (l : List Int) : Prop := ∀ x ∈ l, 0 ≤ x ∧ x ≤ 30
theorem sum_take (l : List Int) (i : Nat) (h : i < l.length) : (l.take (i + 1)).sum = (l.take i).sum + l.getD i 0 := by
  rw [List.take_succ_eq_append_getElem h, List.sum_append]
  simp [List.getD_eq_getElem?_getD, List.getElem?_eq_getElem h]
theorem sum_bound (l : List Int) (h : ok l) : 0 ≤ l.sum ∧ l.sum ≤ 30 * l.length := by
  induction l with
  | nil => simp
  | cons x l ih =>
    have h1 := h x (by simp)
    have h2 := ih (fun y hy => h y (by simp [hy]))
    simp only [List.sum_cons, List.length_cons]
    omega
theorem sum_part (l : List Int) (h : ok l) (i : Nat) : 0 ≤ (l.take i).sum ∧ (l.take i).sum ≤ 30 * l.length := by
  have h1 := sum_bound (l.take i) (fun x hx => h x (List.mem_of_mem_take hx))
  have h2 : (l.take i).length ≤ l.length := List.length_take_le' ..
  omega
theorem getD_mem (l : List Int) (i : Nat) (h : i < l.length) : l.getD i 0 ∈ l := by
  rw [List.getD_eq_getElem?_getD, List.getElem?_eq_getElem h]; simp
/-- What both tell. -/
theorem sum_ev (l : List Int) (hl : l.length ≤ 40) (h : ok l) : Ev (fun k => spec_l00Sum.f k l) l.sum := by
  unfold spec_l00Sum.f
  refine ev_eq (loop_all (fun k i => spec_l00Sum.l0 k l (l.take i).sum (i : Int)) l.length (l.take l.length).sum (fun i hi k => ?_) (ev_end fun k => ?_)) (by simp)
  · have b := sum_part l h (i + 1)
    have e := sum_take l i hi
    show spec_l00Sum.l0 (k + 1) _ _ _ = spec_l00Sum.l0 k _ _ _
    simp only [spec_l00Sum.l0]
    rw [if_pos (by omega), if_pos (by omega), succ_cast i (by omega), e]
    congr 1
    show wrap64 (_ + l.getD (i : Int).toNat 0) = _
    rw [getD_nat]
    exact wrap_in (by omega) (by omega)
  · show spec_l00Sum.l0 (k + 1) _ _ _ = _
    simp only [spec_l00Sum.l0]
    rw [if_neg (by omega)]
open Classical in
noncomputable def val (l : List Int) : Int × Int := if ok l ∧ l.length ≤ 40 then (l.sum, 0) else (0, 2)
theorem bad (l : List Int) (i : Nat) (hi : i < l.length) (h : ¬ (0 ≤ l.getD i 0 ∧ l.getD i 0 ≤ 30)) : val l = (0, 2) := by
  unfold val
  rw [if_neg (fun hk => h (hk.1 _ (getD_mem l i hi)))]
theorem spec_depth (l : List Int) (hl : l.length ≤ 1048576) : Ev (fun k => spec_DepthOf.f k l) (val l) := by
  unfold spec_DepthOf.f
  refine loop_up (fun k i => spec_DepthOf.l0 k l (i : Int)) l.length (val l) (fun i => ∀ j, j < i → 0 ≤ l.getD j 0 ∧ l.getD j 0 ≤ 30) (fun i hi hI => ?_) (fun hI => ?_) _ 0 rfl (by omega) (fun j hj => by omega)
  · by_cases h : 0 ≤ l.getD i 0 ∧ l.getD i 0 ≤ 30
    · refine .inl ⟨fun k => ?_, fun j hj => ?_⟩
      · show spec_DepthOf.l0 (k + 1) _ _ = spec_DepthOf.l0 k _ _
        simp only [spec_DepthOf.l0, specIn, rd, getD_nat]
        rw [if_pos (by omega), if_pos (by omega), succ_cast i (by omega)]
        simp only [h, and_self, decide_true, Option.bind_some, if_true]
      · by_cases hji : j = i
        · subst hji; exact h
        · exact hI j (by omega)
    · refine .inr (ev_eq (ev_end (fun k => ?_)) (bad l i hi h).symm)
      show spec_DepthOf.l0 (k + 1) _ _ = _
      simp only [spec_DepthOf.l0, specIn, rd, getD_nat]
      rw [if_pos (by omega), if_pos (by omega)]
      simp only [h, decide_false, Option.bind_some, if_false, Bool.false_eq_true]
  · have hok : ok l := by
      intro x hx
      obtain ⟨j, hj, rfl⟩ := List.getElem_of_mem hx
      have := hI j hj
      rwa [List.getD_eq_getElem?_getD, List.getElem?_eq_getElem hj] at this
    unfold val
    by_cases h40 : l.length ≤ 40
    · rw [if_pos ⟨hok, h40⟩]
      refine ev_step (f := fun k => (spec_l00Sum.f k l).bind fun t104 => some (t104, 0)) (fun k => ?_) (ev_bind (sum_ev l h40 hok) (ev_now fun _ => rfl))
      simp only [spec_DepthOf.l0]
      rw [if_neg (by omega), if_neg (by omega)]
    · rw [if_neg (fun h => h40 h.2)]
      refine ev_end (fun k => ?_)
      simp only [spec_DepthOf.l0]
      rw [if_neg (by omega), if_pos (by omega)]
theorem impl_depth (l : List Int) (hl : l.length ≤ 1048576) : Ev (fun k => impl_DepthOf.f k l) (val l) := by
  unfold impl_DepthOf.f
  by_cases h40 : l.length ≤ 40
  · refine ev_if_neg (by omega) ?_
    refine loop_up (fun k i => impl_DepthOf.l0 k (l.take i).sum l (l.length : Int) (i : Int)) l.length (val l) (fun i => ∀ j, j < i → 0 ≤ l.getD j 0 ∧ l.getD j 0 ≤ 30) (fun i hi hI => ?_) (fun hI => ?_) _ 0 rfl (by omega) (fun j hj => by omega)
    · by_cases h : 0 ≤ l.getD i 0 ∧ l.getD i 0 ≤ 30
      · refine .inl ⟨fun k => ?_, fun j hj => ?_⟩
        · have hpre : ok (l.take (i + 1)) := by
            intro x hx
            obtain ⟨j, hj, rfl⟩ := List.getElem_of_mem hx
            have hj2 : j < l.length := by simp at hj; omega
            have hj3 : j ≤ i := by simp at hj; omega
            have hv : 0 ≤ l.getD j 0 ∧ l.getD j 0 ≤ 30 := by
              by_cases hji : j = i
              · subst hji; exact h
              · exact hI j (by omega)
            rw [List.getD_eq_getElem?_getD, List.getElem?_eq_getElem hj2] at hv
            simpa using hv
          have b := sum_bound _ hpre
          have b2 : (l.take (i + 1)).length ≤ l.length := List.length_take_le' ..
          have e := sum_take l i hi
          show impl_DepthOf.l0 (k + 1) _ _ _ _ = impl_DepthOf.l0 k _ _ _ _
          simp only [impl_DepthOf.l0, implIn, rd, getD_nat]
          rw [if_pos (by omega), if_pos (by omega), if_pos (by omega), succ_cast i (by omega), e, wrap_in (x := (List.take i l).sum + _) (by omega) (by omega)]
          simp only [h, and_self, decide_true, Option.bind_some, if_true]
        · by_cases hji : j = i
          · subst hji; exact h
          · exact hI j (by omega)
      · refine .inr (ev_eq (ev_end (fun k => ?_)) (bad l i hi h).symm)
        show impl_DepthOf.l0 (k + 1) _ _ _ _ = _
        simp only [impl_DepthOf.l0, implIn, rd, getD_nat]
        rw [if_pos (by omega), if_pos (by omega), if_pos (by omega)]
        simp only [h, decide_false, Option.bind_some, if_false, Bool.false_eq_true]
    · have hok : ok l := by
        intro x hx
        obtain ⟨j, hj, rfl⟩ := List.getElem_of_mem hx
        have := hI j hj
        rwa [List.getD_eq_getElem?_getD, List.getElem?_eq_getElem hj] at this
      unfold val
      rw [if_pos ⟨hok, h40⟩]
      refine ev_end (fun k => ?_)
      simp only [impl_DepthOf.l0]
      rw [if_neg (by omega), List.take_length]
  · refine ev_if_pos (by omega) ?_
    unfold val
    rw [if_neg (fun h => h40 h.2)]
    exact ev_now fun _ => rfl
theorem FnExactDepthOf : Say.FnExactDepthOf := by
  intro l _
  apply Ev.rounds
  unfold laws_FnExactDepthOf.f
  by_cases hl : l.length ≤ 1048576
  · refine ev_if_neg (by omega) (ev_bind (toInts l hl) (ev_bind (spec_depth l hl) (ev_bind (toInts l hl) (ev_bind (impl_depth l hl) (ev_if_pos rfl ?_)))))
    rw [bne_self_eq_false]
    refine ev_step (f := fun k => (laws_toInt64S.f k l).bind fun t124 => ((laws_eqInt64S.f k l t124).bind fun t127 => (if t127 = true then (some true) else (some false)))) (fun k => by simp only [laws_FnExactDepthOf.j0, Bool.false_eq_true, if_false]) ?_
    refine ev_bind (toInts l hl) (ev_bind (eqInts l hl) ?_)
    exact ev_now fun _ => rfl
  · exact ev_if_pos (by omega) (ev_now fun _ => rfl)
end Go.Proofs.Ytlddapidlobpnaa.Pure
