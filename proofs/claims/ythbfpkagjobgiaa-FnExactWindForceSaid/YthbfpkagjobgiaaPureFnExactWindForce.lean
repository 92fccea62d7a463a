import Derived.Test.YthbfpkagjobgiaaSayFnExactWindForce
import Derived.Test.YthbfpkagjobgiaaPlain
namespace Go.Proofs.Ythbfpkagjobgiaa.Pure
open Go.RowKit Go.Proofs.Ythbfpkagjobgiaa.PFnExactWindForce Go.Proofs.Ythbfpkagjobgiaa.Plain Go.Proofs.YthbfpkagjobgiaaW.PrintWords
set_option linter.unusedVariables false
set_option linter.unusedSimpArgs false
open Go.Proofs.YthbfpkagjobgiaaW.PrintMore
theorem specIn (n a b : Int) : spec_l00In.f n a b = some (decide (a ≤ n ∧ n ≤ b)) := by
  unfold spec_l00In.f
  by_cases h1 : n ≥ a <;> by_cases h2 : n ≤ b <;> simp [h1, h2] <;> omega
theorem implIn (n a b : Int) : impl_within.f n a b = some (decide (a ≤ n ∧ n ≤ b)) := by
  unfold impl_within.f
  by_cases h1 : n ≥ a <;> by_cases h2 : n ≤ b <;> simp [h1, h2] <;> omega
theorem smallB (c : Int) : spec_l01Small.f c = some (decide (97 ≤ c ∧ c ≤ 122)) := by
  unfold spec_l01Small.f
  by_cases h1 : c ≥ 97 <;> by_cases h2 : c ≤ 122 <;> simp [h1, h2] <;> omega
theorem digitB (c : Int) : spec_l01Digit.f c = some (decide (48 ≤ c ∧ c ≤ 57)) := by
  unfold spec_l01Digit.f
  by_cases h1 : c ≥ 48 <;> by_cases h2 : c ≤ 57 <;> simp [h1, h2] <;> omega
theorem nameLoop (s : ByteArray) (hl : s.size ≤ 12) : ∀ (m i : Nat), s.size - i = m → i ≤ s.size → ∃ b, Ev (fun k => spec_IsName.l0 k s (i : Int)) b ∧ Ev (fun k => impl_IsName.l0 k s (i : Int)) b := by
  intro m
  induction m with
  | zero =>
    intro i h1 h2
    refine ⟨true, ev_end fun k => ?_, ev_end fun k => ?_⟩
    · simp only [spec_IsName.l0]; rw [if_neg (by omega)]
    · simp only [impl_IsName.l0]; rw [if_neg (by omega)]
  | succ m ih =>
    intro i h1 h2
    have es : ∀ k, spec_IsName.l0 (k + 1) s (i : Int) = if (97 ≤ bt s i ∧ bt s i ≤ 122) ∨ (48 ≤ bt s i ∧ bt s i ≤ 57) ∨ bt s i = 45 then spec_IsName.l0 k s ((i + 1 : Nat) : Int) else some false := by
      intro k
      simp only [spec_IsName.l0]
      rw [if_pos (by omega), if_pos (by omega), smallB, digitB, succ_cast i (by omega)]
      generalize bt s (i : Int) = c
      by_cases a1 : 97 ≤ c ∧ c ≤ 122
      · simp [a1]
      · by_cases a2 : 48 ≤ c ∧ c ≤ 57
        · simp [a1, a2]
        · simp [a1, a2]
    have ei : ∀ k, impl_IsName.l0 (k + 1) s (i : Int) = if (97 ≤ bt s i ∧ bt s i ≤ 122) ∨ (48 ≤ bt s i ∧ bt s i ≤ 57) ∨ bt s i = 45 then impl_IsName.l0 k s ((i + 1 : Nat) : Int) else some false := by
      intro k
      simp only [impl_IsName.l0]
      rw [if_pos (by omega), if_pos (by omega), succ_cast i (by omega)]
      generalize bt s (i : Int) = c
      by_cases h : (97 ≤ c ∧ c ≤ 122) ∨ (48 ≤ c ∧ c ≤ 57) ∨ c = 45
      · rw [if_pos h]
        repeat' split
        all_goals first | rfl | omega
      · rw [if_neg h]
        repeat' split
        all_goals first | rfl | omega
    by_cases h : (97 ≤ bt s i ∧ bt s i ≤ 122) ∨ (48 ≤ bt s i ∧ bt s i ≤ 57) ∨ bt s i = 45
    · obtain ⟨b, h3, h4⟩ := ih (i + 1) (by omega) (by omega)
      exact ⟨b, ev_step es (ev_if_pos h h3), ev_step ei (ev_if_pos h h4)⟩
    · exact ⟨false, ev_step es (ev_if_neg h (ev_now fun _ => rfl)), ev_step ei (ev_if_neg h (ev_now fun _ => rfl))⟩
theorem name_empty (s : ByteArray) : s.toList = ([] : List UInt8) ↔ s.size = 0 := by
  have key : ∀ (m i : Nat) (r : List UInt8), s.size - i = m → (ByteArray.toList.loop s i r).length = r.length + (s.size - i) := by
    intro m
    induction m with
    | zero => intro i r h; unfold ByteArray.toList.loop; rw [if_neg (by omega)]; simp; omega
    | succ m ih => intro i r h; unfold ByteArray.toList.loop; rw [if_pos (by omega), ih (i + 1) _ (by omega)]; simp; omega
  have : s.toList.length = s.size := by unfold ByteArray.toList; rw [key s.size 0 [] (by omega)]; simp
  constructor
  · intro h; rw [h] at this; simpa using this.symm
  · intro h; rw [h] at this; exact List.length_eq_zero_iff.mp this
theorem names (s : ByteArray) : ∃ b, Ev (fun k => spec_IsName.f k s) b ∧ Ev (fun k => impl_IsName.f k s) b := by
  unfold spec_IsName.f impl_IsName.f
  have jf : Ev (fun k => spec_IsName.j0 k s true) false ∧ Ev (fun k => impl_IsName.j0 k s true) false := ⟨ev_end fun k => by simp [spec_IsName.j0], ev_end fun k => by simp [impl_IsName.j0]⟩
  by_cases h0 : s.size = 0
  · exact ⟨false, ev_if_pos ((name_empty s).mpr h0) jf.1, ev_if_pos (by omega) jf.2⟩
  have h0' : ¬ s.toList = ([] : List UInt8) := fun h => h0 ((name_empty s).mp h)
  by_cases h1 : (s.size : Int) > 12
  · exact ⟨false, ev_if_neg h0' (ev_if_pos h1 jf.1), ev_if_neg (by omega) (ev_if_pos h1 jf.2)⟩
  by_cases hc : 97 ≤ bt s 0 ∧ bt s 0 ≤ 122
  · obtain ⟨b, h3, h4⟩ := nameLoop s (by omega) s.size 0 (by omega) (by omega)
    refine ⟨b, ev_if_neg h0' (ev_if_neg h1 (ev_if_pos (by omega) ?_)), ev_if_neg (by omega) (ev_if_neg h1 (ev_if_pos (by omega) (ev_if_neg (by omega) ?_)))⟩
    · rw [smallB, decide_eq_true hc]
      exact ev_some (ev_step (f := fun k => spec_IsName.l0 k s 0) (fun k => by simp [spec_IsName.j0]) h3)
    · rw [decide_eq_false (by omega)]
      exact ev_step (f := fun k => impl_IsName.l0 k s 0) (fun k => by simp [impl_IsName.j0]) h4
  · refine ⟨false, ev_if_neg h0' (ev_if_neg h1 (ev_if_pos (by omega) ?_)), ev_if_neg (by omega) (ev_if_neg h1 (ev_if_pos (by omega) ?_))⟩
    · rw [smallB, decide_eq_false hc]
      exact ev_some jf.1
    · by_cases h2 : bt s 0 < 97
      · exact ev_if_pos h2 jf.2
      · refine ev_if_neg h2 ?_
        rw [decide_eq_true (by omega)]
        exact jf.2
theorem canvases (s : ByteArray) (a b c d : Int) : ∃ v, (v = true → 1 ≤ a ∧ a ≤ 100000 ∧ 0 ≤ b ∧ b ≤ 1000 ∧ 1 ≤ c ∧ c ≤ 200 ∧ 1 ≤ d ∧ d ≤ 1000000000) ∧ Ev (fun k => spec_l10One.f k s a b c d) v ∧ Ev (fun k => impl_validCanvas.f k s a b c d) v := by
  obtain ⟨n, h1, h2⟩ := names s
  unfold spec_l10One.f impl_validCanvas.f
  cases n with
  | false => exact ⟨false, by simp, ev_bind h1 (ev_now fun _ => rfl), ev_bind h2 (ev_now fun _ => rfl)⟩
  | true =>
    refine ⟨decide (1 ≤ a ∧ a ≤ 100000 ∧ 0 ≤ b ∧ b ≤ 1000 ∧ 1 ≤ c ∧ c ≤ 200 ∧ 1 ≤ d ∧ d ≤ 1000000000), by simp only [decide_eq_true_eq]; exact id, ev_bind h1 (ev_if_pos rfl (ev_now fun _ => ?_)), ev_bind h2 (ev_if_pos rfl (ev_now fun _ => ?_))⟩
    · simp only [specIn]
      by_cases p1 : 1 ≤ a ∧ a ≤ 100000 <;> by_cases p2 : 0 ≤ b ∧ b ≤ 1000 <;> by_cases p3 : 1 ≤ c ∧ c ≤ 200 <;> by_cases p4 : 1 ≤ d ∧ d ≤ 1000000000 <;> simp [p1, p2, p3, p4] <;> omega
    · simp only [implIn]
      by_cases p1 : 1 ≤ a ∧ a ≤ 100000 <;> by_cases p2 : 0 ≤ b ∧ b ≤ 1000 <;> by_cases p3 : 1 ≤ c ∧ c ≤ 200 <;> by_cases p4 : 1 ≤ d ∧ d ≤ 1000000000 <;> simp [p1, p2, p3, p4] <;> omega
theorem forces (s : ByteArray) (a b c d w : Int) (ha : 1 ≤ a ∧ a ≤ 100000) (hc : 1 ≤ c ∧ c ≤ 200) (hw : 0 ≤ w ∧ w ≤ 600) : ∃ v, spec_l10Force.f s a b c d w = some v ∧ impl_windForce.f s a b c d w = some v := by
  have m1 := mul_bound (a := a) (b := c) (A := 100000) (B := 200) (by omega) (by omega) (by omega) (by omega)
  have m2 := mul_bound (a := a * c) (b := w) (A := 20000000) (B := 600) (by omega) (by omega) (by omega) (by omega)
  have m3 := mul_bound (a := a * c * w) (b := w) (A := 12000000000) (B := 600) (by omega) (by omega) (by omega) (by omega)
  have n1 : 0 ≤ a * c * w * w := Int.mul_nonneg (Int.mul_nonneg (Int.mul_nonneg (by omega) (by omega)) (by omega)) (by omega)
  unfold spec_l10Force.f impl_windForce.f spec_l00Round.f spec_l00Floor.f
  rw [wrap_in (x := a * c) (by omega) (by omega), wrap_in (x := a * c * w) (by omega) (by omega), wrap_in (x := a * c * w * w) (by omega) (by omega)]
  generalize a * c * w * w = n at *
  refine ⟨(n + 80000) / 160000, ?_, ?_⟩
  · rw [wrap_in (x := 2 * n) (by omega) (by omega), wrap_in (x := 2 * n + 160000) (by omega) (by omega), show wrap64 (2 * 160000) = 320000 from wrap_in (by omega) (by omega)]
    rw [if_neg (by omega), Int.tmod_eq_emod_of_nonneg (by omega), if_neg (by omega), Int.tdiv_eq_ediv_of_nonneg (by omega), wrap_in (by omega) (by omega)]
    simp only [Option.bind_some]
    congr 1
    omega
  · rw [wrap_in (x := n + 80000) (by omega) (by omega), Int.tdiv_eq_ediv_of_nonneg (by omega), wrap_in (by omega) (by omega)]
theorem FnExactWindForce : Say.FnExactWindForce := by
  intro s a b c d w _ _ _ _ _ _
  apply Ev.rounds
  unfold laws_FnExactWindForce.f laws_szCanvas.f
  have key : ∃ v, Ev (fun k => spec_WindForce.f k s a b c d w) v ∧ Ev (fun k => impl_WindForce.f k s a b c d w) v := by
    obtain ⟨v, hv, h1, h2⟩ := canvases s a b c d
    unfold spec_WindForce.f impl_WindForce.f spec_l10Wind.f
    cases v with
    | false => exact ⟨(0, 1), ev_bind h1 (ev_now fun _ => rfl), ev_bind h2 (ev_now fun _ => rfl)⟩
    | true =>
      have hb := hv rfl
      simp only [specIn, implIn]
      by_cases hw : 0 ≤ w ∧ w ≤ 600
      · obtain ⟨f, h3, h4⟩ := forces s a b c d w ⟨hb.1, hb.2.1⟩ ⟨hb.2.2.2.2.1, hb.2.2.2.2.2.1⟩ hw
        refine ⟨(f, 0), ev_bind h1 (ev_if_pos rfl (ev_now fun _ => ?_)), ev_bind h2 (ev_if_pos rfl (ev_now fun _ => ?_))⟩
        · simp [hw, h3]
        · simp [hw, h4]
      · refine ⟨(0, 2), ev_bind h1 (ev_if_pos rfl (ev_now fun _ => ?_)), ev_bind h2 (ev_if_pos rfl (ev_now fun _ => ?_))⟩
        · rw [decide_eq_false hw]; rfl
        · rw [decide_eq_false hw]; rfl
  obtain ⟨⟨v, c'⟩, k1, k2⟩ := key
  by_cases hz : (wrap64 (1048576 - (s.size : Int))) < 0
  · rw [if_pos hz]
    exact ev_some (ev_if_pos (by omega) (ev_now fun _ => rfl))
  · rw [if_neg hz]
    refine ev_some (ev_if_neg hz ?_)
    exact ev_some (ev_bind k1 (ev_some (ev_bind k2 (ev_if_pos rfl (ev_if_pos rfl (ev_now fun _ => rfl))))))
end Go.Proofs.Ythbfpkagjobgiaa.Pure
