import Derived.Test.YtfbimpibpjebaaaSayFnExactSameSail
import Derived.Test.YtfbimpibpjebaaaPlain
namespace Go.Proofs.Ytfbimpibpjebaaa.Pure
open Go.RowKit Go.Proofs.Ytfbimpibpjebaaa.PFnExactSameSail Go.Proofs.Ytfbimpibpjebaaa.Plain Go.Proofs.YtfbimpibpjebaaaW.PrintWords
set_option linter.unusedVariables false
set_option linter.unusedSimpArgs false
open Go.Proofs.YtfbimpibpjebaaaW.PrintMore
/-! ### what the laws do with corners -/
def cv (x : S50) : S48 := ⟨x.f0, x.f1⟩
theorem toSpots (l : List S50) (h : l.length ≤ 1048576) : Ev (fun k => laws_toSpotS.f k l) (l.map cv) := by
  unfold laws_toSpotS.f
  refine ev_if_pos (by omega) (ev_if_pos (by omega) ?_)
  exact copy_loop z50 z48 cv (fun k x3 x4 => laws_toSpotS.l0 k l x3 x4) l (by omega) (fun _ _ _ => rfl)
theorem eqSpot (a b c d : Int) : laws_eqSpot.f a b c d = some (decide (a = c ∧ b = d)) := by
  unfold laws_eqSpot.f
  by_cases h1 : a = c <;> by_cases h2 : b = d <;> simp [h1, h2]
theorem eqSpots (l : List S48) (h : l.length ≤ 1048576) : Ev (fun k => laws_eqSpotS.f k l l) true := by
  unfold laws_eqSpotS.f
  refine ev_if_pos rfl ?_
  refine eq_loop z48 (fun x => laws_eqSpot.f x.f0 x.f1 x.f0 x.f1) (fun k x5 => laws_eqSpotS.l0 k l l x5) l (by omega) (fun x => by simp [eqSpot]) (fun _ _ => rfl)
theorem szSpots (l : List S50) (n : Int) (h0 : 0 ≤ n) (hn : n ≤ 1048576) (hl : l.length ≤ 9223372036854775807) : laws_szSpotS.f l n = some (if (l.length : Int) ≤ n then n - l.length else -1) := by
  unfold laws_szSpotS.f
  rw [wrap_in (by omega) (by omega)]
  by_cases h : (l.length : Int) ≤ n
  · rw [if_neg (by omega), if_pos h]
  · rw [if_pos (by omega), if_neg h]
/-- Both walk through both lists alike. -/
theorem same (a b : List S48) (ha : a.length ≤ 1048576) : ∃ r : Bool, Ev (fun k => spec_SameSail.f k a b) r ∧ Ev (fun k => impl_SameSail.f k a b) r := by
  unfold spec_SameSail.f impl_SameSail.f impl_Spot.f
  by_cases h : (a.length : Int) = (b.length : Int)
  · have key : ∀ (m i : Nat), a.length - i = m → i ≤ a.length → ∃ r : Bool, Ev (fun k => spec_SameSail.l0 k a b (i : Int)) r ∧ Ev (fun k => impl_Spot.l0 k a b (a.length : Int) (i : Int)) r := by
      intro m
      induction m with
      | zero =>
        intro i h1 h2
        obtain rfl : i = a.length := by omega
        refine ⟨true, ev_end fun k => ?_, ev_end fun k => ?_⟩
        · simp only [spec_SameSail.l0]; rw [if_neg (by omega)]
        · simp only [impl_Spot.l0]; rw [if_neg (by omega)]
      | succ m ih =>
        intro i h1 h2
        obtain ⟨r, h3, h4⟩ := ih (i + 1) (by omega) (by omega)
        by_cases hc : (!(((rd_T48 a (i : Int)).f0) == ((rd_T48 b (i : Int)).f0)) || (!(((rd_T48 a (i : Int)).f1) == ((rd_T48 b (i : Int)).f1)))) = true
        · refine ⟨false, ev_end fun k => ?_, ev_end fun k => ?_⟩
          · simp only [spec_SameSail.l0]; rw [if_pos (by omega), if_pos (by omega), if_pos (by omega), if_pos hc]
          · simp only [impl_Spot.l0]; rw [if_pos (by omega), if_pos (by omega), if_pos (by omega), if_pos (by omega), if_pos hc]
        · refine ⟨r, ev_step (fun k => ?_) h3, ev_step (fun k => ?_) h4⟩
          · simp only [spec_SameSail.l0]; rw [if_pos (by omega), if_pos (by omega), if_pos (by omega), if_neg hc, succ_cast i (by omega)]
          · simp only [impl_Spot.l0]; rw [if_pos (by omega), if_pos (by omega), if_pos (by omega), if_pos (by omega), if_neg hc, succ_cast i (by omega)]
    obtain ⟨r, h1, h2⟩ := key a.length 0 (by omega) (by omega)
    exact ⟨r, ev_if_pos h h1, ev_bind (ev_if_pos h h2) (ev_now fun _ => rfl)⟩
  · exact ⟨false, ev_if_neg h (ev_now fun _ => rfl), ev_bind (ev_if_neg h (ev_now fun _ => rfl)) (ev_now fun _ => rfl)⟩
theorem FnExactSameSail : Say.FnExactSameSail := by
  intro l l' hl hl'
  have hl := hl.1
  have hl' := hl'.1
  apply Ev.rounds
  unfold laws_FnExactSameSail.f
  rw [szSpots l 1048576 (by omega) (by omega) (by unfold maxLen at hl; omega)]
  by_cases h : l.length ≤ 1048576
  · rw [if_pos (by omega)]
    refine ev_some (ev_if_neg (by omega) ?_)
    rw [szSpots l' _ (by omega) (by omega) (by unfold maxLen at hl'; omega)]
    by_cases h' : (l'.length : Int) ≤ 1048576 - l.length
    · rw [if_pos h']
      have hn : (l.map cv).length ≤ 1048576 := by simpa using h
      have hn' : (l'.map cv).length ≤ 1048576 := by simp; omega
      obtain ⟨r, h1, h2⟩ := same (l.map cv) (l'.map cv) hn
      have t := toSpots l h
      have t' := toSpots l' (by omega)
      refine ev_some (ev_if_neg (by omega) (ev_bind t (ev_bind t' (ev_bind h1 (ev_bind t (ev_bind t' (ev_bind h2 ?_)))))))
      refine ev_if_neg (by simp) (ev_bind t (ev_bind (eqSpots _ hn) (ev_if_pos rfl (ev_bind t' (ev_bind (eqSpots _ hn') (ev_if_pos rfl (ev_now fun _ => rfl)))))))
    · rw [if_neg h']
      exact ev_some (ev_if_pos (by omega) (ev_now fun _ => rfl))
  · rw [if_neg (by omega)]
    exact ev_some (ev_if_pos (by omega) (ev_now fun _ => rfl))
end Go.Proofs.Ytfbimpibpjebaaa.Pure
