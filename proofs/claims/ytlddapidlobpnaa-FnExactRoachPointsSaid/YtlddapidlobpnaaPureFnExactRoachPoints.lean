import Derived.Test.YtlddapidlobpnaaSayFnExactRoachPoints
import Derived.Test.YtlddapidlobpnaaPlain
namespace Go.Proofs.Ytlddapidlobpnaa.Pure
open Go.RowKit Go.Proofs.Ytlddapidlobpnaa.PFnExactRoachPoints Go.Proofs.Ytlddapidlobpnaa.Plain Go.Proofs.YtlddapidlobpnaaW.PrintWords
set_option linter.unusedVariables false
set_option linter.unusedSimpArgs false
theorem make {n d : Int} (h0 : -9223372036854775807 ≤ n) (h1 : n ≤ 9223372036854775807) (h2 : 0 < d) (h3 : d ≤ 9223372036854775807) : Ev (fun k => spec_l01Make.f k n d) (lowest n d) :=
  make_ev spec_l00Gcd.l0 (fun _ _ _ => rfl) spec_l01Make.f (fun _ _ _ => rfl) h0 h1 h2 h3
theorem frac {n d : Int} (h0 : -9223372036854775807 ≤ n) (h1 : n ≤ 9223372036854775807) (h2 : 0 < d) (h3 : d ≤ 9223372036854775807) : Ev (fun k => impl_fraction.f k n d) (lowest n d) := by
  have := fraction_ev impl_gcd.l0 impl_gcd.j0 impl_gcd.f impl_fraction.f (fun _ _ _ => by simp only [impl_gcd.l0]) (fun _ _ _ => by simp only [impl_gcd.j0]) (fun _ _ _ => rfl) (fun _ _ _ => rfl) (n := n) (d := d) h0 h1 (by omega) (by omega) h3
  rwa [if_neg (by omega)] at this
theorem specOk (a b : Int) : spec_l14Ok.f a b = some (decide (1 ≤ a ∧ a ≤ 2000 ∧ 0 ≤ b ∧ b ≤ 500)) := by
  unfold spec_l14Ok.f spec_l00In.f
  by_cases h1 : a ≥ 1 <;> by_cases h2 : a ≤ 2000 <;> by_cases h3 : b ≥ 0 <;> by_cases h4 : b ≤ 500 <;> simp [h1, h2, h3, h4] <;> omega
theorem implOk (a b : Int) : impl_ValidRoach.f a b = some (decide (1 ≤ a ∧ a ≤ 2000 ∧ 0 ≤ b ∧ b ≤ 500)) := by
  unfold impl_ValidRoach.f impl_within.f
  by_cases h1 : a ≥ 1 <;> by_cases h2 : a ≤ 2000 <;> by_cases h3 : b ≥ 0 <;> by_cases h4 : b ≤ 500 <;> simp [h1, h2, h3, h4] <;> omega
theorem specIn (n a b : Int) : spec_l00In.f n a b = some (decide (a ≤ n ∧ n ≤ b)) := by
  unfold spec_l00In.f
  by_cases h1 : n ≥ a <;> by_cases h2 : n ≤ b <;> simp [h1, h2] <;> omega
theorem implIn (n a b : Int) : impl_within.f n a b = some (decide (a ≤ n ∧ n ≤ b)) := by
  unfold impl_within.f
  by_cases h1 : n ≥ a <;> by_cases h2 : n ≤ b <;> simp [h1, h2] <;> omega
theorem eqF (a b c d : Int) : laws_eqFraction.f a b c d = some (decide (a = c ∧ b = d)) := by
  unfold laws_eqFraction.f
  by_cases h1 : a = c <;> by_cases h2 : b = d <;> simp [h1, h2]
/-! ### marks -/
def mk2 (i : Nat) : S45 := ⟨1 + 2 * (i : Int), 2 + 2 * (i : Int)⟩
def mks (n : Nat) : List S45 := (List.range n).map mk2
theorem mks_len (n : Nat) : (mks n).length = n := by simp [mks]
theorem set_at {α : Type} (a b : List α) (y x : α) (i : Nat) (h : a.length = i) : (a ++ y :: b).set i x = a ++ x :: b := by
  subst h
  rw [List.set_append_right _ _ (Nat.le_refl _)]
  simp
theorem marks (l : List S45) (h : l.length ≤ 1048576) : Ev (fun k => laws_markFractionS.f k l 1) (1 + 2 * (l.length : Int), mks l.length) := by
  unfold laws_markFractionS.f
  have key := loop_all (fun k i => laws_markFractionS.l0 k (mks i ++ l.drop i) (1 + 2 * (i : Int)) (i : Int)) l.length (1 + 2 * (l.length : Int), mks l.length) (fun i hi k => ?_) (ev_end fun k => ?_)
  · simpa [mks] using key
  · show laws_markFractionS.l0 (k + 1) _ _ _ = laws_markFractionS.l0 k _ _ _
    have hlen : (mks i ++ l.drop i).length = l.length := by simp [mks_len]; omega
    simp only [laws_markFractionS.l0]
    rw [hlen, if_pos (by omega), if_pos (by omega)]
    have e : l.drop i = l[i] :: l.drop (i + 1) := List.drop_eq_getElem_cons hi
    simp only [Option.bind_some, Int.toNat_natCast]
    rw [e, set_at _ _ _ _ _ (mks_len i), set_at _ _ _ _ _ (mks_len i)]
    have e2 : (rd_T45 (mks i ++ (⟨1 + 2 * (i : Int), (rd_T45 (mks i ++ l[i] :: l.drop (i + 1)) (i : Int)).f1⟩ : S45) :: l.drop (i + 1)) (i : Int)).f0 = 1 + 2 * (i : Int) := by
      unfold rd_T45
      rw [getD_nat, List.getD_eq_getElem?_getD, List.getElem?_append_right (by rw [mks_len]; omega)]
      simp [mks_len]
    rw [e2, wrap_in (x := 1 + 2 * (i : Int) + 1) (by omega) (by omega), wrap_in (x := 1 + 2 * (i : Int) + 1 + 1) (by omega) (by omega), succ_cast i (by omega)]
    have e3 : mks (i + 1) = mks i ++ [mk2 i] := by simp [mks, List.range_succ]
    have e4 : 1 + 2 * (i : Int) + 1 + 1 = 1 + 2 * ((i + 1 : Nat) : Int) := by omega
    have e5 : (⟨1 + 2 * (i : Int), 1 + 2 * (i : Int) + 1⟩ : S45) = mk2 i := by unfold mk2; congr 1; omega
    rw [e3, List.append_assoc, e4, e5]
    rfl
  · show laws_markFractionS.l0 (k + 1) _ _ _ = _
    simp only [laws_markFractionS.l0]
    have hlen : (mks l.length ++ l.drop l.length).length = l.length := by simp [mks_len]
    rw [hlen, if_neg (by omega)]
    simp
theorem held (n : Nat) (h : n ≤ 1048576) : Ev (fun k => laws_heldFractionS.f k (mks n) 1) (1 + 2 * (n : Int)) := by
  unfold laws_heldFractionS.f
  have key := loop_all (fun k i => laws_heldFractionS.l0 k (mks n) (1 + 2 * (i : Int)) (i : Int)) n (1 + 2 * (n : Int)) (fun i hi k => ?_) (ev_end fun k => ?_)
  · simpa using key
  · show laws_heldFractionS.l0 (k + 1) _ _ _ = laws_heldFractionS.l0 k _ _ _
    have e : rd_T45 (mks n) (i : Int) = mk2 i := by
      unfold rd_T45
      rw [getD_nat, List.getD_eq_getElem?_getD, List.getElem?_eq_getElem (by rw [mks_len]; omega)]
      simp [mks]
    simp only [laws_heldFractionS.l0, e]
    rw [mks_len, if_pos (by omega), if_pos (by omega), if_pos (by rfl), wrap_in (x := 1 + 2 * (i : Int) + 1) (by omega) (by omega), wrap_in (x := 1 + 2 * (i : Int) + 1 + 1) (by omega) (by omega), succ_cast i (by omega)]
    have e4 : 1 + 2 * (i : Int) + 1 + 1 = 1 + 2 * ((i + 1 : Nat) : Int) := by omega
    rw [if_pos (by simp [mk2]; omega), e4]
  · show laws_heldFractionS.l0 (k + 1) _ _ _ = _
    simp only [laws_heldFractionS.l0]
    rw [mks_len, if_neg (by omega)]
theorem eqFs (l : List S45) (h : l.length ≤ 1048576) : Ev (fun k => laws_eqFractionS.f k l l) true := by
  unfold laws_eqFractionS.f
  refine ev_if_pos rfl ?_
  exact eq_loop z45 (fun x => laws_eqFraction.f x.f0 x.f1 x.f0 x.f1) (fun k x5 => laws_eqFractionS.l0 k l l x5) l (by omega) (fun x => by simp [eqF]) (fun _ _ => rfl)
def pf (b n : Int) (i : Nat) : S45 := ⟨(lowest (4 * b * i * (n - i)) (n * n)).1, (lowest (4 * b * i * (n - i)) (n * n)).2⟩
def val (a b n : Int) : List S45 × Int := if 1 ≤ a ∧ a ≤ 2000 ∧ 0 ≤ b ∧ b ≤ 500 then (if 1 ≤ n ∧ n ≤ 16 then ((List.range (n.toNat + 1)).map (pf b n), 0) else ([], 2)) else ([], 1)
theorem val_len (a b n : Int) : (val a b n).1.length ≤ 1048576 := by
  unfold val
  split
  · split
    · simp; omega
    · simp
  · simp
theorem bound (b n : Int) (i : Nat) (h : 0 ≤ b ∧ b ≤ 500) (h2 : 1 ≤ n ∧ n ≤ 16) (hi : (i : Int) ≤ n) : (0 ≤ 4 * b * i ∧ 4 * b * i ≤ 2000 * 16) ∧ (0 ≤ 4 * b * i * (n - i) ∧ 4 * b * i * (n - i) ≤ 2000 * 16 * 16) ∧ (1 ≤ n * n ∧ n * n ≤ 16 * 16) := by
  have p1 : 0 ≤ 4 * b * i ∧ 4 * b * i ≤ 2000 * 16 := ⟨Int.mul_nonneg (by omega) (by omega), Int.mul_le_mul (by omega) (by omega) (by omega) (by omega)⟩
  have p2 : 0 ≤ 4 * b * i * (n - i) ∧ 4 * b * i * (n - i) ≤ 2000 * 16 * 16 := ⟨Int.mul_nonneg p1.1 (by omega), Int.mul_le_mul p1.2 (by omega) (by omega) (by omega)⟩
  have p3 : n * n ≤ 16 * 16 := Int.mul_le_mul h2.2 h2.2 (by omega) (by omega)
  have p4 : 1 * 1 ≤ n * n := Int.mul_le_mul h2.1 h2.1 (by omega) (by omega)
  exact ⟨p1, p2, by omega, p3⟩
theorem specPoints (a b n : Int) : Ev (fun k => spec_RoachPoints.f k a b n) (val a b n) := by
  unfold spec_RoachPoints.f spec_l14Code.f val
  simp only [specOk, specIn, Option.bind_some]
  by_cases h : 1 ≤ a ∧ a ≤ 2000 ∧ 0 ≤ b ∧ b ≤ 500
  · by_cases h2 : 1 ≤ n ∧ n ≤ 16
    · simp only [h, h2, and_self, decide_true, if_true, Option.bind_some]
      obtain ⟨m, rfl⟩ := Int.eq_ofNat_of_zero_le (show 0 ≤ n by omega)
      rw [Int.toNat_natCast]
      refine loop_up' (fun k i => spec_RoachPoints.l0 k (m : Int) ((List.range i).map (pf b m)) (i : Int) a b) (m + 1) _ (fun _ => True) (fun i hi _ => .inl ⟨trivial, fun hn => ?_⟩) (fun _ => ev_end fun k => ?_) _ 0 rfl (by omega) trivial
      · obtain ⟨p1, p2, p3⟩ := bound b m i ⟨h.2.2.1, h.2.2.2⟩ h2 (by omega)
        refine ev_step (f := fun k => (spec_l01Make.f k (4 * b * (i : Int) * ((m : Int) - i)) ((m : Int) * m)).bind fun bt135 => (if ((List.range i).map (pf b m)).length < 8796093022208 then (spec_RoachPoints.l0 k (m : Int) (((List.range i).map (pf b m)) ++ [(⟨bt135.1, bt135.2⟩ : S45)]) ((i + 1 : Nat) : Int) a b) else (none))) (fun k => ?_) (ev_bind (make (by omega) (by omega) (by omega) (by omega)) (ev_if_pos (by simp; omega) ?_))
        · show spec_RoachPoints.l0 (k + 1) _ _ _ _ _ = _
          simp only [spec_RoachPoints.l0]
          rw [if_pos (by omega), wrap_in (x := 4 * b) (by omega) (by omega), wrap_in (x := 4 * b * _) (by omega) (by omega), wrap_in (x := (m : Int) - _) (by omega) (by omega), wrap_in (x := 4 * b * _ * _) (by omega) (by omega), wrap_in (x := (m : Int) * _) (by omega) (by omega), succ_cast i (by omega)]
        · have e : (List.range i).map (pf b m) ++ [(⟨(lowest (4 * b * (i : Int) * ((m : Int) - i)) ((m : Int) * m)).1, (lowest (4 * b * (i : Int) * ((m : Int) - i)) ((m : Int) * m)).2⟩ : S45)] = (List.range (i + 1)).map (pf b m) := by simp [List.range_succ, pf]
          rw [e]
          exact hn
      · show spec_RoachPoints.l0 (k + 1) _ _ _ _ _ = _
        simp only [spec_RoachPoints.l0]
        rw [if_neg (by omega)]
    · simp only [h, h2, and_self, decide_true, if_true, decide_false, if_false, Bool.false_eq_true, Option.bind_some]
      exact ev_now fun _ => rfl
  · simp only [h, decide_false, if_false, Bool.false_eq_true, Option.bind_some]
    exact ev_now fun _ => rfl
theorem implPoints (a b n : Int) : Ev (fun k => impl_RoachPoints.f k a b n) (val a b n) := by
  unfold impl_RoachPoints.f val
  simp only [implOk, implIn, Option.bind_some]
  by_cases h : 1 ≤ a ∧ a ≤ 2000 ∧ 0 ≤ b ∧ b ≤ 500
  · by_cases h2 : 1 ≤ n ∧ n ≤ 16
    · simp only [h, h2, and_self, decide_true, if_true, Option.bind_some]
      obtain ⟨m, rfl⟩ := Int.eq_ofNat_of_zero_le (show 0 ≤ n by omega)
      rw [Int.toNat_natCast]
      refine loop_up' (fun k i => impl_RoachPoints.l0 k (m : Int) ((List.range i).map (pf b m)) (i : Int) a b) (m + 1) _ (fun _ => True) (fun i hi _ => .inl ⟨trivial, fun hn => ?_⟩) (fun _ => ev_end fun k => ?_) _ 0 rfl (by omega) trivial
      · obtain ⟨p1, p2, p3⟩ := bound b m i ⟨h.2.2.1, h.2.2.2⟩ h2 (by omega)
        refine ev_step (f := fun k => (impl_fraction.f k (4 * b * (i : Int) * ((m : Int) - i)) ((m : Int) * m)).bind fun bt135 => (if ((List.range i).map (pf b m)).length < 8796093022208 then (impl_RoachPoints.l0 k (m : Int) (((List.range i).map (pf b m)) ++ [(⟨bt135.1, bt135.2⟩ : S45)]) ((i + 1 : Nat) : Int) a b) else (none))) (fun k => ?_) (ev_bind (frac (by omega) (by omega) (by omega) (by omega)) (ev_if_pos (by simp; omega) ?_))
        · show impl_RoachPoints.l0 (k + 1) _ _ _ _ _ = _
          simp only [impl_RoachPoints.l0]
          rw [if_pos (by omega), wrap_in (x := 4 * b) (by omega) (by omega), wrap_in (x := 4 * b * _) (by omega) (by omega), wrap_in (x := (m : Int) - _) (by omega) (by omega), wrap_in (x := 4 * b * _ * _) (by omega) (by omega), wrap_in (x := (m : Int) * _) (by omega) (by omega), succ_cast i (by omega)]
        · have e : (List.range i).map (pf b m) ++ [(⟨(lowest (4 * b * (i : Int) * ((m : Int) - i)) ((m : Int) * m)).1, (lowest (4 * b * (i : Int) * ((m : Int) - i)) ((m : Int) * m)).2⟩ : S45)] = (List.range (i + 1)).map (pf b m) := by simp [List.range_succ, pf]
          rw [e]
          exact hn
      · show impl_RoachPoints.l0 (k + 1) _ _ _ _ _ = _
        simp only [impl_RoachPoints.l0]
        rw [if_neg (by omega)]
    · simp only [h, h2, and_self, decide_true, if_true, decide_false, if_false, Bool.false_eq_true, Option.bind_some]
      exact ev_now fun _ => rfl
  · simp only [h, decide_false, if_false, Bool.false_eq_true, Option.bind_some]
    exact ev_now fun _ => rfl
theorem FnExactRoachPoints : Say.FnExactRoachPoints := by
  intro a b n _ _ _
  apply Ev.rounds
  unfold laws_FnExactRoachPoints.f laws_toRoach.f
  have hg := val_len a b n
  refine ev_some (ev_bind (specPoints a b n) (ev_some (ev_bind (implPoints a b n) (ev_bind (eqFs _ hg) (ev_if_pos rfl ?_)))))
  generalize hm : val a b n = g at *
  obtain ⟨g, c⟩ := g
  rw [bne_self_eq_false]
  refine ev_step (fun k => by simp only [laws_FnExactRoachPoints.j0, Bool.false_eq_true, if_false, laws_toRoach.f, Option.bind_some]; rfl) ?_
  refine ev_bind (marks _ hg) (ev_bind (held _ hg) (ev_if_neg (by simp; omega) (ev_if_pos rfl (ev_bind (ev_eq (implPoints a b n) hm) (ev_bind (eqFs _ hg) (ev_if_pos rfl ?_))))))
  rw [bne_self_eq_false]
  refine ev_step (fun k => by simp only [laws_FnExactRoachPoints.j1, Bool.false_eq_true, if_false]; rfl) ?_
  exact ev_bind (held _ hg) (ev_if_neg (by simp; omega) (ev_if_pos rfl (ev_now fun _ => rfl)))
end Go.Proofs.Ytlddapidlobpnaa.Pure
