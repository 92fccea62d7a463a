/- Plain lemmas on numbers and loops with rounds: no program in sight. -/
import Derived.Test.YtchngbjpjbahiaaGreatDoorWMore
namespace Go.Proofs.YtchngbjpjbahiaaGreatDoor.Plain
open Go.RowKit Go.Proofs.YtchngbjpjbahiaaGreatDoorW.PrintWords
set_option linter.unusedVariables false
set_option linter.unusedSimpArgs false
theorem wrap_in {x : Int} (h : -9223372036854775808 ≤ x) (h' : x ≤ 9223372036854775807) : wrap64 x = x := by unfold wrap64; omega
theorem wf_i64 {x : Int} (h : (Lit.int .i64 x).wf = true) : -9223372036854775808 ≤ x ∧ x ≤ 9223372036854775807 := by
  simp only [Lit.wf, Bool.and_eq_true, decide_eq_true_eq] at h
  have h1 : IntKind.i64.min = -9223372036854775808 := by decide
  have h2 : IntKind.i64.max = 9223372036854775807 := by decide
  omega
theorem wf_u8 {x : Int} (h : (Lit.int .u8 x).wf = true) : 0 ≤ x ∧ x ≤ 255 := by
  simp only [Lit.wf, Bool.and_eq_true, decide_eq_true_eq] at h
  have h1 : IntKind.u8.min = 0 := by decide
  have h2 : IntKind.u8.max = 255 := by decide
  omega
/-! ### rounds -/
theorem ev_now {α : Type} {g : Nat → Option α} {r : α} (h : ∀ k, g k = some r) : Ev g r := ⟨0, fun k _ => h k⟩
theorem ev_step {α : Type} {g f : Nat → Option α} {r : α} (h : ∀ k, g (k + 1) = f k) (k : Ev f r) : Ev g r := Ev.step h k
theorem ev_end {α : Type} {g : Nat → Option α} {r : α} (h : ∀ k, g (k + 1) = some r) : Ev g r := ⟨1, fun n hn => by
  obtain ⟨m, rfl⟩ : ∃ m, n = m + 1 := ⟨n - 1, by omega⟩
  exact h m⟩
theorem ev_bind {α β : Type} {g : Nat → Option α} {f : Nat → α → Option β} {a : α} {r : β} (h : Ev g a) (k : Ev (fun n => f n a) r) : Ev (fun n => (g n).bind (f n)) r := Ev.bind h k
theorem ev_some {α β : Type} {a : α} {f : Nat → α → Option β} {r : β} (k : Ev (fun n => f n a) r) : Ev (fun n => (some a).bind (f n)) r := k
theorem ev_if_pos {α : Type} {c : Prop} [Decidable c] {g f : Nat → Option α} {r : α} (h : c) (k : Ev g r) : Ev (fun n => if c then g n else f n) r := by simpa only [if_pos h] using k
theorem ev_if_neg {α : Type} {c : Prop} [Decidable c] {g f : Nat → Option α} {r : α} (h : ¬ c) (k : Ev f r) : Ev (fun n => if c then g n else f n) r := by simpa only [if_neg h] using k
theorem ev_eq {α : Type} {g : Nat → Option α} {r r' : α} (h : Ev g r) (e : r = r') : Ev g r' := e ▸ h
theorem ev_congr {α : Type} {g f : Nat → Option α} {r : α} (h : ∀ k, g k = f k) (k : Ev f r) : Ev g r := Ev.congr h k
theorem ev_const {α : Type} {x : Option α} {r : α} (h : x = some r) : Ev (fun _ => x) r := ⟨0, fun _ _ => h⟩
/-- A loop whose state is told by a counter: up to n, or answered before. -/
theorem loop_up {β : Type} (F : Nat → Nat → Option β) (n : Nat) (r : β) (I : Nat → Prop)
    (step : ∀ i, i < n → I i → ((∀ k, F (k + 1) i = F k (i + 1)) ∧ I (i + 1)) ∨ Ev (fun k => F k i) r) (last : I n → Ev (fun k => F k n) r) : ∀ (m i : Nat), n - i = m → i ≤ n → I i → Ev (fun k => F k i) r := by
  intro m
  induction m with
  | zero =>
    intro i h1 h2 h3
    obtain rfl : i = n := by omega
    exact last h3
  | succ m ih =>
    intro i h1 h2 h3
    rcases step i (by omega) h3 with ⟨h4, h5⟩ | h4
    · exact ev_step (fun k => h4 k) (ih (i + 1) (by omega) (by omega) h5)
    · exact h4
theorem loop_all {β : Type} (F : Nat → Nat → Option β) (n : Nat) (r : β) (step : ∀ i, i < n → ∀ k, F (k + 1) i = F k (i + 1)) (last : Ev (fun k => F k n) r) : Ev (fun k => F k 0) r :=
  loop_up F n r (fun _ => True) (fun i hi _ => .inl ⟨step i hi, trivial⟩) (fun _ => last) n 0 (by omega) (by omega) trivial
theorem loop_up' {β : Type} (F : Nat → Nat → Option β) (n : Nat) (r : β) (I : Nat → Prop)
    (step : ∀ i, i < n → I i → (I (i + 1) ∧ (Ev (fun k => F k (i + 1)) r → Ev (fun k => F k i) r)) ∨ Ev (fun k => F k i) r) (last : I n → Ev (fun k => F k n) r) : ∀ (m i : Nat), n - i = m → i ≤ n → I i → Ev (fun k => F k i) r := by
  intro m
  induction m with
  | zero =>
    intro i h1 h2 h3
    obtain rfl : i = n := by omega
    exact last h3
  | succ m ih =>
    intro i h1 h2 h3
    rcases step i (by omega) h3 with ⟨h5, h4⟩ | h4
    · exact h4 (ih (i + 1) (by omega) (by omega) h5)
    · exact h4
theorem mul_bound {a b A B : Int} (h1 : -A ≤ a) (h2 : a ≤ A) (h3 : -B ≤ b) (h4 : b ≤ B) : -(A * B) ≤ a * b ∧ a * b ≤ A * B := by
  have k1 : 0 ≤ (A - a) * (B - b) := Int.mul_nonneg (by omega) (by omega)
  have k2 : 0 ≤ (A + a) * (B + b) := Int.mul_nonneg (by omega) (by omega)
  have k3 : 0 ≤ (A - a) * (B + b) := Int.mul_nonneg (by omega) (by omega)
  have k4 : 0 ≤ (A + a) * (B - b) := Int.mul_nonneg (by omega) (by omega)
  constructor <;> grind
theorem wrap_bound (x : Int) : -9223372036854775808 ≤ wrap64 x ∧ wrap64 x ≤ 9223372036854775807 := by unfold wrap64; omega
theorem succ_mod (i n : Nat) (h : i < 9223372036854775000) (c : Nat) (hc : c ≤ 7) : Int.tmod (wrap64 ((i : Int) + (c : Int))) (n : Int) = (((i + c) % n : Nat) : Int) := by
  rw [wrap_in (by omega) (by omega), Int.tmod_eq_emod_of_nonneg (by omega)]
  simp
theorem succ_cast (i : Nat) (h : i < 9223372036854775807) : wrap64 ((i : Int) + 1) = ((i + 1 : Nat) : Int) := by rw [wrap_in (by omega) (by omega)]; omega
theorem getD_nat {α : Type} (l : List α) (z : α) (i : Nat) : l.getD (i : Int).toNat z = l.getD i z := by rw [Int.toNat_natCast]
/-- xs.set at the place that comes next. -/
theorem set_next {α : Type} {n : Nat} (xs : List α) (ys : List α) (y x : α) (h : xs.length = n) : (xs ++ y :: ys).set n x = (xs ++ [x]) ++ ys := by
  subst h
  rw [List.set_append_right _ _ (Nat.le_refl _)]
  simp
theorem copy_loop {α β : Type} (z : α) (zb : β) (f : α → β) (F : Nat → List β → Int → Option (List β)) (l : List α) (hl : l.length < 9223372036854775807)
    (hF : ∀ k x3 x4, F (k + 1) x3 x4 = if x4 < (l.length : Int) then (if 0 ≤ x4 then (if x4 < (x3.length : Int) then (F k (x3.set x4.toNat (f (l.getD x4.toNat z))) (wrap64 (x4 + 1))) else (none)) else (none)) else (some x3)) :
    Ev (fun k => F k (List.replicate l.length zb) 0) (l.map f) := by
  have h := loop_all (fun k i => F k ((l.take i).map f ++ List.replicate (l.length - i) zb) (i : Int)) l.length (l.map f) (fun i hi k => by
    show F (k + 1) _ _ = F k _ _
    rw [hF, if_pos (by omega), if_pos (by omega), if_pos (by simp; omega), succ_cast i (by omega)]
    have e : List.replicate (l.length - i) zb = zb :: List.replicate (l.length - (i + 1)) zb := by
      rw [← List.replicate_succ]; congr 1; omega
    rw [e, Int.toNat_natCast, set_next _ _ _ _ (by simp; omega)]
    congr 2
    rw [List.take_succ_eq_append_getElem hi, List.map_append]
    simp [List.getD_eq_getElem?_getD, List.getElem?_eq_getElem hi]) (by
    refine ev_end (fun k => ?_)
    show F (k + 1) _ _ = _
    rw [hF, if_neg (by omega)]
    simp)
  simpa using h
theorem eq_loop {α : Type} (z : α) (T : α → Option Bool) (F : Nat → Int → Option Bool) (l : List α) (hl : l.length < 9223372036854775807) (hT : ∀ x, T x = some true)
    (hF : ∀ k x5, F (k + 1) x5 = if x5 < (l.length : Int) then (if 0 ≤ x5 then (if x5 < (l.length : Int) then ((T (l.getD x5.toNat z)).bind fun t => (if t = true then (F k (wrap64 (x5 + 1))) else (some false))) else (none)) else (none)) else (some true)) :
    Ev (fun k => F k 0) true := by
  refine loop_all (fun k i => F k (i : Int)) l.length true (fun i hi k => ?_) ?_
  · show F (k + 1) _ = F k _
    rw [hF, if_pos (by omega), if_pos (by omega), if_pos (by omega), hT, succ_cast i (by omega)]
    rfl
  · refine ev_end (fun k => ?_)
    show F (k + 1) _ = _
    rw [hF, if_neg (by omega)]
theorem eq_loop' {α : Type} (F : Nat → Int → Option Bool) (l : List α) (hl : l.length < 9223372036854775807) (P : Int → Prop) [∀ i, Decidable (P i)] (hP : ∀ i, P i)
    (hF : ∀ k x5, F (k + 1) x5 = if x5 < (l.length : Int) then (if 0 ≤ x5 then (if x5 < (l.length : Int) then (if P x5 then (F k (wrap64 (x5 + 1))) else (some false)) else (none)) else (none)) else (some true)) :
    Ev (fun k => F k 0) true := by
  refine loop_all (fun k i => F k (i : Int)) l.length true (fun i hi k => ?_) ?_
  · show F (k + 1) _ = F k _
    rw [hF, if_pos (by omega), if_pos (by omega), if_pos (by omega), if_pos (hP _), succ_cast i (by omega)]
  · refine ev_end (fun k => ?_)
    show F (k + 1) _ = _
    rw [hF, if_neg (by omega)]
/-! ### the greatest common divisor -/
theorem gcd_any (F : Nat → Int → Int → Option Int) (hF : ∀ k x y, F (k + 1) x y = if y = 0 then some x else F k y (Int.tmod x y)) : ∀ (n : Nat) (a b : Int), b.natAbs ≤ n → ∃ r : Int, Ev (fun k => F k a b) r ∧ r.natAbs = Nat.gcd a.natAbs b.natAbs ∧ (0 ≤ a → 0 ≤ b → 0 ≤ r) := by
  intro n
  induction n with
  | zero =>
    intro a b hb
    obtain rfl : b = 0 := by omega
    exact ⟨a, ev_end (fun k => by rw [hF, if_pos rfl]), by simp, fun h _ => h⟩
  | succ n ih =>
    intro a b hb
    by_cases hz : b = 0
    · subst hz
      exact ⟨a, ev_end (fun k => by rw [hF, if_pos rfl]), by simp, fun h _ => h⟩
    · have hlt : (Int.tmod a b).natAbs < b.natAbs := by rw [Int.natAbs_tmod]; exact Nat.mod_lt _ (by omega)
      obtain ⟨r, h1, h2, h3⟩ := ih b (Int.tmod a b) (by omega)
      refine ⟨r, ev_step (fun k => by rw [hF, if_neg hz]) h1, ?_, fun ha hb => h3 hb (Int.tmod_nonneg b ha)⟩
      rw [h2, Int.natAbs_tmod, Nat.gcd_comm, ← Nat.gcd_rec, Nat.gcd_comm]
theorem gcd_ev (F : Nat → Int → Int → Option Int) (hF : ∀ k x y, F (k + 1) x y = if y = 0 then some x else F k y (Int.tmod x y)) (a b : Int) (ha : 0 ≤ a) (hb : 0 ≤ b) : Ev (fun k => F k a b) (Int.gcd a b : Int) := by
  obtain ⟨r, h1, h2, h3⟩ := gcd_any F hF _ a b (Nat.le_refl _)
  have := h3 ha hb
  have e : r = (Int.gcd a b : Int) := by unfold Int.gcd; omega
  rwa [← e]
/-- A fraction in lowest terms; the second number is positive. -/
def lowest (n d : Int) : Int × Int := (n / (Int.gcd n d : Int), d / (Int.gcd n d : Int))
theorem gcd_pos {n d : Int} (h : 0 < d) : 0 < (Int.gcd n d : Int) := by
  have : 0 < Int.gcd n d := Int.gcd_pos_of_ne_zero_right n (by omega)
  omega
theorem gcd_le {n d : Int} (h : 0 < d) : (Int.gcd n d : Int) ≤ d := Int.le_of_dvd h (Int.gcd_dvd_right ..)
theorem tdiv_gcd_left (n d : Int) : Int.tdiv n (Int.gcd n d : Int) = n / (Int.gcd n d : Int) := by
  rw [Int.tdiv_eq_ediv_of_dvd (Int.gcd_dvd_left ..)]
theorem tdiv_gcd_right (n d : Int) : Int.tdiv d (Int.gcd n d : Int) = d / (Int.gcd n d : Int) := by
  rw [Int.tdiv_eq_ediv_of_dvd (Int.gcd_dvd_right ..)]
theorem div_bound {a g : Int} (hg : 0 < g) {B : Int} (h1 : -B ≤ a) (h2 : a ≤ B) (hB : 0 ≤ B) : -B ≤ a / g ∧ a / g ≤ B := by
  have h3 : B * 1 ≤ B * g := Int.mul_le_mul_of_nonneg_left (by omega) hB
  constructor
  · rw [Int.le_ediv_iff_mul_le hg]
    have : -B * g = -(B * g) := Int.neg_mul ..
    omega
  · exact Int.ediv_le_of_le_mul hg (by omega)
theorem lowest_bound {n d : Int} (h : 0 < d) {B : Int} (h1 : -B ≤ n) (h2 : n ≤ B) (hd : d ≤ B) : -B ≤ (lowest n d).1 ∧ (lowest n d).1 ≤ B ∧ 0 < (lowest n d).2 ∧ (lowest n d).2 ≤ d := by
  have hg := gcd_pos (n := n) h
  have hb := div_bound hg h1 h2 (by omega)
  have hp : 0 < d / (Int.gcd n d : Int) := Int.ediv_pos_of_pos_of_dvd h (by omega) (Int.gcd_dvd_right ..)
  have hc : d / (Int.gcd n d : Int) ≤ d := Int.ediv_le_self _ (by omega)
  exact ⟨hb.1, hb.2, hp, hc⟩
theorem lowest_num (n d : Int) : (lowest n d).1 * (Int.gcd n d : Int) = n := Int.ediv_mul_cancel (Int.gcd_dvd_left ..)
theorem lowest_den (n d : Int) : (lowest n d).2 * (Int.gcd n d : Int) = d := Int.ediv_mul_cancel (Int.gcd_dvd_right ..)
theorem lowest_cross {n d : Int} (h : 0 < d) : (lowest n d).1 * d = n * (lowest n d).2 := by
  have h1 := lowest_num n d
  have h2 := lowest_den n d
  generalize (Int.gcd n d : Int) = g at *
  grind
theorem lowest_coprime {n d : Int} (h : 0 < d) : Int.gcd (lowest n d).1 (lowest n d).2 = 1 := by
  unfold lowest
  exact Int.gcd_ediv_gcd_ediv_gcd (by have := gcd_pos (n := n) h; omega)
theorem make_ev (G : Nat → Int → Int → Option Int) (hG : ∀ k x y, G (k + 1) x y = if y = 0 then some x else G k y (Int.tmod x y)) (F : Nat → Int → Int → Option (Int × Int))
    (hF : ∀ k a b, F k a b = (if a < 0 then (some (wrap64 (-a))) else (some a)).bind fun t => ((G k t b).bind fun g => (if g = 0 then none else (some (wrap64 (Int.tdiv a g), wrap64 (Int.tdiv b g))))))
    {n d : Int} (h0 : -9223372036854775807 ≤ n) (h1 : n ≤ 9223372036854775807) (h2 : 0 < d) (h3 : d ≤ 9223372036854775807) : Ev (fun k => F k n d) (lowest n d) := by
  have hg := gcd_pos (n := n) h2
  have hb := lowest_bound h2 h0 h1 h3
  have hab : Int.gcd (if n < 0 then -n else n) d = Int.gcd n d := by unfold Int.gcd; split <;> simp
  refine ev_congr (fun k => hF k n d) ?_
  have ht : (if n < 0 then (some (wrap64 (-n))) else (some n)) = some (if n < 0 then -n else n) := by
    split
    · rw [wrap_in (by omega) (by omega)]
    · rfl
  rw [ht]
  refine ev_some (ev_bind (gcd_ev G hG _ d (by split <;> omega) (by omega)) ?_)
  rw [hab]
  refine ev_if_neg (by omega) ?_
  rw [tdiv_gcd_left, tdiv_gcd_right]
  have e1 : wrap64 (n / (Int.gcd n d : Int)) = n / (Int.gcd n d : Int) := wrap_in (by have := hb.1; unfold lowest at this; omega) (by have := hb.2.1; unfold lowest at this; omega)
  have e2 : wrap64 (d / (Int.gcd n d : Int)) = d / (Int.gcd n d : Int) := wrap_in (by have := hb.2.2.1; unfold lowest at this; simp only at this; omega) (by have := hb.2.2.2; unfold lowest at this; simp only at this; omega)
  rw [e1, e2]
  exact ev_now (fun _ => rfl)
/-- The other gcd: of a number and a positive one, a sign taken off. -/
theorem gcdj_ev (G J : Nat → Int → Int → Option Int) (F : Nat → Int → Int → Option Int) (hG : ∀ k x y, G (k + 1) x y = if y = 0 then some x else G k y (Int.tmod x y)) (hJ : ∀ k x y, J (k + 1) x y = G k x y)
    (hF : ∀ k a b, F k a b = if a < 0 then J k (wrap64 (-a)) b else J k a b) {n d : Int} (h0 : -9223372036854775807 ≤ n) (h2 : 0 ≤ d) : Ev (fun k => F k n d) (Int.gcd n d : Int) := by
  refine ev_congr (fun k => hF k n d) ?_
  by_cases hn : n < 0
  · refine ev_if_pos hn (ev_step (fun k => hJ k _ _) ?_)
    rw [wrap_in (by omega) (by omega)]
    have e : Int.gcd (-n) d = Int.gcd n d := by simp
    rw [← e]
    exact gcd_ev G hG _ d (by omega) h2
  · exact ev_if_neg hn (ev_step (fun k => hJ k _ _) (gcd_ev G hG _ d (by omega) h2))
theorem fraction_ev (G J : Nat → Int → Int → Option Int) (Q : Nat → Int → Int → Option Int) (F : Nat → Int → Int → Option (Int × Int)) (hG : ∀ k x y, G (k + 1) x y = if y = 0 then some x else G k y (Int.tmod x y)) (hJ : ∀ k x y, J (k + 1) x y = G k x y)
    (hQ : ∀ k a b, Q k a b = if a < 0 then J k (wrap64 (-a)) b else J k a b)
    (hF : ∀ k a b, F k a b = if b < 0 then ((Q k (wrap64 (-a)) (wrap64 (-b))).bind fun g => (if g = 0 then none else (some (wrap64 (Int.tdiv (wrap64 (-a)) g), wrap64 (Int.tdiv (wrap64 (-b)) g))))) else ((Q k a b).bind fun g => (if g = 0 then none else (some (wrap64 (Int.tdiv a g), wrap64 (Int.tdiv b g))))))
    {n d : Int} (h0 : -9223372036854775807 ≤ n) (h1 : n ≤ 9223372036854775807) (h2 : d ≠ 0) (h3 : -9223372036854775807 ≤ d) (h4 : d ≤ 9223372036854775807) :
    Ev (fun k => F k n d) (if d < 0 then lowest (-n) (-d) else lowest n d) := by
  have key : ∀ a b : Int, -9223372036854775807 ≤ a → a ≤ 9223372036854775807 → 0 < b → b ≤ 9223372036854775807 →
      Ev (fun k => (Q k a b).bind fun g => (if g = 0 then none else (some (wrap64 (Int.tdiv a g), wrap64 (Int.tdiv b g))))) (lowest a b) := by
    intro a b ha ha' hb hb'
    have hg := gcd_pos (n := a) hb
    have hbd := lowest_bound hb ha ha' hb'
    refine ev_bind (gcdj_ev G J Q hG hJ hQ ha (by omega)) ?_
    refine ev_if_neg (by omega) ?_
    rw [tdiv_gcd_left, tdiv_gcd_right]
    have e1 : wrap64 (a / (Int.gcd a b : Int)) = a / (Int.gcd a b : Int) := wrap_in (by have := hbd.1; unfold lowest at this; omega) (by have := hbd.2.1; unfold lowest at this; omega)
    have e2 : wrap64 (b / (Int.gcd a b : Int)) = b / (Int.gcd a b : Int) := wrap_in (by have := hbd.2.2.1; unfold lowest at this; simp only at this; omega) (by have := hbd.2.2.2; unfold lowest at this; simp only at this; omega)
    rw [e1, e2]
    exact ev_now (fun _ => rfl)
  refine ev_congr (fun k => hF k n d) ?_
  by_cases hd : d < 0
  · rw [if_pos hd]
    refine ev_if_pos hd ?_
    rw [wrap_in (x := -n) (by omega) (by omega), wrap_in (x := -d) (by omega) (by omega)]
    exact key _ _ (by omega) (by omega) (by omega) (by omega)
  · rw [if_neg hd]
    exact ev_if_neg hd (key _ _ h0 h1 (by omega) h4)
end Go.Proofs.YtchngbjpjbahiaaGreatDoor.Plain
