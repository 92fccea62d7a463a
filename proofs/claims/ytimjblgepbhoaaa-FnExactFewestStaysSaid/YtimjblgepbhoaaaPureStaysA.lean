import Derived.Test.YtimjblgepbhoaaaHStays0
import Derived.Test.YtimjblgepbhoaaaPlain
import Derived.Test.YtimjblgepbhoaaaHStaysa
import Derived.Test.YtimjblgepbhoaaaHStaysc
import Derived.Test.YtimjblgepbhoaaaHStaysd
import Derived.Test.YtimjblgepbhoaaaHStaysg
import Derived.Test.YtimjblgepbhoaaaHStaysl
import Derived.Test.YtimjblgepbhoaaaHStaysm
import Derived.Test.YtimjblgepbhoaaaHStayso
import Derived.Test.YtimjblgepbhoaaaHStaysp
import Derived.Test.YtimjblgepbhoaaaHStaysq
namespace Go.Proofs.Ytimjblgepbhoaaa.Pure
open Go.RowKit Go.Proofs.Ytimjblgepbhoaaa.PStays Go.Proofs.Ytimjblgepbhoaaa.Plain Go.Proofs.YtimjblgepbhoaaaW.PrintWords Go.Proofs.YtimjblgepbhoaaaW.PrintMore
set_option linter.unusedVariables false
set_option linter.unusedSimpArgs false
namespace Det
abbrev V := Nat → Rat
def ex (f : List V → Rat) (c : Nat) : List V → List V → Rat
 | _, [] => 0
 | pre, v :: I => v c * f (pre ++ I) - ex f c (pre ++ [v]) I
def D : List Nat → List V → Rat
 | [], [] => 1
 | [], _ :: _ => 0
 | c :: C, I => ex (D C) c [] I

theorem ex_append (f : List V → Rat) (c : Nat) (pre I J : List V) :
  ex f c pre (I ++ J) = ex (fun l => f (l ++ J)) c pre I + (-1) ^ I.length * ex f c (pre ++ I) J := by
 induction I generalizing pre with
 | nil => simp [ex]; grind
 | cons v I ih =>
  simp only [List.cons_append, ex, ih, List.length_cons, List.append_assoc, List.nil_append]
  grind

theorem ex_congr {f g : List V → Rat} (c : Nat) (pre I : List V) (h : ∀ l, f l = g l) : ex f c pre I = ex g c pre I := by
 have : f = g := funext h
 rw [this]

theorem ex_neg (f : List V → Rat) (c : Nat) (pre I : List V) : ex (fun l => - f l) c pre I = - ex f c pre I := by
 induction I generalizing pre with
 | nil => simp [ex]
 | cons v I ih => simp only [ex, ih]; grind

theorem ex_lin (f g : List V → Rat) (a b : Rat) (c : Nat) (pre I : List V) : ex (fun l => a * f l + b * g l) c pre I = a * ex f c pre I + b * ex g c pre I := by
 induction I generalizing pre with
 | nil => simp [ex]; grind
 | cons v I ih => simp only [ex, ih]; grind

theorem ex_pre (f : List V → Rat) (c : Nat) (p pre I : List V) : ex f c (p ++ pre) I = ex (fun l => f (p ++ l)) c pre I := by
 induction I generalizing pre with
 | nil => simp [ex]
 | cons v I ih =>
  simp only [ex, List.append_assoc]
  rw [ih]

theorem D_swap (C : List Nat) : ∀ (pre : List V) (u v : V) (I : List V), D C (pre ++ u :: v :: I) = - D C (pre ++ v :: u :: I) := by
 induction C with
 | nil =>
  intro pre u v I
  cases pre <;> simp [D]
 | cons c C ih =>
  intro pre u v I
  simp only [D]
  rw [ex_append, ex_append]
  have h1 : ex (fun l => D C (l ++ u :: v :: I)) c [] pre = - ex (fun l => D C (l ++ v :: u :: I)) c [] pre := by
   rw [← ex_neg]; exact ex_congr c [] pre (fun l => ih l u v I)
  rw [h1]
  simp only [ex, List.nil_append, List.append_assoc, List.cons_append]
  have h2 : ex (D C) c (pre ++ [u, v]) I = - ex (D C) c (pre ++ [v, u]) I := by
   have e1 := ex_pre (D C) c (pre ++ [u, v]) [] I
   have e2 := ex_pre (D C) c (pre ++ [v, u]) [] I
   simp only [List.append_nil] at e1 e2
   rw [e1, e2, ← ex_neg]
   refine ex_congr c [] I (fun l => ?_)
   have := ih pre u v l
   simpa using this
  rw [h2]
  grind

def S (s : Rat) : Prop := s = 1 ∨ s = -1

theorem D_perm {I J : List V} (h : I.Perm J) : ∀ pre : List V, ∃ s : Rat, (s = 1 ∨ s = -1) ∧ ∀ C, D C (pre ++ I) = s * D C (pre ++ J) := by
 induction h with
 | nil => intro pre; exact ⟨1, Or.inl rfl, fun C => by grind⟩
 | cons x _ ih =>
  intro pre
  obtain ⟨s, hs, h⟩ := ih (pre ++ [x])
  exact ⟨s, hs, fun C => by simpa using h C⟩
 | swap x y l =>
  intro pre
  exact ⟨-1, Or.inr rfl, fun C => by rw [D_swap]; grind⟩
 | trans _ _ ih1 ih2 =>
  intro pre
  obtain ⟨s, hs, h⟩ := ih1 pre
  obtain ⟨t, ht, h'⟩ := ih2 pre
  refine ⟨s * t, ?_, fun C => by rw [h, h']; grind⟩
  rcases hs with rfl | rfl <;> rcases ht with rfl | rfl <;> grind

theorem D_lin (C : List Nat) : ∀ (pre : List V) (a b : Rat) (u v w : V) (I : List V), (∀ c, w c = a * u c + b * v c) → D C (pre ++ w :: I) = a * D C (pre ++ u :: I) + b * D C (pre ++ v :: I) := by
 induction C with
 | nil =>
  intro pre a b u v w I _
  cases pre <;> simp [D] <;> grind
 | cons c C ih =>
  intro pre a b u v w I hw
  simp only [D]
  rw [ex_append, ex_append, ex_append]
  have h1 : ex (fun l => D C (l ++ w :: I)) c [] pre = a * ex (fun l => D C (l ++ u :: I)) c [] pre + b * ex (fun l => D C (l ++ v :: I)) c [] pre := by
   rw [← ex_lin]; exact ex_congr c [] pre (fun l => ih l a b u v w I hw)
  rw [h1]
  simp only [ex, List.nil_append]
  have h2 : ex (D C) c (pre ++ [w]) I = a * ex (D C) c (pre ++ [u]) I + b * ex (D C) c (pre ++ [v]) I := by
   have e1 := ex_pre (D C) c (pre ++ [w]) [] I
   have e2 := ex_pre (D C) c (pre ++ [u]) [] I
   have e3 := ex_pre (D C) c (pre ++ [v]) [] I
   simp only [List.append_nil] at e1 e2 e3
   rw [e1, e2, e3, ← ex_lin]
   refine ex_congr c [] I (fun l => ?_)
   have := ih pre a b u v w l hw
   simpa using this
  rw [h2, hw]
  grind

theorem D_dup (C : List Nat) (pre : List V) (u : V) (I : List V) : D C (pre ++ u :: u :: I) = 0 := by
 have := D_swap C pre u u I
 grind

def cs (l : List (Nat → Int)) (c : Nat) : Nat := (l.map fun v => (v c).natAbs).sum
def nb (C : List Nat) (l : List (Nat → Int)) : Nat := (C.map (cs l)).prod
def up (v : Nat → Int) : V := fun c => (v c : Rat)
theorem cs_append (l m : List (Nat → Int)) (c : Nat) : cs (l ++ m) c = cs l c + cs m c := by simp [cs]
theorem cs_cons (v : Nat → Int) (m : List (Nat → Int)) (c : Nat) : cs (v :: m) c = (v c).natAbs + cs m c := by simp [cs]
theorem nb_mono (C : List Nat) (l m : List (Nat → Int)) (h : ∀ c, cs l c ≤ cs m c) : nb C l ≤ nb C m := by
 induction C with
 | nil => simp [nb]
 | cons c C ih => simp only [nb, List.map_cons, List.prod_cons] at *; exact Nat.mul_le_mul (h c) ih
theorem ex_int (c : Nat) (B : Nat) (f : List V → Rat)
  (pre I : List (Nat → Int)) (h : ∀ l : List (Nat → Int), (∀ c, cs l c ≤ cs (pre ++ I) c) → ∃ z : Int, f (l.map up) = z ∧ z.natAbs ≤ B) :
  ∃ z : Int, ex f c (pre.map up) (I.map up) = z ∧ z.natAbs ≤ cs I c * B := by
 induction I generalizing pre with
 | nil => exact ⟨0, by simp [ex], by simp⟩
 | cons v I ih =>
  obtain ⟨z1, h1, b1⟩ := h (pre ++ I) (fun c => by simp only [cs_append, cs_cons]; omega)
  obtain ⟨z2, h2, b2⟩ := ih (pre ++ [v]) (fun l hl => h l (fun c => by have := hl c; simp only [List.append_assoc, List.cons_append, List.nil_append] at this; exact this))
  refine ⟨v c * z1 - z2, ?_, ?_⟩
  ·simp only [List.map_cons, ex]
   rw [← List.map_append, h1]
   have : List.map up pre ++ [up v] = List.map up (pre ++ [v]) := by simp
   rw [this, h2]
   simp [up, Rat.intCast_mul, Rat.intCast_sub]
  ·rw [cs_cons, Nat.add_mul]
   have h3 : (v c * z1).natAbs ≤ (v c).natAbs * B := by rw [Int.natAbs_mul]; exact Nat.mul_le_mul_left _ b1
   omega
theorem D_int (C : List Nat) : ∀ (l : List (Nat → Int)), ∃ z : Int, D C (l.map up) = z ∧ z.natAbs ≤ nb C l := by
 induction C with
 | nil =>
  intro l
  cases l with
  | nil => exact ⟨1, by simp [D], by simp [nb]⟩
  | cons v l => exact ⟨0, by simp [D], by simp⟩
 | cons c C ih =>
  intro l
  obtain ⟨z, hz, hb⟩ := ex_int c (nb C l) (D C) [] l (fun m hm => by
   obtain ⟨z, h1, h2⟩ := ih m
   exact ⟨z, h1, Nat.le_trans h2 (nb_mono C m l hm)⟩)
  exact ⟨z, by simpa [D] using hz, by simpa [nb] using hb⟩

theorem D_move (C : List Nat) (u : V) : ∀ (P X Y : List V), D C (P ++ (X ++ u :: Y)) = (-1) ^ X.length * D C (P ++ (u :: X ++ Y)) := by
 intro P X
 induction X generalizing P with
 | nil => intro Y; simp
 | cons v X ih =>
  intro Y
  have h := ih (P ++ [v]) Y
  have h2 := D_swap C P v u (X ++ Y)
  simp only [List.append_assoc, List.cons_append, List.nil_append, List.length_cons] at h h2 ⊢
  rw [h, h2]
  grind
theorem D_dup' (C : List Nat) (u : V) (P Y : List V) : D C (u :: (P ++ u :: Y)) = 0 := by
 have h := D_move C u [u] P Y
 have h2 := D_dup C [] u (P ++ Y)
 simp only [List.cons_append, List.nil_append] at h h2
 rw [h, h2]; grind
theorem D_clear (C : List Nat) (u : V) {ι : Type} (g h : ι → V) : ∀ (X : List ι) (P : List V), (∀ i ∈ X, ∃ a : Rat, ∀ c, g i c = h i c + a * u c) → D C (u :: (P ++ X.map g)) = D C (u :: (P ++ X.map h)) := by
 intro X
 induction X with
 | nil => intro P _; rfl
 | cons i X ih =>
  intro P hX
  obtain ⟨a, ha⟩ := hX i (by simp)
  have h1 := D_lin C (u :: P) 1 a (h i) u (g i) (X.map g) (fun c => by rw [ha]; grind)
  have h2 := D_dup' C u P (X.map g)
  have h3 := ih (P ++ [h i]) (fun j hj => hX j (by simp [hj]))
  simp only [List.cons_append, List.append_assoc, List.nil_append, List.map_cons] at h1 h2 h3 ⊢
  rw [h1, h2, ← h3]; grind
theorem D_scale (C : List Nat) (P : List V) (a : Rat) (u v : V) (Y : List V) (h : ∀ c, u c = a * v c) : D C (P ++ u :: Y) = a * D C (P ++ v :: Y) := by
 have := D_lin C P a 0 v v u Y (fun c => by rw [h]; grind)
 rw [this]; grind

structure Inv (m k : Nat) (C : Nat → Nat) (d : Rat) (R B : Nat → V) : Prop where
 hk : k ≤ m
 hd : d ≠ 0
 delta : ∀ s t, s < k → t < k → R s (C t) = if s = t then 1 else 0
 zero : ∀ i t, k ≤ i → i < m → t < k → R i (C t) = 0
 det : ∀ cs (E : List Nat), (∀ i ∈ E, k ≤ i ∧ i < m) → D cs ((List.range k).map R ++ E.map R) * d = D cs ((List.range k).map B ++ E.map B)
theorem Inv.start (m : Nat) (C : Nat → Nat) (B : Nat → V) : Inv m 0 C 1 B B :=
 ⟨by omega, by decide, fun s t h => by omega, fun i t _ _ h => by omega, fun cs E _ => by grind⟩
def sw (k f i : Nat) : Nat := if i = k then f else if i = f then k else i
def stepR (k f c : Nat) (R : Nat → V) : Nat → V := fun i => if i = k then (fun j => R f j / R f c) else fun j => R (sw k f i) j - R (sw k f i) c * (R f j / R f c)
theorem Inv.step {m k : Nat} {C : Nat → Nat} {d : Rat} {R B : Nat → V} (I : Inv m k C d R B) (f c : Nat) (h0 : k ≤ f) (h1 : f < m) (hp : R f c ≠ 0) :
  Inv m (k + 1) (fun t => if t = k then c else C t) (d * R f c) (stepR k f c R) (fun i => B (sw k f i)) := by
 have hsw : ∀ i, i < k → sw k f i = i := by intro i hi; unfold sw; rw [if_neg (by omega), if_neg (by omega)]
 have hsw2 : ∀ i, k ≤ i → i < m → k ≤ sw k f i ∧ sw k f i < m := by intro i hi hm; unfold sw; split <;> (try split) <;> omega
 refine ⟨by omega, ?_, ?_, ?_, ?_⟩
 ·have := I.hd; grind
 ·intro s t hs ht
  unfold stepR
  by_cases hsk : s = k
  ·subst hsk
   rw [if_pos rfl]
   by_cases htk : t = s
   ·subst htk; simp; grind
   ·simp only [if_neg htk]; rw [I.zero f t h0 h1 (by omega), if_neg (by omega)]; grind
  ·rw [if_neg hsk, hsw s (by omega)]
   by_cases htk : t = k
   ·subst htk; simp only [if_true]; rw [if_neg hsk]; grind
   ·simp only [if_neg htk]; rw [I.zero f t h0 h1 (by omega), I.delta s t (by omega) (by omega)]; grind
 ·intro i t hi him ht
  unfold stepR
  rw [if_neg (by omega)]
  by_cases htk : t = k
  ·subst htk; simp only [if_true]; grind
  ·simp only [if_neg htk]; rw [I.zero f t h0 h1 (by omega), I.zero _ t (hsw2 i (by omega) him).1 (hsw2 i (by omega) him).2 (by omega)]; grind
 ·intro cs E hE
  have hu : stepR k f c R k = fun j => R f j / R f c := by unfold stepR; rw [if_pos rfl]
  let u : V := fun j => R f j / R f c
  let R1 : Nat → V := fun i => R (sw k f i)
  have e1 : (List.range (k + 1)).map (stepR k f c R) ++ E.map (stepR k f c R) = (List.range k).map (stepR k f c R) ++ u :: E.map (stepR k f c R) := by
   rw [List.range_succ, List.map_append, List.append_assoc]; simp [hu, u]
  have m1 := D_move cs u [] ((List.range k).map (stepR k f c R)) (E.map (stepR k f c R))
  have m2 := D_move cs u [] ((List.range k).map R1) (E.map R1)
  have cl := D_clear cs u (stepR k f c R) R1 (List.range k ++ E) [] (fun i hi => by
   have hik : i ≠ k := by
    rcases List.mem_append.1 hi with h | h
    ·have := List.mem_range.1 h; omega
    ·have := hE i h; omega
   refine ⟨- R (sw k f i) c, fun j => ?_⟩
   unfold stepR
   rw [if_neg hik]
   simp only [R1, u]; grind)
  simp only [List.nil_append, List.length_map, List.length_range, List.map_append, List.cons_append] at m1 m2 cl
  have e2 : D cs ((List.range k).map R1 ++ u :: E.map R1) = (1 / R f c) * D cs ((List.range k).map R1 ++ R f :: E.map R1) :=
   D_scale cs _ _ _ _ _ (fun j => by simp only [u]; grind)
  have e3 : (List.range k).map R1 = (List.range k).map R := by
   apply List.map_congr_left; intro i hi; simp only [R1]; rw [hsw i (List.mem_range.1 hi)]
  have e4 : R f :: E.map R1 = (f :: E.map (sw k f)).map R := by simp [R1]
  have hd := I.det cs (f :: E.map (sw k f)) (fun i hi => by
   rcases List.mem_cons.1 hi with rfl | h
   ·omega
   ·obtain ⟨a, ha, rfl⟩ := List.mem_map.1 h
    exact hsw2 a (by have := hE a ha; omega) (hE a ha).2)
  have e5 : (List.range (k + 1)).map (fun i => B (sw k f i)) ++ E.map (fun i => B (sw k f i)) = (List.range k).map B ++ (f :: E.map (sw k f)).map B := by
   rw [List.range_succ, List.map_append, List.append_assoc]
   have : (List.range k).map (fun i => B (sw k f i)) = (List.range k).map B := by
    apply List.map_congr_left; intro i hi; rw [hsw i (List.mem_range.1 hi)]
   rw [this]
   have h5 : sw k f k = f := by simp [sw]
   simp [h5]
  rw [e1, e5, ← hd, m1, cl, ← m2, e2, e3, e4]
  grind
theorem D_reduced (R : Nat → V) (r : V) (j : Nat) : ∀ (T : List (Nat × Nat)), (T.map Prod.snd).Nodup → (∀ p ∈ T, ∀ q ∈ T, R p.2 q.1 = if p.2 = q.2 then 1 else 0) → (∀ q ∈ T, r q.1 = 0) →
  D (T.map Prod.fst ++ [j]) (T.map (fun p => R p.2) ++ [r]) = r j := by
 intro T
 induction T with
 | nil => intro _ _ _; simp [D, ex]; grind
 | cons p T ih =>
  intro hn h hr
  have hz : ∀ (pre : List V) (X : List V), (∀ v ∈ X, v p.1 = 0) → ex (D (T.map Prod.fst ++ [j])) p.1 pre X = 0 := by
   intro pre X
   induction X generalizing pre with
   | nil => intro _; rfl
   | cons v X ih2 => intro hX; simp only [ex]; rw [ih2 _ (fun w hw => hX w (by simp [hw])), hX v (by simp)]; grind
  simp only [List.map_cons, List.cons_append, D, ex, List.nil_append]
  rw [ih (by simp only [List.map_cons, List.nodup_cons] at hn; exact hn.2) (fun a ha b hb => h a (by simp [ha]) b (by simp [hb])) (fun q hq => hr q (by simp [hq]))]
  rw [hz _ _ (fun v hv => by
   rcases List.mem_append.1 hv with hv | hv
   ·obtain ⟨q, hq, rfl⟩ := List.mem_map.1 hv
    rw [h q (by simp [hq]) p (by simp)]
    rw [if_neg]
    intro he
    simp only [List.map_cons, List.nodup_cons] at hn
    exact hn.1 (List.mem_map.2 ⟨q, hq, he⟩)
   ·simp only [List.mem_singleton] at hv; subst hv; exact hr p (by simp))]
  rw [h p (by simp) p (by simp)]
  simp; grind
end Det
namespace Det
def W (m : Nat) (T : Nat → Nat → Int) (c : Nat) : Nat := ((List.range m).map (fun i => (T i c).natAbs)).sum
theorem sum_sub (g : Nat → Nat) : ∀ (m : Nat) (E : List Nat), E.Nodup → (∀ i ∈ E, i < m) → (E.map g).sum ≤ ((List.range m).map g).sum
 | 0, E, _, h => by
  cases E with
  | nil => simp
  | cons a E => have := h a (by simp); omega
 | m + 1, E, hn, h => by
  rw [List.range_succ, List.map_append, List.sum_append]
  by_cases hm : m ∈ E
  ·have hp := List.perm_cons_erase hm
   have e : (E.map g).sum = ((m :: E.erase m).map g).sum := (hp.map g).sum_nat
   have := sum_sub g m (E.erase m) (hn.erase m) (fun i hi => by
    have h1 := (List.Nodup.mem_erase_iff hn).1 hi
    have := h i h1.2
    have := h1.1
    omega)
   rw [e]; simp only [List.map_cons, List.sum_cons, List.map_nil, List.sum_nil]; omega
  ·have := sum_sub g m E hn (fun i hi => by
    have h1 := h i hi
    have h2 : i ≠ m := fun e => hm (e ▸ hi)
    omega)
   omega
theorem nodup_map {α β : Type} {f : α → β} {l : List α} (hi : ∀ a ∈ l, ∀ b ∈ l, f a = f b → a = b) (h : l.Nodup) : (l.map f).Nodup := by
 induction l with
 | nil => simp
 | cons a l ih =>
  simp only [List.map_cons, List.nodup_cons] at h ⊢
  refine ⟨fun hm => ?_, ih (fun x hx y hy => hi x (by simp [hx]) y (by simp [hy])) h.2⟩
  obtain ⟨b, hb, e⟩ := List.mem_map.1 hm
  have := hi b (by simp [hb]) a (by simp) e
  exact h.1 (this ▸ hb)
def P (m : Nat) (T : Nat → Nat → Int) (C : List Nat) : Nat := (C.map (W m T)).prod
theorem cs_le {m : Nat} {T : Nat → Nat → Int} {g : Nat → Nat} (E : List Nat) (hn : E.Nodup) (hE : ∀ i ∈ E, i < m) (hg : ∀ i, i < m → g i < m) (hi : ∀ i j, i < m → j < m → g i = g j → i = j) (c : Nat) : cs (E.map (fun i => T (g i))) c ≤ W m T c := by
 have := sum_sub (fun i => (T i c).natAbs) m (E.map g) (nodup_map (fun a ha b hb => hi a b (hE a ha) (hE b hb)) hn) (fun i h => by
  obtain ⟨a, ha, rfl⟩ := List.mem_map.1 h
  exact hg a (hE a ha))
 rw [List.map_map] at this
 unfold cs W
 rw [List.map_map]
 exact this
theorem nb_le {m : Nat} {T : Nat → Nat → Int} {g : Nat → Nat} (E : List Nat) (hn : E.Nodup) (hE : ∀ i ∈ E, i < m) (hg : ∀ i, i < m → g i < m) (hi : ∀ i j, i < m → j < m → g i = g j → i = j) : ∀ C, nb C (E.map (fun i => T (g i))) ≤ P m T C
 | [] => Nat.le_refl _
 | c :: C => by
  have := nb_le (T := T) E hn hE hg hi C
  simp only [nb, P, List.map_cons, List.prod_cons] at *
  exact Nat.mul_le_mul (cs_le E hn hE hg hi c) this
theorem Inv.lo {m k : Nat} {C : Nat → Nat} {d : Rat} {R : Nat → V} {T : Nat → Nat → Int} {g : Nat → Nat} (I : Inv m k C d R (fun i => up (T (g i)))) (hg : ∀ i, i < m → g i < m) (hi : ∀ i j, i < m → j < m → g i = g j → i = j) {i : Nat} (h0 : k ≤ i) (h1 : i < m) (j : Nat) :
  ∃ z : Int, R i j * d = (z : Rat) ∧ z.natAbs ≤ P m T ((List.range k).map C ++ [j]) := by
 have hr := D_reduced R (R i) j ((List.range k).map (fun t => (C t, t))) (by rw [List.map_map]; show ((List.range k).map (fun t => t)).Nodup; rw [List.map_id']; exact List.nodup_range) (fun p hp q hq => by
  obtain ⟨s, hs, rfl⟩ := List.mem_map.1 hp
  obtain ⟨t, ht, rfl⟩ := List.mem_map.1 hq
  exact I.delta s t (List.mem_range.1 hs) (List.mem_range.1 ht)) (fun q hq => by
  obtain ⟨t, ht, rfl⟩ := List.mem_map.1 hq
  exact I.zero i t h0 h1 (List.mem_range.1 ht))
 rw [List.map_map, List.map_map] at hr
 have hd := I.det ((List.range k).map C ++ [j]) [i] (fun x hx => by rw [List.mem_singleton.1 hx]; exact ⟨h0, h1⟩)
 obtain ⟨z, hz, hb⟩ := D_int ((List.range k).map C ++ [j]) ((List.range k ++ [i]).map (fun i => T (g i)))
 refine ⟨z, ?_, Nat.le_trans hb (nb_le _ ?_ ?_ hg hi _)⟩
 ·rw [← hz, ← hr, List.map_map, List.map_append]
  exact hd
 ·rw [List.nodup_append]
  refine ⟨List.nodup_range, by simp, fun a ha b hb => ?_⟩
  have := List.mem_range.1 ha
  rw [List.mem_singleton.1 hb]; omega
 ·intro x hx
  have := I.hk
  rcases List.mem_append.1 hx with h | h
  ·have := List.mem_range.1 h; omega
  ·rw [List.mem_singleton.1 h]; exact h1
theorem Inv.hi {m k : Nat} {C : Nat → Nat} {d : Rat} {R : Nat → V} {T : Nat → Nat → Int} {g : Nat → Nat} (I : Inv m k C d R (fun i => up (T (g i)))) (hg : ∀ i, i < m → g i < m) (hi : ∀ i j, i < m → j < m → g i = g j → i = j) {i : Nat} (h0 : i < k) (j : Nat) :
  ∃ z : Int, R i j * d = (z : Rat) ∧ z.natAbs ≤ P m T (((List.range k).erase i).map C ++ [j]) := by
 have hnd : (List.range k).Nodup := List.nodup_range
 have hm : ∀ t, t ∈ (List.range k).erase i → t < k ∧ t ≠ i := fun t ht => by
  have := (List.Nodup.mem_erase_iff hnd).1 ht
  exact ⟨List.mem_range.1 this.2, this.1⟩
 have hr := D_reduced R (R i) j (((List.range k).erase i).map (fun t => (C t, t))) (by rw [List.map_map]; show (((List.range k).erase i).map (fun t => t)).Nodup; rw [List.map_id']; exact hnd.erase i) (fun p hp q hq => by
  obtain ⟨s, hs, rfl⟩ := List.mem_map.1 hp
  obtain ⟨t, ht, rfl⟩ := List.mem_map.1 hq
  exact I.delta s t (hm s hs).1 (hm t ht).1) (fun q hq => by
  obtain ⟨t, ht, rfl⟩ := List.mem_map.1 hq
  have := I.delta i t h0 (hm t ht).1
  rw [if_neg (fun e => (hm t ht).2 e.symm)] at this
  exact this)
 rw [List.map_map, List.map_map] at hr
 have hp : ((((List.range k).erase i).map R) ++ [R i]).Perm ((List.range k).map R) := by
  have h1 : (((List.range k).erase i) ++ [i]).Perm (List.range k) :=
   List.Perm.trans List.perm_append_comm (List.perm_cons_erase (List.mem_range.2 h0)).symm
  have := h1.map R
  rwa [List.map_append] at this
 obtain ⟨s, hs, hD⟩ := D_perm hp []
 simp only [List.nil_append] at hD
 have hd := I.det (((List.range k).erase i).map C ++ [j]) [] (fun x hx => by simp at hx)
 obtain ⟨z, hz, hb⟩ := D_int (((List.range k).erase i).map C ++ [j]) ((List.range k).map (fun i => T (g i)))
 simp only [List.map_nil, List.append_nil] at hd
 have hv : R i j * d = s * (z : Rat) := by
  rw [← hz, ← hr, List.map_map]
  have h2 := hD (((List.range k).erase i).map C ++ [j])
  have h3 : D (((List.range k).erase i).map C ++ [j]) ((List.range k).map R) * d = D (((List.range k).erase i).map C ++ [j]) ((List.range k).map (up ∘ fun i => T (g i))) := hd
  rw [← h3]
  have h4 : D (((List.range k).erase i).map C ++ [j]) (((List.range k).erase i).map R ++ [R i]) * d = s * (D (((List.range k).erase i).map C ++ [j]) ((List.range k).map R) * d) := by rw [h2]; grind
  exact h4
 have hb' : z.natAbs ≤ P m T (((List.range k).erase i).map C ++ [j]) := Nat.le_trans hb (nb_le _ hnd (fun x hx => by have := List.mem_range.1 hx; have := I.hk; omega) hg hi _)
 rcases hs with rfl | rfl
 ·exact ⟨z, by rw [hv]; grind, hb'⟩
 ·exact ⟨-z, by rw [hv, Rat.intCast_neg]; grind, by rw [Int.natAbs_neg]; exact hb'⟩
end Det
theorem cast_ne {a : Int} (h : a ≠ 0) : (a : Rat) ≠ 0 := by simpa using h
theorem cast_inj {a b : Int} (h : (a : Rat) = (b : Rat)) : a = b := by simpa using h
def frq (q : Rat) : Int × Int := (q.num, (q.den : Int))
theorem frq_val (q : Rat) : q * ((q.den : Int) : Rat) = ((q.num : Int) : Rat) := by
 have e : q = (q.num : Rat) / ((q.den : Int) : Rat) := by
  conv => lhs; rw [← Rat.num_divInt_den q]
  exact Rat.divInt_eq_div _ _
 have h0 : ((q.den : Int) : Rat) ≠ 0 := cast_ne (by have := q.den_nz; omega)
 generalize ((q.den : Int) : Rat) = d at *
 generalize ((q.num : Int) : Rat) = n at *
 grind
theorem frq_cop (q : Rat) : Int.gcd q.num (q.den : Int) = 1 := by simpa [Int.gcd] using q.reduced
theorem frq_mk {q : Rat} {a b : Int} (hb : 0 < b) (hc : Int.gcd a b = 1) (h : q * (b : Rat) = (a : Rat)) : frq q = (a, b) := by
 have hv := frq_val q
 have hd : (q.den : Int) ≠ 0 := by have := q.den_nz; omega
 have e : a * (q.den : Int) = q.num * b := by
  apply cast_inj
  simp only [Rat.intCast_mul]
  rw [← h, ← hv]; grind
 have h1 : (q.den : Int) ∣ b := by
  have h1 : (q.den : Int).natAbs ∣ q.num.natAbs * b.natAbs := by rw [← Int.natAbs_mul, ← e, Int.natAbs_mul]; exact Nat.dvd_mul_left ..
  exact Int.natAbs_dvd_natAbs.1 (Nat.Coprime.dvd_of_dvd_mul_left (Nat.Coprime.symm (frq_cop q)) h1)
 have h2 : b ∣ (q.den : Int) := by
  have h1 : b.natAbs ∣ a.natAbs * (q.den : Int).natAbs := by rw [← Int.natAbs_mul, e, Int.natAbs_mul]; exact Nat.dvd_mul_left ..
  exact Int.natAbs_dvd_natAbs.1 (Nat.Coprime.dvd_of_dvd_mul_left (Nat.Coprime.symm hc) h1)
 have e2 : b = (q.den : Int) := Int.dvd_antisymm (by omega) (by omega) h2 h1
 have e3 : a = q.num := by
  rw [← e2] at e
  exact Int.eq_of_mul_eq_mul_right (by omega) e
 unfold frq
 rw [← e2, e3]
theorem frq_dvd {q : Rat} {a b : Int} (hb : b ≠ 0) (h : q * (b : Rat) = (a : Rat)) : ∃ t : Int, t ≠ 0 ∧ a = q.num * t ∧ b = (q.den : Int) * t := by
 have hv := frq_val q
 have hd : (q.den : Int) ≠ 0 := by have := q.den_nz; omega
 have e : a * (q.den : Int) = q.num * b := by
  apply cast_inj
  simp only [Rat.intCast_mul]
  rw [← h, ← hv]; grind
 have hdv : (q.den : Int) ∣ b := by
  have h1 : (q.den : Int).natAbs ∣ q.num.natAbs * b.natAbs := by rw [← Int.natAbs_mul, ← e, Int.natAbs_mul]; exact Nat.dvd_mul_left ..
  exact Int.natAbs_dvd_natAbs.1 (Nat.Coprime.dvd_of_dvd_mul_left (Nat.Coprime.symm (frq_cop q)) h1)
 obtain ⟨t, ht⟩ := hdv
 refine ⟨t, fun h0 => hb (by rw [ht, h0]; simp), ?_, ht⟩
 rw [ht] at e
 have : a * (q.den : Int) = (q.num * t) * (q.den : Int) := by rw [e]; grind
 exact Int.eq_of_mul_eq_mul_right hd this
theorem natAbs_le_mul {a t : Int} (ht : t ≠ 0) : a.natAbs ≤ (a * t).natAbs := by
 rw [Int.natAbs_mul]; exact Nat.le_mul_of_pos_right _ (by omega)
theorem frq_bound {q : Rat} {a b : Int} (hb : b ≠ 0) (h : q * (b : Rat) = (a : Rat)) : q.num.natAbs ≤ a.natAbs ∧ q.den ≤ b.natAbs := by
 obtain ⟨t, h0, h1, h2⟩ := frq_dvd hb h
 refine ⟨by rw [h1]; exact natAbs_le_mul h0, ?_⟩
 rw [h2]
 have := natAbs_le_mul (a := (q.den : Int)) h0
 simpa using this
theorem frq_lowest {q : Rat} {a b : Int} (hb : 0 < b) (h : q * (b : Rat) = (a : Rat)) : frq q = (a / (Int.gcd a b : Int), b / (Int.gcd a b : Int)) := by
 obtain ⟨t, h0, h1, h2⟩ := frq_dvd (by omega) h
 have ht : 0 < t := by
  have : 0 < (q.den : Int) := by have := q.den_nz; omega
  rw [h2] at hb
  exact Int.pos_of_mul_pos_right hb (by omega)
 have hg : (Int.gcd a b : Int) = t := by
  rw [h1, h2, Int.gcd_mul_right, frq_cop]; omega
 rw [hg]
 unfold frq
 rw [h1, h2, Int.mul_ediv_cancel _ (by omega), Int.mul_ediv_cancel _ (by omega)]
theorem frq_mul {p q X Y : Rat} (hX : X * ((q.den : Int) : Rat) = (p.num : Rat)) (hY : Y * ((p.den : Int) : Rat) = (q.num : Rat)) : frq (p * q) = ((frq X).1 * (frq Y).1, (frq X).2 * (frq Y).2) := by
 have hp := p.den_nz
 have hq := q.den_nz
 obtain ⟨t, t0, x1, x2⟩ := frq_dvd (q := X) (a := p.num) (b := (q.den : Int)) (by omega) hX
 obtain ⟨u, u0, y1, y2⟩ := frq_dvd (q := Y) (a := q.num) (b := (p.den : Int)) (by omega) hY
 have hx := X.den_nz
 have hy := Y.den_nz
 refine frq_mk (Int.mul_pos (by show 0 < (X.den : Int); omega) (by show 0 < (Y.den : Int); omega)) ?_ ?_
 ·show Nat.gcd (X.num * Y.num).natAbs ((X.den : Int) * (Y.den : Int)).natAbs = 1
  rw [Int.natAbs_mul, Int.natAbs_mul]
  have d1 : X.num.natAbs ∣ p.num.natAbs := by rw [x1, Int.natAbs_mul]; exact Nat.dvd_mul_right ..
  have d2 : Y.num.natAbs ∣ q.num.natAbs := by rw [y1, Int.natAbs_mul]; exact Nat.dvd_mul_right ..
  have d3 : X.den ∣ q.den := by
   have : (X.den : Int).natAbs ∣ (q.den : Int).natAbs := by rw [x2, Int.natAbs_mul]; exact Nat.dvd_mul_right ..
   simpa using this
  have d4 : Y.den ∣ p.den := by
   have : (Y.den : Int).natAbs ∣ (p.den : Int).natAbs := by rw [y2, Int.natAbs_mul]; exact Nat.dvd_mul_right ..
   simpa using this
  have c1 : Nat.Coprime X.num.natAbs X.den := X.reduced
  have c2 : Nat.Coprime Y.num.natAbs Y.den := Y.reduced
  have c3 : Nat.Coprime X.num.natAbs Y.den := Nat.Coprime.coprime_dvd_left d1 (Nat.Coprime.coprime_dvd_right d4 p.reduced)
  have c4 : Nat.Coprime Y.num.natAbs X.den := Nat.Coprime.coprime_dvd_left d2 (Nat.Coprime.coprime_dvd_right d3 q.reduced)
  exact Nat.Coprime.mul_right (Nat.Coprime.mul_left c1 c4) (Nat.Coprime.mul_left c3 c2)
 ·have v1 := frq_val X
  have v2 := frq_val Y
  have vp := frq_val p
  have vq := frq_val q
  have z1 : ((p.den : Int) : Rat) ≠ 0 := cast_ne (by omega)
  have z2 : ((q.den : Int) : Rat) ≠ 0 := cast_ne (by omega)
  simp only [frq, Rat.intCast_mul]
  generalize ((p.den : Int) : Rat) = pd at *
  generalize ((q.den : Int) : Rat) = qd at *
  generalize ((X.den : Int) : Rat) = xd at *
  generalize ((Y.den : Int) : Rat) = yd at *
  generalize (p.num : Rat) = pn at *
  generalize (q.num : Rat) = qn at *
  generalize (X.num : Rat) = xn at *
  generalize (Y.num : Rat) = yn at *
  have e : p * q = X * Y := by
   have h1 : p * q * (pd * qd) = X * Y * (pd * qd) := by grind
   have h2 : pd * qd ≠ 0 := by grind
   grind
  rw [e]; grind
def lcN (p q : Rat) : Int := p.num * ((q.den : Int) / (Int.gcd p.den q.den : Int)) + q.num * ((p.den : Int) / (Int.gcd p.den q.den : Int))
def lcD (p q : Rat) : Int := (p.den : Int) / (Int.gcd p.den q.den : Int) * (q.den : Int)
theorem frq_add (p q : Rat) : 0 < lcD p q ∧ (p + q) * (lcD p q : Rat) = (lcN p q : Rat) := by
 have hp := p.den_nz
 have hq := q.den_nz
 have hg : (Int.gcd (p.den : Int) (q.den : Int) : Int) ≠ 0 := by
  intro h
  have := Int.gcd_eq_zero_iff.1 (show Int.gcd (p.den : Int) (q.den : Int) = 0 by omega)
  omega
 obtain ⟨a, ha⟩ : (Int.gcd (p.den : Int) (q.den : Int) : Int) ∣ (p.den : Int) := Int.gcd_dvd_left ..
 obtain ⟨b, hb⟩ : (Int.gcd (p.den : Int) (q.den : Int) : Int) ∣ (q.den : Int) := Int.gcd_dvd_right ..
 have e1 : (p.den : Int) / (Int.gcd (p.den : Int) (q.den : Int) : Int) = a := Int.ediv_eq_of_eq_mul_right hg ha
 have e2 : (q.den : Int) / (Int.gcd (p.den : Int) (q.den : Int) : Int) = b := Int.ediv_eq_of_eq_mul_right hg hb
 have vp := frq_val p
 have vq := frq_val q
 unfold lcD lcN
 rw [e1, e2]
 generalize hG : (Int.gcd (p.den : Int) (q.den : Int) : Int) = g at *
 have hgp : 0 < g := by omega
 constructor
 ·have : 0 < a := Int.pos_of_mul_pos_right (a := g) (by omega) hgp
  exact Int.mul_pos this (by omega)
 ·rw [ha] at vp
  rw [hb] at vq ⊢
  simp only [Rat.intCast_mul, Rat.intCast_add] at *
  rw [← vp, ← vq]; grind
theorem lcD_dvd (p q : Rat) {z : Int} (h1 : (p.den : Int) ∣ z) (h2 : (q.den : Int) ∣ z) : lcD p q ∣ z := by
 have hp := p.den_nz
 have hq := q.den_nz
 have hg : (Int.gcd (p.den : Int) (q.den : Int) : Int) ≠ 0 := by
  intro h
  have := Int.gcd_eq_zero_iff.1 (show Int.gcd (p.den : Int) (q.den : Int) = 0 by omega)
  omega
 have h3 : lcD p q = (Nat.lcm p.den q.den : Nat) := by
  unfold lcD
  have hgn : Int.gcd (p.den : Int) (q.den : Int) = Nat.gcd p.den q.den := rfl
  rw [hgn]
  obtain ⟨a, ha⟩ : Nat.gcd p.den q.den ∣ p.den := Nat.gcd_dvd_left ..
  have hgp : 0 < Nat.gcd p.den q.den := Nat.gcd_pos_of_pos_left _ (by omega)
  have hx : p.den / Nat.gcd p.den q.den = a := Nat.div_eq_of_eq_mul_right hgp ha
  have hl : Nat.lcm p.den q.den = a * q.den := by
   unfold Nat.lcm
   conv => lhs; lhs; rw [ha]
   rw [Nat.mul_assoc, Nat.mul_div_cancel_left _ hgp]
  rw [hl, show ((p.den : Int) / (Nat.gcd p.den q.den : Int)) = ((p.den / Nat.gcd p.den q.den : Nat) : Int) from rfl, hx]
  simp
 rw [h3]
 have h4 : Nat.lcm p.den q.den ∣ z.natAbs := Nat.lcm_dvd (by simpa using Int.natAbs_dvd_natAbs.2 h1) (by simpa using Int.natAbs_dvd_natAbs.2 h2)
 exact Int.natAbs_dvd_natAbs.1 (by simpa using h4)
theorem lcN_bound {p q : Rat} {a b P : Int} (hP : P ≠ 0) (h1 : (p.den : Int) ∣ b * P) (h2 : (q.den : Int) ∣ b * P) (hb : b ≠ 0) (h : (p + q) * (P : Rat) = (a : Rat)) : (lcN p q).natAbs ≤ a.natAbs * b.natAbs ∧ (lcD p q).natAbs ≤ b.natAbs * P.natAbs := by
 obtain ⟨h3, h4⟩ := frq_add p q
 have hd : (lcD p q).natAbs ≤ (b * P).natAbs := Nat.le_of_dvd (by rw [Int.natAbs_mul]; exact Nat.mul_pos (by omega) (by omega)) (Int.natAbs_dvd_natAbs.2 (lcD_dvd p q h1 h2))
 rw [Int.natAbs_mul] at hd
 refine ⟨?_, hd⟩
 have e : lcN p q * P = a * lcD p q := by
  apply cast_inj
  simp only [Rat.intCast_mul]
  rw [← h, ← h4]; grind
 have e2 : (lcN p q).natAbs * P.natAbs = a.natAbs * (lcD p q).natAbs := by rw [← Int.natAbs_mul, e, Int.natAbs_mul]
 have e3 : (lcN p q).natAbs * P.natAbs ≤ (a.natAbs * b.natAbs) * P.natAbs := by
  rw [e2, Nat.mul_assoc]; exact Nat.mul_le_mul_left _ hd
 exact Nat.le_of_mul_le_mul_right e3 (by omega)
theorem wrap_self {x : Int} (h : x.natAbs ≤ 9223372036854775807) : wrap64 x = x := by unfold wrap64; omega
theorem fracE {n d : Int} (hn : n.natAbs ≤ 9223372036854775807) (hd : d ≠ 0) (hd' : d.natAbs ≤ 9223372036854775807) : Ev (fun k => impl_fraction.f k n d) (if d < 0 then lowest (-n) (-d) else lowest n d) :=
 fraction_ev impl_gcd.l0 impl_gcd.j0 impl_gcd.f impl_fraction.f (fun _ _ _ => by simp only [impl_gcd.l0]) (fun _ _ _ => by simp only [impl_gcd.j0]) (fun _ _ _ => rfl) (fun _ _ _ => rfl) (n := n) (d := d) (by omega) (by omega) hd (by omega) (by omega)
theorem gcdE {n d : Int} (hn : n.natAbs ≤ 9223372036854775807) (hd : 0 ≤ d) : Ev (fun k => impl_gcd.f k n d) (Int.gcd n d : Int) :=
 gcdj_ev impl_gcd.l0 impl_gcd.j0 impl_gcd.f (fun _ _ _ => by simp only [impl_gcd.l0]) (fun _ _ _ => by simp only [impl_gcd.j0]) (fun _ _ _ => rfl) (by omega) hd
theorem fracQ {q : Rat} {n d : Int} (h : q * (d : Rat) = (n : Rat)) (hn : n.natAbs ≤ 9223372036854775807) (hd : d ≠ 0) (hd' : d.natAbs ≤ 9223372036854775807) : Ev (fun k => impl_fraction.f k n d) (frq q) := by
 refine ev_eq (fracE hn hd hd') ?_
 split
 ·rename_i h0
  rw [frq_lowest (q := q) (a := -n) (b := -d) (by omega) (by simp only [Rat.intCast_neg]; grind)]
  rfl
 ·rw [frq_lowest (q := q) (a := n) (b := d) (by omega) h]
  rfl
theorem ev_val {α : Type} {z : α} {g : Nat → Option α} (hm : ∀ k, LeO (g k) (g (k + 1))) {r : α} (h : Ev g r) : (∃ k r, g k = some r) ∧ valV z g = r := by
 obtain ⟨N, hN⟩ := h
 exact ⟨⟨N, r, hN N (Nat.le_refl N)⟩, valV_eq hm ⟨N, hN N (Nat.le_refl N)⟩⟩
theorem frV_ok {a b : Int} (hb : b ≠ 0) (ha : a.natAbs ≤ 9223372036854775807) (hb' : b.natAbs ≤ 9223372036854775807) : FOk a b ∧ ∀ q : Rat, q * (b : Rat) = (a : Rat) → frV a b = frq q :=
 ⟨(ev_val (z := ((0, 0) : Fr)) (fun k => impl_fraction.mono a b k) (fracE ha hb hb')).1, fun q hq => (ev_val (z := ((0, 0) : Fr)) (fun k => impl_fraction.mono a b k) (fracQ hq ha hb hb')).2⟩
theorem muE {p q : Rat} (h1 : p.num.natAbs ≤ 9223372036854775807) (h2 : p.den ≤ 9223372036854775807) (h3 : q.num.natAbs ≤ 9223372036854775807) (h4 : q.den ≤ 9223372036854775807) (h5 : (p * q).num.natAbs ≤ 9223372036854775807) (h6 : (p * q).den ≤ 9223372036854775807) : Ev (fun k => impl_mulFractions.f k (frq p).1 (frq p).2 (frq q).1 (frq q).2) (frq (p * q)) := by
 have hp := p.den_nz
 have hq := q.den_nz
 have zp : ((p.den : Int) : Rat) ≠ 0 := cast_ne (by omega)
 have zq : ((q.den : Int) : Rat) ≠ 0 := cast_ne (by omega)
 have hX : (p.num : Rat) / ((q.den : Int) : Rat) * ((q.den : Int) : Rat) = (p.num : Rat) := by grind
 have hY : (q.num : Rat) / ((p.den : Int) : Rat) * ((p.den : Int) : Rat) = (q.num : Rat) := by grind
 have hm := frq_mul hX hY
 refine ev_bind (fracQ hX h1 (by show (q.den : Int) ≠ 0; omega) (by show (q.den : Int).natAbs ≤ _; simpa using h4)) ?_
 refine ev_bind (fracQ hY h3 (by show (p.den : Int) ≠ 0; omega) (by show (p.den : Int).natAbs ≤ _; simpa using h2)) ?_
 refine ev_now fun _ => ?_
 have e1 : (frq ((p.num : Rat) / ((q.den : Int) : Rat))).1 * (frq ((q.num : Rat) / ((p.den : Int) : Rat))).1 = (p * q).num := (congrArg Prod.fst hm).symm
 have e2 : (frq ((p.num : Rat) / ((q.den : Int) : Rat))).2 * (frq ((q.num : Rat) / ((p.den : Int) : Rat))).2 = ((p * q).den : Int) := (congrArg Prod.snd hm).symm
 rw [e1, e2, wrap_self h5, wrap_self (by simpa using h6)]
 rfl
theorem muV_ok {p q : Rat} (h1 : p.num.natAbs ≤ 9223372036854775807) (h2 : p.den ≤ 9223372036854775807) (h3 : q.num.natAbs ≤ 9223372036854775807) (h4 : q.den ≤ 9223372036854775807) (h5 : (p * q).num.natAbs ≤ 9223372036854775807) (h6 : (p * q).den ≤ 9223372036854775807) : MOk (frq p) (frq q) ∧ muV (frq p) (frq q) = frq (p * q) :=
 ev_val (z := ((0, 0) : Fr)) (fun k => impl_mulFractions.mono _ _ _ _ k) (muE h1 h2 h3 h4 h5 h6)
theorem adE {p q : Rat} (h1 : p.num.natAbs ≤ 9223372036854775807) (h2 : p.den ≤ 9223372036854775807) (h3 : q.num.natAbs ≤ 9223372036854775807) (h4 : q.den ≤ 9223372036854775807) (h5 : (lcN p q).natAbs ≤ 9223372036854775807) (h6 : (lcD p q).natAbs ≤ 9223372036854775807) : Ev (fun k => impl_addFractions.f k (frq p).1 (frq p).2 (frq q).1 (frq q).2) (frq (p + q)) := by
 have hp := p.den_nz
 have hq := q.den_nz
 obtain ⟨hd, hv⟩ := frq_add p q
 refine ev_bind (gcdE (n := (p.den : Int)) (d := (q.den : Int)) (by simpa using h2) (by omega)) ?_
 have hg : (Int.gcd (p.den : Int) (q.den : Int) : Int) ≠ 0 := by
  intro h
  have := Int.gcd_eq_zero_iff.1 (show Int.gcd (p.den : Int) (q.den : Int) = 0 by omega)
  omega
 have e1 : Int.tdiv (q.den : Int) (Int.gcd (p.den : Int) (q.den : Int) : Int) = (q.den : Int) / (Int.gcd (p.den : Int) (q.den : Int) : Int) := Int.tdiv_eq_ediv_of_nonneg (by omega)
 have e2 : Int.tdiv (p.den : Int) (Int.gcd (p.den : Int) (q.den : Int) : Int) = (p.den : Int) / (Int.gcd (p.den : Int) (q.den : Int) : Int) := Int.tdiv_eq_ediv_of_nonneg (by omega)
 have b1 : (q.den : Int) / (Int.gcd (p.den : Int) (q.den : Int) : Int) ≤ (q.den : Int) := Int.ediv_le_self _ (by omega)
 have b2 : (p.den : Int) / (Int.gcd (p.den : Int) (q.den : Int) : Int) ≤ (p.den : Int) := Int.ediv_le_self _ (by omega)
 have b3 : 0 ≤ (q.den : Int) / (Int.gcd (p.den : Int) (q.den : Int) : Int) := Int.ediv_nonneg (by omega) (by omega)
 have b4 : 0 ≤ (p.den : Int) / (Int.gcd (p.den : Int) (q.den : Int) : Int) := Int.ediv_nonneg (by omega) (by omega)
 refine ev_if_neg hg ?_
 show Ev (fun k => (impl_fraction.f k (wrap64 (wrap64 (p.num * wrap64 (Int.tdiv (q.den : Int) (Int.gcd (p.den : Int) (q.den : Int) : Int))) + wrap64 (q.num * wrap64 (Int.tdiv (p.den : Int) (Int.gcd (p.den : Int) (q.den : Int) : Int))))) (wrap64 (wrap64 (Int.tdiv (p.den : Int) (Int.gcd (p.den : Int) (q.den : Int) : Int)) * (q.den : Int)))).bind fun bt => some (bt.1, bt.2)) _
 rw [e1, e2, wrap_self (x := (q.den : Int) / _) (by omega), wrap_self (x := (p.den : Int) / _) (by omega)]
 have e3 : wrap64 (wrap64 (p.num * ((q.den : Int) / (Int.gcd (p.den : Int) (q.den : Int) : Int))) + wrap64 (q.num * ((p.den : Int) / (Int.gcd (p.den : Int) (q.den : Int) : Int)))) = lcN p q := by
  have : lcN p q = p.num * ((q.den : Int) / (Int.gcd (p.den : Int) (q.den : Int) : Int)) + q.num * ((p.den : Int) / (Int.gcd (p.den : Int) (q.den : Int) : Int)) := rfl
  rw [this] at h5 ⊢
  generalize p.num * ((q.den : Int) / (Int.gcd (p.den : Int) (q.den : Int) : Int)) = u at *
  generalize q.num * ((p.den : Int) / (Int.gcd (p.den : Int) (q.den : Int) : Int)) = v at *
  unfold wrap64; omega
 have e4 : wrap64 ((p.den : Int) / (Int.gcd (p.den : Int) (q.den : Int) : Int) * (q.den : Int)) = lcD p q := by
  rw [show (p.den : Int) / (Int.gcd (p.den : Int) (q.den : Int) : Int) * (q.den : Int) = lcD p q from rfl]
  exact wrap_self h6
 rw [e3, e4]
 refine ev_bind (f := fun _ (bt : Int × Int) => some (bt.1, bt.2)) (fracQ hv h5 (Int.ne_of_gt hd) h6) (ev_now fun _ => ?_)
 rfl
theorem adV_ok {p q : Rat} (h1 : p.num.natAbs ≤ 9223372036854775807) (h2 : p.den ≤ 9223372036854775807) (h3 : q.num.natAbs ≤ 9223372036854775807) (h4 : q.den ≤ 9223372036854775807) (h5 : (lcN p q).natAbs ≤ 9223372036854775807) (h6 : (lcD p q).natAbs ≤ 9223372036854775807) : AOk (frq p) (frq q) ∧ adV (frq p) (frq q) = frq (p + q) :=
 ev_val (z := ((0, 0) : Fr)) (fun k => impl_addFractions.mono _ _ _ _ k) (adE h1 h2 h3 h4 h5 h6)
open Det
def cap : Nat → Nat
 | 0 => 1 | 1 => 48 | 2 => 2304 | 3 => 110592 | 4 => 2654208 | 5 => 63700992 | _ => 1528823808
theorem cap_mono {a b : Nat} (h : a ≤ b) (hb : b ≤ 6) : cap a ≤ cap b := by
 match b, hb with
 | 0, _ => (have e_ : a = 0 := by omega); subst e_; exact Nat.le_refl _
 | 1, _ => match a, h with | 0, _ => decide | 1, _ => decide
 | 2, _ => match a, h with | 0, _ => decide | 1, _ => decide | 2, _ => decide
 | 3, _ => match a, h with | 0, _ => decide | 1, _ => decide | 2, _ => decide | 3, _ => decide
 | 4, _ => match a, h with | 0, _ => decide | 1, _ => decide | 2, _ => decide | 3, _ => decide | 4, _ => decide
 | 5, _ => match a, h with | 0, _ => decide | 1, _ => decide | 2, _ => decide | 3, _ => decide | 4, _ => decide | 5, _ => decide
 | 6, _ => match a, h with | 0, _ => decide | 1, _ => decide | 2, _ => decide | 3, _ => decide | 4, _ => decide | 5, _ => decide | 6, _ => decide
structure Wt (m n : Nat) (T : Nat → Nat → Int) : Prop where
 m6 : m ≤ 6
 bar : ∀ C : List Nat, C.Nodup → (∀ x ∈ C, x < n) → C.length ≤ 6 → P m T C ≤ cap C.length
 any : ∀ j, j ≤ n → W m T j ≤ 600
theorem P_snoc (m : Nat) (T : Nat → Nat → Int) (C : List Nat) (j : Nat) : P m T (C ++ [j]) = P m T C * W m T j := by
 unfold P; rw [List.map_append, List.prod_append]; simp
structure Rel (m n : Nat) (T : Nat → Nat → Int) (c : Nat) (s : StS) (t : StI) (C : List Nat) (g : Nat → Nat) (R : Nat → V) : Prop where
 inv : Inv m C.length (fun i => C.getD i 0) (s.bf : Rat) R (fun i => up (T (g i)))
 at_ : s.at_ = C.length
 pv : s.pv = C.map (fun (x : Nat) => (x : Int))
 nx : t.nx = C.length
 nd : C.Nodup
 lt : ∀ x ∈ C, x < c
 full : C = List.range c ∨ (C.length < c ∧ ∃ x, x < c ∧ x ∉ C)
 gl : ∀ i, i < m → g i < m
 gi : ∀ i j, i < m → j < m → g i = g j → i = j
 val : ∀ i, i < m → ∀ j, j ≤ n → R i j * (s.bf : Rat) = (s.M i j : Rat)
 fr : ∀ i, i < m → ∀ j, j ≤ n → t.M i j = frq (R i j)
 bf : s.bf.natAbs ≤ cap C.length
 ll : t.ld.length = n
 l1 : ∀ i, i < C.length → t.ld.getD (C.getD i 0) 0 = (i : Int)
 l2 : ∀ x, x < c → x ∉ C → t.ld.getD x 0 = -1
theorem map_getD (C : List Nat) : (List.range C.length).map (fun i => C.getD i 0) = C := by
 apply List.ext_getElem
 ·simp
 ·intro i h1 h2
  simp [List.getD_eq_getElem?_getD, List.getElem?_eq_getElem h2]
theorem erase_map (C : List Nat) (hn : C.Nodup) {i : Nat} (hi : i < C.length) : (((List.range C.length).erase i).map (fun i => C.getD i 0)).Perm (C.erase (C.getD i 0)) := by
 have h1 := (List.perm_cons_erase (List.mem_range.2 hi)).map (fun i => C.getD i 0)
 rw [map_getD, List.map_cons] at h1
 have hm : C.getD i 0 ∈ C := by
  rw [List.getD_eq_getElem?_getD, List.getElem?_eq_getElem hi]
  exact List.getElem_mem hi
 have h2 := List.perm_cons_erase hm
 exact List.Perm.cons_inv (h1.symm.trans h2)
theorem P_perm {m : Nat} {T : Nat → Nat → Int} {C C' : List Nat} (h : C.Perm C') : P m T C = P m T C' := by
 unfold P; exact (h.map _).prod_nat
theorem val_any {m n : Nat} {T : Nat → Nat → Int} (w : Wt m n T) {C : List Nat} {d : Rat} {R : Nat → V} {g : Nat → Nat} (I : Inv m C.length (fun i => C.getD i 0) d R (fun i => up (T (g i)))) (hn : C.Nodup) (hl : ∀ x ∈ C, x < n) (hg : ∀ i, i < m → g i < m) (hi : ∀ i j, i < m → j < m → g i = g j → i = j) {i j : Nat} (h1 : i < m) (hj : j ≤ n) :
  ∃ z : Int, R i j * d = (z : Rat) ∧ z.natAbs ≤ 38220595200 ∧ (j < n → j ∉ C → z.natAbs ≤ (if i < C.length then cap C.length else cap (C.length + 1))) := by
 have hk := I.hk
 have hm := w.m6
 by_cases h0 : i < C.length
 ·obtain ⟨z, hz, hb⟩ := I.hi hg hi h0 j
  have hp := erase_map C hn h0
  have hm' : C.getD i 0 ∈ C := by
   rw [List.getD_eq_getElem?_getD, List.getElem?_eq_getElem h0]
   exact List.getElem_mem h0
  have hl2 : (C.erase (C.getD i 0)).length = C.length - 1 := by rw [List.length_erase_of_mem hm']
  have hE := w.bar (C.erase (C.getD i 0)) (hn.erase _) (fun x hx => hl x (List.mem_of_mem_erase hx)) (by omega)
  rw [hl2] at hE
  refine ⟨z, hz, ?_, fun h2 h3 => ?_⟩
  ·rw [P_snoc, P_perm hp] at hb
   refine Nat.le_trans hb (Nat.le_trans (Nat.mul_le_mul (Nat.le_trans hE (cap_mono (show C.length - 1 ≤ 5 by omega) (by omega))) (w.any j hj)) (by decide))
  ·rw [if_pos h0]
   have hp2 : ((((List.range C.length).erase i).map (fun i => C.getD i 0)) ++ [j]).Perm (C.erase (C.getD i 0) ++ [j]) := hp.append_right [j]
   rw [P_perm hp2] at hb
   have := w.bar (C.erase (C.getD i 0) ++ [j]) (by
    rw [List.nodup_append]
    refine ⟨hn.erase _, by simp, fun a ha b hb' e => ?_⟩
    rw [List.mem_singleton.1 hb'] at e
    exact h3 (e ▸ List.mem_of_mem_erase ha)) (fun x hx => by
    rcases List.mem_append.1 hx with h | h
    ·exact hl x (List.mem_of_mem_erase h)
    ·rw [List.mem_singleton.1 h]; exact h2) (by rw [List.length_append, hl2]; simp; omega)
   rw [List.length_append, hl2, show C.length - 1 + [j].length = C.length from by simp; omega] at this
   omega
 ·obtain ⟨z, hz, hb⟩ := I.lo hg hi (by omega : C.length ≤ i) h1 j
  rw [map_getD] at hb
  refine ⟨z, hz, ?_, fun h2 h3 => ?_⟩
  ·rw [P_snoc] at hb
   have hE := w.bar C hn hl (by omega)
   exact Nat.le_trans hb (Nat.le_trans (Nat.mul_le_mul (Nat.le_trans hE (cap_mono (show C.length ≤ 5 by omega) (by omega))) (w.any j hj)) (by decide))
  ·rw [if_neg h0]
   have := w.bar (C ++ [j]) (by
    rw [List.nodup_append]
    refine ⟨hn, by simp, fun a ha b hb' e => ?_⟩
    rw [List.mem_singleton.1 hb'] at e
    exact h3 (e ▸ ha)) (fun x hx => by
    rcases List.mem_append.1 hx with h | h
    ·exact hl x h
    ·rw [List.mem_singleton.1 h]; exact h2) (by rw [List.length_append]; simp; omega)
   rw [List.length_append] at this
   exact Nat.le_trans hb this
theorem fndS_spec (M : Nat → Nat → Int) (c : Nat) : ∀ k a, a ≤ fndS M c k a ∧ fndS M c k a ≤ a + k ∧ (fndS M c k a < a + k → M (fndS M c k a) c ≠ 0)
 | 0, a => ⟨Nat.le_refl _, Nat.le_refl _, fun h => by simp [fndS] at h⟩
 | k + 1, a => by
  unfold fndS
  split
  ·obtain ⟨h1, h2, h3⟩ := fndS_spec M c k (a + 1)
   exact ⟨by omega, by omega, fun h => h3 (by omega)⟩
  ·rename_i h
   exact ⟨by omega, by omega, fun _ => h⟩
theorem fnd_same {M : Nat → Nat → Int} {F : Nat → Nat → Fr} {c m : Nat} : ∀ k a, a + k = m → (∀ i, i < m → ((F i c).1 = 0 ↔ M i c = 0)) → fndI F c k a = fndS M c k a
 | 0, a, _, _ => rfl
 | k + 1, a, h, hz => by
  unfold fndI fndS
  by_cases h0 : M a c = 0
  ·rw [if_pos h0, if_pos ((hz a (by omega)).2 h0)]
   exact fnd_same k (a + 1) (by omega) hz
  ·rw [if_neg h0, if_neg (fun h_ => h0 ((hz a (by omega)).1 h_))]
theorem swp_sw (k f i : Nat) : swp k f i = sw k f i := rfl
theorem swp_sw' (k f i : Nat) : swp f k i = sw k f i := by unfold swp sw; split <;> split <;> omega
theorem sw_lt {k f m i : Nat} (hk : k < m) (hf : f < m) (hi : i < m) : sw k f i < m := by unfold sw; split; exact hf; split; exact hk; exact hi
theorem sw_inj {k f i j : Nat} (h : sw k f i = sw k f j) : i = j := by unfold sw at h; split at h <;> split at h <;> (try split at h) <;> (try split at h) <;> omega
theorem el_eq {bf p q x y z : Int} (hb : bf ≠ 0) (h : z * bf = x * p - q * y) (h1 : (z * bf).natAbs ≤ 9223372036854775807) (h2 : z.natAbs ≤ 9223372036854775807) : el bf p q x y = z := by
 unfold el
 have e : wrap64 (wrap64 (x * p) - wrap64 (q * y)) = z * bf := by
  rw [h] at h1 ⊢
  generalize x * p = u at *
  generalize q * y = v at *
  unfold wrap64; omega
 rw [e, Int.mul_tdiv_cancel _ hb]
 exact wrap_self h2
theorem frq_zero {q : Rat} {d : Rat} {z : Int} (h : q * d = (z : Rat)) (hd : d ≠ 0) : ((frq q).1 = 0 ↔ z = 0) := by
 show q.num = 0 ↔ z = 0
 rw [Rat.num_eq_zero]
 constructor
 ·intro e
  rw [e] at h
  apply cast_inj
  rw [← h]; simp
 ·intro e
  rw [e] at h
  have h : q * d = 0 := by rw [h]; simp
  rcases Rat.mul_eq_zero.1 h with h1 | h1
  ·exact h1
  ·exact absurd h1 hd
theorem Rel.same {m n : Nat} {T : Nat → Nat → Int} {c : Nat} {s : StS} {t : StI} {C : List Nat} {g : Nat → Nat} {R : Nat → V} (r : Rel m n T c s t C g R) (hc : c < n) : fndI t.M c (m - t.nx) t.nx = fndS s.M c (m - s.at_) s.at_ := by
 have hk := r.inv.hk
 rw [r.nx, r.at_]
 exact fnd_same (m := m) _ _ (by omega) (fun i hi => by
  rw [r.fr i hi c (by omega)]
  exact frq_zero (r.val i hi c (by omega)) r.inv.hd)
theorem Rel.skip {m n : Nat} {T : Nat → Nat → Int} {c : Nat} {s : StS} {t : StI} {C : List Nat} {g : Nat → Nat} {R : Nat → V} (r : Rel m n T c s t C g R) (hc : c < n) (h : fndS s.M c (m - s.at_) s.at_ = m) :
  Rel m n T (c + 1) (stepS m s c) (stepI m (n + 1) t c) C g R ∧ stepOk m (n + 1) t c := by
 have hi := r.same hc
 have e1 : stepS m s c = s := by
  unfold stepS
  split
  ·first | rfl | (rw [if_pos h])
  ·first | rfl | (rw [if_pos h])
 have e2 : stepI m (n + 1) t c = ⟨t.nx, t.M, t.ld.set c (-1)⟩ := by
  unfold stepI
  rw [if_pos (hi.trans h)]
 rw [e1, e2]
 have hcl : c < t.ld.length := by rw [r.ll]; exact hc
 refine ⟨⟨r.inv, r.at_, r.pv, r.nx, r.nd, fun x hx => Nat.lt_succ_of_lt (r.lt x hx), .inr ?_, r.gl, r.gi, r.val, r.fr, r.bf, ?_, ?_, ?_⟩, fun h_ => absurd (hi.trans h) h_⟩
 ·refine ⟨?_, c, by omega, fun hx => Nat.lt_irrefl _ (r.lt c hx)⟩
  rcases r.full with h1 | h1
  ·rw [h1]; simp
  ·omega
 ·show (t.ld.set c (-1)).length = n
  rw [List.length_set]; exact r.ll
 ·intro i hi
  show (t.ld.set c (-1)).getD (C.getD i 0) 0 = _
  have hm : C.getD i 0 ∈ C := by
   rw [List.getD_eq_getElem?_getD, List.getElem?_eq_getElem hi]
   exact List.getElem_mem hi
  have := r.lt _ hm
  rw [List.getD_eq_getElem?_getD, List.getElem?_set_ne (by omega), ← List.getD_eq_getElem?_getD]
  exact r.l1 i hi
 ·intro x hx hn
  show (t.ld.set c (-1)).getD x 0 = _
  by_cases he : x = c
  ·subst he
   rw [List.getD_eq_getElem?_getD, List.getElem?_set_self hcl]; rfl
  ·rw [List.getD_eq_getElem?_getD, List.getElem?_set_ne (by omega), ← List.getD_eq_getElem?_getD]
   exact r.l2 x (by omega) hn
theorem snoc_getD (C : List Nat) (c : Nat) : (fun i => (C ++ [c]).getD i 0) = (fun t => if t = C.length then c else C.getD t 0) := by
 funext i
 by_cases h : i = C.length
 ·rw [if_pos h, h]; simp
 ·rw [if_neg h]
  by_cases h1 : i < C.length
  ·simp only [List.getD_eq_getElem?_getD]
   rw [List.getElem?_append_left h1]
  ·simp only [List.getD_eq_getElem?_getD]
   rw [List.getElem?_eq_none (by rw [List.length_append]; simp; omega), List.getElem?_eq_none (by omega)]
theorem num_neg_le (q : Rat) : (-q).num.natAbs = q.num.natAbs ∧ (-q).den = q.den := ⟨by rw [Rat.neg_num, Int.natAbs_neg], Rat.neg_den _⟩
set_option maxHeartbeats 1000000 in
theorem Rel.pivot {m n : Nat} {T : Nat → Nat → Int} (w : Wt m n T) {c : Nat} {s : StS} {t : StI} {C : List Nat} {g : Nat → Nat} {R : Nat → V} (r : Rel m n T c s t C g R) (hc : c < n) (h : fndS s.M c (m - s.at_) s.at_ ≠ m) :
  ∃ f, fndS s.M c (m - s.at_) s.at_ = f ∧ Rel m n T (c + 1) (stepS m s c) (stepI m (n + 1) t c) (C ++ [c]) (fun i => g (sw C.length f i)) (stepR C.length f c R) ∧ stepOk m (n + 1) t c := by
 have hk := r.inv.hk
 have hsame := r.same hc
 obtain ⟨f1, f2, f3⟩ := fndS_spec s.M c (m - s.at_) s.at_
 refine ⟨_, rfl, ?_⟩
 generalize hf : fndS s.M c (m - s.at_) s.at_ = f at *
 rw [r.at_] at f1 f2 f3
 have hfm : f < m := by omega
 have hp0 : s.M f c ≠ 0 := f3 (by omega)
 have hkm : C.length < m := by omega
 have e1 : stepS m s c = ⟨s.at_ + 1, s.M f c, mixS (fun i j => s.M (swp f s.at_ i) j) s.at_ c s.bf m 0, s.pv ++ [(c : Int)]⟩ := by
  unfold stepS
  rw [hf, if_pos (by rw [r.at_]; exact hkm), if_neg h]
 have e2 : stepI m (n + 1) t c = ⟨t.nx + 1, clrR (mulR (fun i j => t.M (swp t.nx f i) j) t.nx (frV (t.M f c).2 (t.M f c).1) (n + 1)) t.nx c m 0, (t.ld.set c (-1)).set c (t.nx : Int)⟩ := by
  unfold stepI
  rw [hsame, if_neg h]
 have hp : R f c * (s.bf : Rat) = (s.M f c : Rat) := r.val f hfm c (by omega)
 have hbf0 : (s.bf : Rat) ≠ 0 := r.inv.hd
 have hbz : s.bf ≠ 0 := fun e => hbf0 (by rw [e]; simp)
 have hpq : (s.M f c : Rat) ≠ 0 := cast_ne hp0
 have hRf : R f c ≠ 0 := fun e => hpq (by rw [← hp, e]; grind)
 have hI := r.inv.step f c f1 hfm hRf
 have hcn : c ∉ C := fun hx => Nat.lt_irrefl _ (r.lt c hx)
 have hlen : (C ++ [c]).length = C.length + 1 := by simp
 have hI' : Inv m (C ++ [c]).length (fun i => (C ++ [c]).getD i 0) ((s.M f c : Int) : Rat) (stepR C.length f c R) (fun i => up (T (g (sw C.length f i)))) := by
  rw [snoc_getD, hlen, ← hp, show R f c * (s.bf : Rat) = (s.bf : Rat) * R f c from by grind]
  exact hI
 have hCl : ∀ x ∈ C, x < n := fun x hx => Nat.lt_trans (r.lt x hx) hc
 have hnd' : (C ++ [c]).Nodup := by
  rw [List.nodup_append]
  refine ⟨r.nd, by simp, fun a ha b hb' e => ?_⟩
  rw [List.mem_singleton.1 hb'] at e
  exact hcn (e ▸ ha)
 have hlt' : ∀ x ∈ C ++ [c], x < n := fun x hx => by
  rcases List.mem_append.1 hx with h | h
  ·exact hCl x h
  ·rw [List.mem_singleton.1 h]; exact hc
 have hgl' : ∀ i, i < m → g (sw C.length f i) < m := fun i hi => r.gl _ (sw_lt hkm hfm hi)
 have hgi' : ∀ i j, i < m → j < m → g (sw C.length f i) = g (sw C.length f j) → i = j := fun i j hi hj e => sw_inj (r.gi _ _ (sw_lt hkm hfm hi) (sw_lt hkm hfm hj) e)
 -- old values
 have hm6 := w.m6
 have old : ∀ i, i < m → ∀ j, j ≤ n → (s.M i j).natAbs ≤ 38220595200 := fun i hi j hj => by
  obtain ⟨z, hz, hb, _⟩ := val_any w r.inv r.nd hCl r.gl r.gi hi hj
  rw [r.val i hi j hj] at hz
  rw [cast_inj hz]; exact hb
 have oldc : ∀ i, i < m → i ≠ f → (s.M i c).natAbs ≤ 63700992 := fun i hi hif => by
  obtain ⟨z, hz, _, hb⟩ := val_any w r.inv r.nd hCl r.gl r.gi hi (show c ≤ n by omega)
  rw [r.val i hi c (by omega)] at hz
  rw [cast_inj hz]
  have hb := hb hc hcn
  split at hb
  ·exact Nat.le_trans hb (cap_mono (show C.length ≤ 5 by omega) (by omega))
  ·exact Nat.le_trans hb (cap_mono (show C.length + 1 ≤ 5 by omega) (by omega))
 have hpc : (s.M f c).natAbs ≤ cap (C.length + 1) := by
  obtain ⟨z, hz, _, hb⟩ := val_any w r.inv r.nd hCl r.gl r.gi hfm (show c ≤ n by omega)
  rw [r.val f hfm c (by omega)] at hz
  rw [cast_inj hz]
  have hb := hb hc hcn
  rwa [if_neg (by omega)] at hb
 have hpb : (s.M f c).natAbs ≤ 1528823808 := Nat.le_trans hpc (cap_mono (show C.length + 1 ≤ 6 by omega) (by omega))
 have hbb : s.bf.natAbs ≤ 63700992 := Nat.le_trans r.bf (cap_mono (show C.length ≤ 5 by omega) (by omega))
 have sub : ∀ a b A B : Nat, a ≤ A → b ≤ B → a * b ≤ A * B := fun a b A B => Nat.mul_le_mul
 have key : ∀ i, i < m → i ≠ C.length → ∀ j, stepR C.length f c R i j = R (sw C.length f i) j - R (sw C.length f i) c * (R f j / R f c) := fun i _ hik j => by
  unfold stepR; rw [if_neg hik]
 have keyk : ∀ j, stepR C.length f c R C.length j = R f j / R f c := fun j => by unfold stepR; rw [if_pos rfl]
 have swk : sw C.length f C.length = f := by unfold sw; rw [if_pos rfl]
 have swf : ∀ i, i ≠ C.length → sw C.length f i ≠ f := fun i hi => by unfold sw; rw [if_neg hi]; split <;> omega
 -- values of the reference
 have newM : ∀ i, i < m → ∀ j, j ≤ n → ∃ z : Int, stepR C.length f c R i j * ((s.M f c : Int) : Rat) = (z : Rat) ∧ z.natAbs ≤ 38220595200 ∧ mixS (fun i j => s.M (swp f s.at_ i) j) s.at_ c s.bf m 0 i j = z := fun i hi j hj => by
  obtain ⟨z, hz, hb, _⟩ := val_any w hI' hnd' hlt' hgl' hgi' hi hj
  refine ⟨z, hz, hb, ?_⟩
  rw [r.at_]
  have vf := r.val f hfm j hj
  by_cases hik : i = C.length
  ·rw [hik, mixS, if_neg (fun h_ => h_.1 rfl)]
   show s.M (swp f C.length C.length) j = z
   rw [swp_sw', swk]
   rw [hik, keyk] at hz
   apply cast_inj
   rw [← hz, ← vf, ← hp]; grind
  ·rw [mixS, if_pos ⟨hik, .inl hi⟩]
   show el s.bf (s.M (swp f C.length C.length) c) (s.M (swp f C.length i) c) (s.M (swp f C.length i) j) (s.M (swp f C.length C.length) j) = z
   rw [swp_sw', swp_sw', swk]
   have hsi := sw_lt hkm hfm hi
   have vi := r.val (sw C.length f i) hsi j hj
   have vc := r.val (sw C.length f i) hsi c (by omega)
   rw [key i hi hik] at hz
   have hb2 : (z * s.bf).natAbs ≤ 38220595200 * 63700992 := by rw [Int.natAbs_mul]; exact Nat.mul_le_mul hb hbb
   refine el_eq hbz ?_ (Nat.le_trans hb2 (by decide)) (Nat.le_trans hb (by decide))
   apply cast_inj
   simp only [Rat.intCast_mul, Rat.intCast_sub]
   rw [← hz, ← vi, ← vc, ← vf, ← hp]
   grind
 -- values of the program
 have frb : ∀ i, i < m → ∀ j, j ≤ n → (R i j).num.natAbs ≤ (s.M i j).natAbs ∧ (R i j).den ≤ s.bf.natAbs := fun i hi j hj => frq_bound hbz (r.val i hi j hj)
 have hinv := frV_ok (a := (t.M f c).2) (b := (t.M f c).1)
 have etf : t.M f c = frq (R f c) := r.fr f hfm c (by omega)
 rw [etf] at hinv
 have hnum0 : (R f c).num ≠ 0 := fun e => hRf (Rat.num_eq_zero.1 e)
 obtain ⟨iok, ieq⟩ := hinv hnum0 (by
   have := (frb f hfm c (by omega)).2
   show ((R f c).den : Int).natAbs ≤ _
   simp; omega) (by
   have := (frb f hfm c (by omega)).1
   show (R f c).num.natAbs ≤ _
   omega)
 have ieq := ieq (1 / R f c) (by
  have := frq_val (R f c)
  show 1 / R f c * ((R f c).num : Rat) = (((R f c).den : Int) : Rat)
  rw [← this]; grind)
 have ib := frq_bound (q := 1 / R f c) (a := s.bf) (b := s.M f c) hp0 (by rw [← hp]; grind)
 have dvb : ∀ j, j ≤ n → (R f j / R f c).num.natAbs ≤ (s.M f j).natAbs ∧ (R f j / R f c).den ≤ (s.M f c).natAbs := fun j hj =>
  frq_bound hp0 (by have := r.val f hfm j hj; rw [← this, ← hp]; grind)
 have mok : ∀ j, j ≤ n → MOk (frq (R f j)) (frq (1 / R f c)) ∧ muV (frq (R f j)) (frq (1 / R f c)) = frq (R f j / R f c) := fun j hj => by
  have b1 := frb f hfm j hj
  have b2 := old f hfm j hj
  have b3 := dvb j hj
  have e : R f j * (1 / R f c) = R f j / R f c := by grind
  have := muV_ok (p := R f j) (q := 1 / R f c) (by omega) (by omega) (by omega) (by omega) (by rw [e]; omega) (by rw [e]; omega)
  rwa [e] at this
 have hM2 : ∀ i, i < m → ∀ j, j ≤ n → mulR (fun i j => t.M (swp t.nx f i) j) t.nx (frV (t.M f c).2 (t.M f c).1) (n + 1) i j = if i = C.length then frq (R f j / R f c) else frq (R (sw C.length f i) j) := fun i hi j hj => by
  rw [r.nx, etf]
  unfold mulR
  by_cases hik : i = C.length
  ·rw [if_pos hik, if_pos ⟨hik, by omega⟩]
   show muV (t.M (swp C.length f C.length) j) _ = _
   rw [swp_sw, swk, r.fr f hfm j hj]
   rw [show frV (frq (R f c)).2 (frq (R f c)).1 = frq (1 / R f c) from ieq]
   exact (mok j hj).2
  ·rw [if_neg hik, if_neg (fun h_ => hik h_.1)]
   show t.M (swp C.length f i) j = _
   rw [swp_sw]
   exact r.fr _ (sw_lt hkm hfm hi) j hj
 have clr : ∀ i, i < m → i ≠ C.length → ∀ j, j ≤ n → MOk (frq (-(R (sw C.length f i) c))) (frq (R f j / R f c)) ∧ AOk (frq (R (sw C.length f i) j)) (muV (frq (-(R (sw C.length f i) c))) (frq (R f j / R f c))) ∧ adV (frq (R (sw C.length f i) j)) (muV (frq (-(R (sw C.length f i) c))) (frq (R f j / R f c))) = frq (stepR C.length f c R i j) := fun i hi hik j hj => by
  have hsi := sw_lt hkm hfm hi
  have b1 := frb _ hsi j hj
  have b2 := old _ hsi j hj
  have b3 := dvb j hj
  have b4 := old f hfm j hj
  have b5 := frb _ hsi c (by omega)
  have b6 := oldc _ hsi (swf i hik)
  have vi := r.val _ hsi j hj
  have vc := r.val _ hsi c (by omega)
  have vf := r.val f hfm j hj
  obtain ⟨n1, n2⟩ := num_neg_le (R (sw C.length f i) c)
  have hz : s.bf * s.M f c ≠ 0 := Int.mul_ne_zero hbz hp0
  have hv : (-(R (sw C.length f i) c) * (R f j / R f c)) * ((s.bf * s.M f c : Int) : Rat) = ((-(s.M (sw C.length f i) c * s.M f j) : Int) : Rat) := by
   simp only [Rat.intCast_mul, Rat.intCast_neg]
   rw [← vc, ← vf, ← hp]; grind
  have hb := frq_bound hz hv
  rw [Int.natAbs_neg, Int.natAbs_mul, Int.natAbs_mul] at hb
  have hb1 := Nat.mul_le_mul b6 b4
  have hb2 := Nat.mul_le_mul hbb hpb
  have hmu := muV_ok (p := -(R (sw C.length f i) c)) (q := R f j / R f c) (by rw [n1]; omega) (by rw [n2]; omega) (by omega) (by omega) (by omega) (by omega)
  refine ⟨hmu.1, ?_⟩
  rw [hmu.2]
  obtain ⟨z, hz1, hz2, _⟩ := newM i hi j hj
  have hsum : R (sw C.length f i) j + -(R (sw C.length f i) c) * (R f j / R f c) = stepR C.length f c R i j := by rw [key i hi hik]; grind
  have d1 : ((R (sw C.length f i) j).den : Int) ∣ s.bf * s.M f c := by
   obtain ⟨t, _, _, ht⟩ := frq_dvd hbz vi
   exact ⟨t * s.M f c, by rw [ht]; grind⟩
  have d2 : ((-(R (sw C.length f i) c) * (R f j / R f c)).den : Int) ∣ s.bf * s.M f c := by
   obtain ⟨t, _, _, ht⟩ := frq_dvd hz hv
   exact ⟨t, ht⟩
  have hl := lcN_bound (a := z) hp0 d1 d2 hbz (by rw [hsum]; exact hz1)
  have hb3 := Nat.mul_le_mul hz2 hbb
  have had := adV_ok (p := R (sw C.length f i) j) (q := -(R (sw C.length f i) c) * (R f j / R f c)) (by omega) (by omega) (by omega) (by omega) (by omega) (by omega)
  rw [hsum] at had
  exact had
 have hfac : ∀ i, i < m → i ≠ C.length → facV (mulR (fun i j => t.M (swp t.nx f i) j) t.nx (frV (t.M f c).2 (t.M f c).1) (n + 1)) i c = frq (-(R (sw C.length f i) c)) := fun i hi hik => by
  unfold facV
  rw [hM2 i hi c (by omega), if_neg hik]
  have hsi := sw_lt hkm hfm hi
  have b5 := frb _ hsi c (by omega)
  have b6 := oldc _ hsi (swf i hik)
  show (wrap64 (-(R (sw C.length f i) c).num), ((R (sw C.length f i) c).den : Int)) = frq (-(R (sw C.length f i) c))
  rw [wrap_self (by rw [Int.natAbs_neg]; omega)]
  unfold frq
  rw [Rat.neg_num, Rat.neg_den]
 have hcl : c < t.ld.length := by rw [r.ll]; exact hc
 rw [e1, e2]
 refine ⟨⟨hI', ?_, ?_, ?_, hnd', ?_, ?_, hgl', hgi', ?_, ?_, ?_, ?_, ?_, ?_⟩, ?_⟩
 ·show s.at_ + 1 = _
  rw [r.at_, hlen]
 ·show s.pv ++ [(c : Int)] = _
  rw [r.pv, List.map_append]; rfl
 ·show t.nx + 1 = _
  rw [r.nx, hlen]
 ·intro x hx
  rcases List.mem_append.1 hx with h | h
  ·exact Nat.lt_succ_of_lt (r.lt x h)
  ·rw [List.mem_singleton.1 h]; omega
 ·rcases r.full with h1 | ⟨h1, x, h2, h3⟩
  ·left; rw [h1, List.range_succ]
  ·right
   refine ⟨by rw [hlen]; omega, x, by omega, fun hx => ?_⟩
   rcases List.mem_append.1 hx with h | h
   ·exact h3 h
   ·have := List.mem_singleton.1 h; omega
 ·intro i hi j hj
  obtain ⟨z, hz, _, hm⟩ := newM i hi j hj
  show _ = ((mixS (fun i j => s.M (swp f s.at_ i) j) s.at_ c s.bf m 0 i j : Int) : Rat)
  rw [hm]; exact hz
 ·intro i hi j hj
  show clrR (mulR (fun i j => t.M (swp t.nx f i) j) t.nx (frV (t.M f c).2 (t.M f c).1) (n + 1)) t.nx c m 0 i j = _
  by_cases hik : i = C.length
  ·unfold clrR
   rw [if_neg (fun h_ => h_.1 (by rw [r.nx]; exact hik)), hM2 i hi j hj, if_pos hik, hik, keyk]
  ·unfold clrR
   rw [hM2 i hi c (by omega), if_neg hik]
   by_cases hz : (frq (R (sw C.length f i) c)).1 = 0
   ·rw [if_neg (fun h_ => h_.2.1 hz), hM2 i hi j hj, if_neg hik, key i hi hik]
    have : R (sw C.length f i) c = 0 := Rat.num_eq_zero.1 hz
    rw [this]
    congr 1; grind
   ·rw [if_pos ⟨by rw [r.nx]; exact hik, hz, .inl hi⟩, hM2 i hi j hj, if_neg hik, hfac i hi hik, r.nx]
    have := hM2 C.length hkm j hj
    rw [r.nx] at this
    rw [this, if_pos rfl]
    exact (clr i hi hik j hj).2.2
 ·show (s.M f c).natAbs ≤ _
  rw [hlen]; exact hpc
 ·show ((t.ld.set c (-1)).set c (t.nx : Int)).length = n
  rw [List.length_set, List.length_set]; exact r.ll
 ·intro i hi
  show ((t.ld.set c (-1)).set c (t.nx : Int)).getD ((C ++ [c]).getD i 0) 0 = _
  have e : (C ++ [c]).getD i 0 = if i = C.length then c else C.getD i 0 := congrFun (snoc_getD C c) i
  rw [e]
  by_cases hik : i = C.length
  ·rw [if_pos hik, hik, List.getD_eq_getElem?_getD, List.getElem?_set_self (by rw [List.length_set]; exact hcl), r.nx]; rfl
  ·rw [if_neg hik]
   rw [hlen] at hi
   have hi' : i < C.length := by omega
   have hm : C.getD i 0 ∈ C := by
    rw [List.getD_eq_getElem?_getD, List.getElem?_eq_getElem hi']
    exact List.getElem_mem hi'
   have := r.lt _ hm
   rw [List.getD_eq_getElem?_getD, List.getElem?_set_ne (by omega), List.getElem?_set_ne (by omega), ← List.getD_eq_getElem?_getD]
   exact r.l1 i hi'
 ·intro x hx hn
  show ((t.ld.set c (-1)).set c (t.nx : Int)).getD x 0 = _
  have hxc : x ≠ c := fun e => hn (by rw [e]; simp)
  rw [List.getD_eq_getElem?_getD, List.getElem?_set_ne (by omega), List.getElem?_set_ne (by omega), ← List.getD_eq_getElem?_getD]
  exact r.l2 x (by omega) (fun h_ => hn (List.mem_append_left _ h_))
 ·intro _
  rw [hsame]
  refine ⟨by rw [etf]; exact iok, fun k hk => ?_, fun M2 eM2 q hq hqn hq0 k hk => ?_⟩
  ·rw [etf, show frV (frq (R f c)).2 (frq (R f c)).1 = frq (1 / R f c) from ieq, r.fr f hfm k (by omega)]
   exact (mok k (by omega)).1
  ·subst eM2
   rw [r.nx] at hqn
   rw [hfac q hq hqn, hM2 q hq k (by omega), if_neg hqn]
   have := hM2 C.length hkm k (by omega)
   rw [r.nx] at this ⊢
   rw [this, if_pos rfl]
   exact ⟨(clr q hq hqn k (by omega)).1, (clr q hq hqn k (by omega)).2.1⟩
theorem Rel.start {m n : Nat} {T : Nat → Nat → Int} {F : Nat → Nat → Fr} (hF : ∀ i, i < m → ∀ j, j ≤ n → F i j = frq ((T i j : Int) : Rat)) : Rel m n T 0 (redS m T 0) (redI m (n + 1) n F 0) [] id (fun i => up (T i)) := by
 refine ⟨?_, rfl, rfl, rfl, by simp, fun x hx => by simp at hx, .inl rfl, fun _ h => h, fun _ _ _ _ h => h, fun i hi j hj => ?_, fun i hi j hj => hF i hi j hj, (by show Int.natAbs 1 ≤ cap 0; decide), List.length_replicate, fun i hi => by simp at hi, fun x hx => by omega⟩
 ·have := Inv.start m (fun i => ([] : List Nat).getD i 0) (fun i => up (T i))
  have e : ((redS m T 0).bf : Rat) = 1 := rfl
  rw [e]
  exact this
 ·show up (T i) j * ((1 : Int) : Rat) = _
  show (T i j : Rat) * ((1 : Int) : Rat) = (T i j : Rat)
  rw [show ((1 : Int) : Rat) = 1 from rfl]; grind
theorem Rel.all {m n : Nat} {T : Nat → Nat → Int} {F : Nat → Nat → Fr} (w : Wt m n T) (hF : ∀ i, i < m → ∀ j, j ≤ n → F i j = frq ((T i j : Int) : Rat)) : ∀ c, c ≤ n → ∃ C g R, Rel m n T c (redS m T c) (redI m (n + 1) n F c) C g R ∧ ∀ c', c' < c → stepOk m (n + 1) (redI m (n + 1) n F c') c'
 | 0, _ => ⟨[], id, _, Rel.start hF, fun c' h => by omega⟩
 | c + 1, hc => by
  obtain ⟨C, g, R, r, ho⟩ := Rel.all w hF c (by omega)
  rw [redS_succ, redI_succ]
  by_cases h : fndS (redS m T c).M c (m - (redS m T c).at_) (redS m T c).at_ = m
  ·obtain ⟨h1, h2⟩ := r.skip (by omega) h
   refine ⟨C, g, R, h1, fun c' h3 => ?_⟩
   by_cases he : c' = c
   ·rw [he]; exact h2
   ·exact ho c' (by omega)
  ·obtain ⟨f, _, h1, h2⟩ := r.pivot w (by omega) h
   refine ⟨_, _, _, h1, fun c' h3 => ?_⟩
   by_cases he : c' = c
   ·rw [he]; exact h2
   ·exact ho c' (by omega)
structure Fini (m n : Nat) (s : StS) (t : StI) (x : Nat → Rat) : Prop where
 pv : s.pv.length = n
 nm : n ≤ m
 ld : ∀ c, c < n → t.ld.getD c 0 = (c : Int)
 b0 : s.bf ≠ 0
 bb : s.bf.natAbs ≤ 1528823808
 val : ∀ i, i < m → x i * (s.bf : Rat) = (s.M i n : Rat)
 mb : ∀ i, i < m → (s.M i n).natAbs ≤ 38220595200
 fr : ∀ i, i < m → t.M i n = frq (x i)
theorem red_fin {m n : Nat} {T : Nat → Nat → Int} {F : Nat → Nat → Fr} (w : Wt m n T) (hF : ∀ i, i < m → ∀ j, j ≤ n → F i j = frq ((T i j : Int) : Rat)) : RedOk m (n + 1) n F ∧ (redI m (n + 1) n F n).ld.length = n ∧
  (((redS m T n).pv.length < n ∧ ∃ c, c < n ∧ (redI m (n + 1) n F n).ld.getD c 0 = -1) ∨ (¬ (∃ c, c < n ∧ (redI m (n + 1) n F n).ld.getD c 0 = -1) ∧ ∃ x, Fini m n (redS m T n) (redI m (n + 1) n F n) x)) := by
 obtain ⟨C, g, R, r, ho⟩ := Rel.all w hF n (Nat.le_refl n)
 refine ⟨ho, r.ll, ?_⟩
 have hpl : (redS m T n).pv.length = C.length := by rw [r.pv, List.length_map]
 rcases r.full with h | ⟨h, x, h1, h2⟩
 ·right
  have hl : C.length = n := by rw [h, List.length_range]
  have hld : ∀ c, c < n → (redI m (n + 1) n F n).ld.getD c 0 = (c : Int) := fun c hc => by
   have := r.l1 c (by omega)
   have e : C.getD c 0 = c := by rw [h, List.getD_eq_getElem?_getD, List.getElem?_range hc]; rfl
   rwa [e] at this
  refine ⟨fun ⟨c, hc, e⟩ => by rw [hld c hc] at e; omega, fun i => R i n, hpl.trans hl, by have := r.inv.hk; omega, hld, fun e => r.inv.hd (by rw [e]; simp), ?_, fun i hi => r.val i hi n (Nat.le_refl n), fun i hi => ?_, fun i hi => r.fr i hi n (Nat.le_refl n)⟩
  ·exact Nat.le_trans r.bf (cap_mono (show C.length ≤ 6 by have := r.inv.hk; have := w.m6; omega) (by omega))
  ·obtain ⟨z, hz, hb, _⟩ := val_any w r.inv r.nd r.lt r.gl r.gi hi (Nat.le_refl n)
   rw [r.val i hi n (Nat.le_refl n)] at hz
   rw [cast_inj hz]; exact hb
 ·left
  exact ⟨by omega, x, h1, r.l2 x h1 h2⟩
def lcmX (x : Nat → Rat) : Nat → Nat
 | 0 => 1
 | c + 1 => Nat.lcm (lcmX x c) (x c).den
theorem lcmX_pos (x : Nat → Rat) : ∀ c, 0 < lcmX x c
 | 0 => Nat.one_pos
 | c + 1 => Nat.lcm_pos (lcmX_pos x c) (by have := (x c).den_nz; omega)
theorem lcmX_dvd (x : Nat → Rat) {b : Nat} : ∀ c, (∀ i, i < c → (x i).den ∣ b) → lcmX x c ∣ b
 | 0, _ => Nat.one_dvd _
 | c + 1, h => Nat.lcm_dvd (lcmX_dvd x c (fun i hi => h i (by omega))) (h c (by omega))
theorem den_dvd_lcmX (x : Nat → Rat) : ∀ c i, i < c → (x i).den ∣ lcmX x c
 | c + 1, i, h => by
  by_cases he : i = c
  ·rw [he]; exact Nat.dvd_lcm_right ..
  ·exact Nat.dvd_trans (den_dvd_lcmX x c i (by omega)) (Nat.dvd_lcm_left ..)
theorem lcmX_gcd {x : Nat → Rat} {n : Nat} {b : Int} {M : Nat → Int} (hb : b ≠ 0) (hv : ∀ i, i < n → x i * (b : Rat) = (M i : Rat)) {G : Nat} (hG : ∀ d : Nat, d ∣ G ↔ d ∣ b.natAbs ∧ ∀ i, i < n → d ∣ (M i).natAbs) :
  b.natAbs = G * lcmX x n ∧ 0 < G ∧ ∀ i, i < n → ∀ g' : Int, (g' = G ∧ 0 < b ∨ g' = -(G : Int) ∧ b < 0) → M i = g' * ((x i).num * ((lcmX x n : Int) / ((x i).den : Int))) ∧ b = g' * (lcmX x n : Int) := by
 have hd : ∀ i, i < n → (x i).den ∣ b.natAbs := fun i hi => by
  obtain ⟨t, _, _, ht⟩ := frq_dvd hb (hv i hi)
  have : ((x i).den : Int).natAbs ∣ b.natAbs := by rw [ht, Int.natAbs_mul]; exact Nat.dvd_mul_right ..
  simpa using this
 obtain ⟨t, ht⟩ := lcmX_dvd x n hd
 have hL := lcmX_pos x n
 have hbp : 0 < b.natAbs := by omega
 have cross : ∀ i, i < n → M i * ((x i).den : Int) = (x i).num * b := fun i hi => by
  apply cast_inj
  simp only [Rat.intCast_mul]
  rw [← hv i hi, ← frq_val (x i)]; grind
 have hMt : ∀ i, i < n → ∃ e : Nat, lcmX x n = (x i).den * e ∧ (M i).natAbs = (x i).num.natAbs * (e * t) := fun i hi => by
  obtain ⟨e, he⟩ := den_dvd_lcmX x n i hi
  refine ⟨e, he, ?_⟩
  have h1 : (M i).natAbs * (x i).den = (x i).num.natAbs * b.natAbs := by
   have := congrArg Int.natAbs (cross i hi)
   rw [Int.natAbs_mul, Int.natAbs_mul] at this
   simpa using this
  rw [ht, he] at h1
  have h2 : (M i).natAbs * (x i).den = ((x i).num.natAbs * (e * t)) * (x i).den := by rw [h1]; simp only [Nat.mul_assoc, Nat.mul_comm, Nat.mul_left_comm]
  exact Nat.eq_of_mul_eq_mul_right (by have := (x i).den_nz; omega) h2
 have htG : t ∣ G := (hG t).2 ⟨⟨lcmX x n, by rw [ht, Nat.mul_comm]⟩, fun i hi => by
  obtain ⟨e, _, h2⟩ := hMt i hi
  exact ⟨(x i).num.natAbs * e, by rw [h2]; simp only [Nat.mul_assoc, Nat.mul_comm, Nat.mul_left_comm]⟩⟩
 have hGb := (hG G).1 (Nat.dvd_refl _)
 obtain ⟨E, hE⟩ := hGb.1
 have hGp : 0 < G := by
  rcases Nat.eq_zero_or_pos G with h | h
  ·rw [h] at hE; simp at hE; omega
  ·exact h
 have hLE : lcmX x n ∣ E := lcmX_dvd x n (fun i hi => by
  obtain ⟨q, hq⟩ := hGb.2 i hi
  have h1 : (M i).natAbs * (x i).den = (x i).num.natAbs * b.natAbs := by
   have := congrArg Int.natAbs (cross i hi)
   rw [Int.natAbs_mul, Int.natAbs_mul] at this
   simpa using this
  rw [hq, hE] at h1
  have h2 : q * (x i).den = (x i).num.natAbs * E := by
   have : G * (q * (x i).den) = G * ((x i).num.natAbs * E) := by rw [← Nat.mul_assoc, h1]; simp only [Nat.mul_assoc, Nat.mul_comm, Nat.mul_left_comm]
   exact Nat.eq_of_mul_eq_mul_left hGp this
  exact Nat.Coprime.dvd_of_dvd_mul_left (Nat.Coprime.symm (x i).reduced) ⟨q, by rw [← h2, Nat.mul_comm]⟩)
 have hbG : b.natAbs = G * lcmX x n := by
  obtain ⟨u, hu⟩ := hLE
  have : lcmX x n * t = lcmX x n * (G * u) := by rw [← ht, hE, hu]; simp only [Nat.mul_assoc, Nat.mul_comm, Nat.mul_left_comm]
  have h3 : t = G * u := Nat.eq_of_mul_eq_mul_left hL this
  have h4 : G ∣ t := ⟨u, h3⟩
  have h5 : t = G := Nat.dvd_antisymm htG h4
  rw [ht, h5, Nat.mul_comm]
 refine ⟨hbG, hGp, fun i hi g' hg' => ?_⟩
 have hbg : b = g' * (lcmX x n : Int) := by
  rcases hg' with ⟨rfl, h⟩ | ⟨rfl, h⟩
  ·have : (b.natAbs : Int) = (G : Int) * (lcmX x n : Int) := by rw [hbG]; simp
   omega
  ·have : (b.natAbs : Int) = (G : Int) * (lcmX x n : Int) := by rw [hbG]; simp
   rw [Int.neg_mul]; omega
 refine ⟨?_, hbg⟩
 obtain ⟨e, he, _⟩ := hMt i hi
 have hd0 : ((x i).den : Int) ≠ 0 := by have := (x i).den_nz; omega
 have he' : (lcmX x n : Int) = ((x i).den : Int) * (e : Int) := by rw [he]; simp
 rw [he', Int.mul_ediv_cancel_left _ hd0]
 have hc := cross i hi
 rw [hbg, he'] at hc
 exact Int.eq_of_mul_eq_mul_right hd0 (by rw [hc]; grind)

structure FrOk (kn : List S164) (br : List S115) : Prop where
 k8 : kn.length ≤ 8
 b8 : br.length ≤ 8
 free : ((List.range kn.length).filter (freeB kn)).length ≤ 3
 xy : ∀ i : Int, 0 ≤ i → i < kn.length → (0 ≤ (rd_T164 kn i).f0 ∧ (rd_T164 kn i).f0 ≤ 12) ∧ 0 ≤ (rd_T164 kn i).f1 ∧ (rd_T164 kn i).f1 ≤ 12
 ab : ∀ i : Int, 0 ≤ i → i < br.length → 0 ≤ (rd_T115 br i).f0 ∧ (rd_T115 br i).f0 < (rd_T115 br i).f1 ∧ (rd_T115 br i).f1 < kn.length
 ds : ∀ i j : Int, 0 ≤ i → i < br.length → 0 ≤ j → j < br.length → (rd_T115 br i).f0 = (rd_T115 br j).f0 → (rd_T115 br i).f1 = (rd_T115 br j).f1 → i = j
structure LdOk (kn : List S164) (ld : List S113) : Prop where
 len : ld.length = kn.length
 xy : ∀ i : Int, 0 ≤ i → i < ld.length → (-100 ≤ (rd_T113 ld i).f0 ∧ (rd_T113 ld i).f0 ≤ 100) ∧ -100 ≤ (rd_T113 ld i).f1 ∧ (rd_T113 ld i).f1 ≤ 100
structure BsOk (br : List S115) (bs : List Int) : Prop where
 nd : ∀ i j : Nat, i < bs.length → j < bs.length → bs.getD i 0 = bs.getD j 0 → i = j
 rg : ∀ q, q < bs.length → 0 ≤ bs.getD q 0 ∧ bs.getD q 0 < br.length
def rowsOf (rows : List (List Int)) (j : Nat) : Nat := (rows.map (fun r => (r.getD j 0).natAbs)).sum
theorem W_rows (rows : List (List Int)) (j : Nat) : Det.W rows.length (fun i j => (rows.getD i []).getD j 0) j = rowsOf rows j := by
 unfold Det.W rowsOf
 congr 1
 apply List.ext_getElem
 ·simp
 ·intro i h1 h2
  simp at h2
  simp [List.getD_eq_getElem?_getD, List.getElem?_eq_getElem h2]
theorem rowX_bar (kn : List S164) (br : List S115) (ld : List S113) (bs : List Int) (i : Nat) {j : Nat} (hj : j < bs.length) : (rowX kn br ld bs i).getD j 0 = (dT kn (rd_T115 br (bs.getD j 0)) (i : Int)).1 := by
 unfold rowX
 rw [List.getD_eq_getElem?_getD, List.getElem?_append_left (by simpa using hj), List.getElem?_map]
 simp [List.getElem?_eq_getElem hj, List.getD_eq_getElem?_getD]
theorem rowY_bar (kn : List S164) (br : List S115) (ld : List S113) (bs : List Int) (i : Nat) {j : Nat} (hj : j < bs.length) : (rowY kn br ld bs i).getD j 0 = (dT kn (rd_T115 br (bs.getD j 0)) (i : Int)).2 := by
 unfold rowY
 rw [List.getD_eq_getElem?_getD, List.getElem?_append_left (by simpa using hj), List.getElem?_map]
 simp [List.getElem?_eq_getElem hj, List.getD_eq_getElem?_getD]
theorem rowX_load (kn : List S164) (br : List S115) (ld : List S113) (bs : List Int) (i : Nat) : (rowX kn br ld bs i).getD bs.length 0 = wrap64 (-(rd_T113 ld (i : Int)).f0) := by
 unfold rowX
 rw [List.getD_eq_getElem?_getD, List.getElem?_append_right (by simp)]
 simp
theorem rowY_load (kn : List S164) (br : List S115) (ld : List S113) (bs : List Int) (i : Nat) : (rowY kn br ld bs i).getD bs.length 0 = wrap64 (-(rd_T113 ld (i : Int)).f1) := by
 unfold rowY
 rw [List.getD_eq_getElem?_getD, List.getElem?_append_right (by simp)]
 simp
def frN (kn : List S164) (a : Int) (i : Nat) : Nat := if (rd_T164 kn a).f2 = false ∧ a < (i : Int) then 1 else 0
theorem dT_bound {kn : List S164} {br : List S115} (f : FrOk kn br) {k : Int} (h0 : 0 ≤ k) (h1 : k < br.length) (i : Nat) :
  (dT kn (rd_T115 br k) (i : Int)).1.natAbs + (dT kn (rd_T115 br k) (i : Int)).2.natAbs ≤ (if (rd_T115 br k).f0 = i then 24 else 0) + (if (rd_T115 br k).f1 = i then 24 else 0) := by
 obtain ⟨a0, a1, a2⟩ := f.ab k h0 h1
 obtain ⟨x0, x1⟩ := f.xy _ a0 (by omega)
 obtain ⟨y0, y1⟩ := f.xy (rd_T115 br k).f1 (by omega) a2
 unfold dT
 by_cases e1 : (rd_T115 br k).f0 = i
 ·rw [if_neg (by omega), if_neg (by omega), if_pos e1]
  dsimp only
  rw [wrap_self (by omega), wrap_self (by omega)]
  omega
 ·by_cases e2 : (rd_T115 br k).f1 = i
  ·rw [if_neg (by omega), if_pos e2, if_neg e1, if_pos e2]
   dsimp only
   rw [wrap_self (x := (rd_T164 kn (rd_T115 br k).f1).f0 - (rd_T164 kn (rd_T115 br k).f0).f0) (by omega), wrap_self (x := (rd_T164 kn (rd_T115 br k).f1).f1 - (rd_T164 kn (rd_T115 br k).f0).f1) (by omega), wrap_self (by omega), wrap_self (by omega)]
   omega
  ·rw [if_pos ⟨e1, e2⟩]; simp
theorem rowsOf_append (a b : List (List Int)) (j : Nat) : rowsOf (a ++ b) j = rowsOf a j + rowsOf b j := by simp [rowsOf]
theorem tab_bar {kn : List S164} {br : List S115} (f : FrOk kn br) (ld : List S113) {bs : List Int} (b : BsOk br bs) {j : Nat} (hj : j < bs.length) : ∀ i, rowsOf (tabU kn br ld bs i) j ≤ 24 * frN kn (rd_T115 br (bs.getD j 0)).f0 i + 24 * frN kn (rd_T115 br (bs.getD j 0)).f1 i
 | 0 => by simp [tabU, rowsOf]
 | i + 1 => by
  have ih := tab_bar f ld b hj i
  obtain ⟨h0, h1⟩ := b.rg j hj
  have hd := dT_bound f h0 h1 i
  have mono : ∀ a, frN kn a i ≤ frN kn a (i + 1) := fun a => by
   unfold frN
   by_cases h : (rd_T164 kn a).f2 = false ∧ a < (i : Int)
   ·rw [if_pos h, if_pos ⟨h.1, by omega⟩]; exact Nat.le_refl _
   ·rw [if_neg h]; exact Nat.zero_le _
  have step : ∀ a, (rd_T164 kn (i : Int)).f2 = false → a = (i : Int) → frN kn a i + 1 ≤ frN kn a (i + 1) := fun a hf e => by
   subst e
   unfold frN
   rw [if_neg (by omega), if_pos ⟨hf, by omega⟩]; exact Nat.le_refl _
  have m0 := mono (rd_T115 br (bs.getD j 0)).f0
  have m1 := mono (rd_T115 br (bs.getD j 0)).f1
  unfold tabU
  by_cases hx : (rd_T164 kn (i : Int)).f2 = true
  ·rw [if_pos hx]; omega
  ·rw [if_neg hx]
   have hx' : (rd_T164 kn (i : Int)).f2 = false := by simpa using hx
   have s0 := step (rd_T115 br (bs.getD j 0)).f0 hx'
   have s1 := step (rd_T115 br (bs.getD j 0)).f1 hx'
   rw [rowsOf_append, rowsOf_append]
   have e1 : rowsOf [rowX kn br ld bs i] j = (dT kn (rd_T115 br (bs.getD j 0)) (i : Int)).1.natAbs := by simp only [rowsOf, List.map_cons, List.map_nil, List.sum_cons, List.sum_nil]; rw [rowX_bar _ _ _ _ _ hj]; omega
   have e2 : rowsOf [rowY kn br ld bs i] j = (dT kn (rd_T115 br (bs.getD j 0)) (i : Int)).2.natAbs := by simp only [rowsOf, List.map_cons, List.map_nil, List.sum_cons, List.sum_nil]; rw [rowY_bar _ _ _ _ _ hj]; omega
   rw [e1, e2]
   split at hd <;> split at hd <;> omega
theorem tab_free {kn : List S164} (br : List S115) (ld : List S113) (bs : List Int) : ∀ i, (tabU kn br ld bs i).length = 2 * ((List.range i).filter (freeB kn)).length
 | 0 => rfl
 | i + 1 => by
  have ih := tab_free (kn := kn) br ld bs i
  unfold tabU
  rw [List.range_succ, List.filter_append, List.length_append]
  by_cases hx : (rd_T164 kn (i : Int)).f2 = true
  ·rw [if_pos hx]; simp [hx, freeB]; omega
  ·rw [if_neg hx]
   simp at hx
   simp [hx, freeB]; omega
theorem tab_load {kn : List S164} (br : List S115) {ld : List S113} (l : LdOk kn ld) (bs : List Int) : ∀ i, i ≤ kn.length → rowsOf (tabU kn br ld bs i) bs.length ≤ 200 * ((List.range i).filter (freeB kn)).length
 | 0, _ => by simp [tabU, rowsOf]
 | i + 1, hi => by
  have ih := tab_load br l bs i (by omega)
  unfold tabU
  rw [List.range_succ, List.filter_append, List.length_append]
  by_cases hx : (rd_T164 kn (i : Int)).f2 = true
  ·rw [if_pos hx]; simp [hx, freeB]; omega
  ·rw [if_neg hx]
   simp at hx
   rw [rowsOf_append, rowsOf_append]
   obtain ⟨x0, x1⟩ := l.xy (i : Int) (by omega) (by rw [l.len]; omega)
   have e1 : rowsOf [rowX kn br ld bs i] bs.length ≤ 100 := by simp only [rowsOf, List.map_cons, List.map_nil, List.sum_cons, List.sum_nil]; rw [rowX_load, wrap_self (by omega)]; omega
   have e2 : rowsOf [rowY kn br ld bs i] bs.length ≤ 100 := by simp only [rowsOf, List.map_cons, List.map_nil, List.sum_cons, List.sum_nil]; rw [rowY_load, wrap_self (by omega)]; omega
   simp [hx, freeB]; omega
theorem nodup_le {α : Type} [DecidableEq α] : ∀ (l L : List α), l.Nodup → (∀ x ∈ l, x ∈ L) → l.length ≤ L.length
 | [], L, _, _ => Nat.zero_le _
 | a :: l, L, hn, h => by
  have ha := h a (by simp)
  have := nodup_le l (L.erase a) (List.nodup_cons.1 hn).2 (fun x hx => (List.mem_erase_of_ne (fun e => (List.nodup_cons.1 hn).1 (by rw [← e]; exact hx))).2 (h x (by simp [hx])))
  rw [List.length_erase_of_mem ha] at this
  have hl : 0 < L.length := List.length_pos_of_mem ha
  simp; omega
def pairsOf : List Nat → List (Int × Int)
 | [] => []
 | a :: l => l.map (fun (b : Nat) => ((a : Int), (b : Int))) ++ pairsOf l
theorem mem_pairs : ∀ (l : List Nat), l.Pairwise (· < ·) → ∀ a b : Nat, a ∈ l → b ∈ l → a < b → ((a : Int), (b : Int)) ∈ pairsOf l
 | [], _, a, b, h, _, _ => by simp at h
 | x :: l, hp, a, b, ha, hb, hab => by
  have hp' := List.pairwise_cons.1 hp
  unfold pairsOf
  rcases List.mem_cons.1 ha with ea | ha'
  ·rcases List.mem_cons.1 hb with eb | hb'
   ·omega
   ·exact List.mem_append_left _ (List.mem_map.2 ⟨b, hb', by rw [ea]⟩)
  ·rcases List.mem_cons.1 hb with eb | hb'
   ·have := hp'.1 a ha'; omega
   ·exact List.mem_append_right _ (mem_pairs l hp'.2 a b ha' hb' hab)
theorem pairs_le : ∀ (l : List Nat), l.length ≤ 3 → (pairsOf l).length ≤ 3
 | [], _ => by simp [pairsOf]
 | [a], _ => by simp [pairsOf]
 | [a, b], _ => by simp [pairsOf]
 | [a, b, c], _ => by simp [pairsOf]
 | a :: b :: c :: d :: l, h => by simp at h
def two (kn : List S164) (br : List S115) (bs : List Int) (j : Nat) : Bool := (rd_T164 kn (rd_T115 br (bs.getD j 0)).f0).f2 = false ∧ (rd_T164 kn (rd_T115 br (bs.getD j 0)).f1).f2 = false
theorem two_le {kn : List S164} {br : List S115} (f : FrOk kn br) {bs : List Int} (b : BsOk br bs) (C : List Nat) (hn : C.Nodup) (hC : ∀ x ∈ C, x < bs.length) : (C.filter (two kn br bs)).length ≤ 3 := by
 have h1 := nodup_le ((C.filter (two kn br bs)).map (fun j => ((rd_T115 br (bs.getD j 0)).f0, (rd_T115 br (bs.getD j 0)).f1))) (pairsOf ((List.range kn.length).filter (freeB kn))) (Det.nodup_map (fun x hx y hy e => by
  have hx' := hC x (List.mem_filter.1 hx).1
  have hy' := hC y (List.mem_filter.1 hy).1
  have h1 := b.rg x hx'
  have h2 := b.rg y hy'
  simp only [Prod.mk.injEq] at e
  exact b.nd x y hx' hy' (f.ds _ _ h1.1 h1.2 h2.1 h2.2 e.1 e.2)) (hn.filter _)) (fun p hp => by
  obtain ⟨x, hx, rfl⟩ := List.mem_map.1 hp
  have hx' := hC x (List.mem_filter.1 hx).1
  have ht := (List.mem_filter.1 hx).2
  have h1 := b.rg x hx'
  obtain ⟨a0, a1, a2⟩ := f.ab _ h1.1 h1.2
  simp only [two, decide_eq_true_eq] at ht
  generalize hA : (rd_T115 br (bs.getD x 0)).f0 = A at *
  generalize hB : (rd_T115 br (bs.getD x 0)).f1 = B at *
  obtain ⟨a, rfl⟩ : ∃ a : Nat, A = a := ⟨A.toNat, by omega⟩
  obtain ⟨b', rfl⟩ : ∃ a : Nat, B = a := ⟨B.toNat, by omega⟩
  refine mem_pairs _ (List.Pairwise.filter _ List.pairwise_lt_range) a b' ?_ ?_ (by omega)
  ·exact List.mem_filter.2 ⟨List.mem_range.2 (by omega), by simpa [freeB] using ht.1⟩
  ·exact List.mem_filter.2 ⟨List.mem_range.2 (by omega), by simpa [freeB] using ht.2⟩)
 rw [List.length_map] at h1
 exact Nat.le_trans h1 (pairs_le _ f.free)
theorem prod_le (w : Nat → Nat) (p : Nat → Bool) : ∀ (C : List Nat), (∀ x ∈ C, w x ≤ if p x then 48 else 24) → (C.map w).prod ≤ 48 ^ (C.filter p).length * 24 ^ (C.length - (C.filter p).length)
 | [], _ => by simp
 | a :: C, h => by
  have ih := prod_le w p C (fun x hx => h x (by simp [hx]))
  have ha := h a (by simp)
  have hl : (C.filter p).length ≤ C.length := List.length_filter_le ..
  rw [List.map_cons, List.prod_cons]
  by_cases hp : p a
  ·rw [if_pos hp] at ha
   rw [List.filter_cons_of_pos hp, List.length_cons, List.length_cons, show C.length + 1 - ((C.filter p).length + 1) = C.length - (C.filter p).length from by omega, Nat.pow_succ]
   refine Nat.le_trans (Nat.mul_le_mul ha ih) (Nat.le_of_eq ?_)
   simp only [Nat.mul_assoc, Nat.mul_comm, Nat.mul_left_comm]
  ·rw [if_neg hp] at ha
   rw [List.filter_cons_of_neg hp, List.length_cons, show C.length + 1 - (C.filter p).length = C.length - (C.filter p).length + 1 from by omega, Nat.pow_succ]
   refine Nat.le_trans (Nat.mul_le_mul ha ih) (Nat.le_of_eq ?_)
   simp only [Nat.mul_assoc, Nat.mul_comm, Nat.mul_left_comm]
theorem cap_of : ∀ a, a ≤ 3 → ∀ b, a + b ≤ 6 → 48 ^ a * 24 ^ b ≤ cap (a + b) := by
 have h : ∀ a : Fin 4, ∀ b : Fin 7, a.val + b.val ≤ 6 → 48 ^ a.val * 24 ^ b.val ≤ cap (a.val + b.val) := by decide
 exact fun a ha b hb => h ⟨a, by omega⟩ ⟨b, by omega⟩ hb
theorem wt_ok {kn : List S164} {br : List S115} (f : FrOk kn br) {ld : List S113} (l : LdOk kn ld) {bs : List Int} (b : BsOk br bs) : Wt (tabU kn br ld bs kn.length).length bs.length (tabM kn br ld bs) := by
 have hW : ∀ j, Det.W (tabU kn br ld bs kn.length).length (tabM kn br ld bs) j = rowsOf (tabU kn br ld bs kn.length) j := fun j => W_rows _ j
 have hb : ∀ j, j < bs.length → Det.W (tabU kn br ld bs kn.length).length (tabM kn br ld bs) j ≤ if two kn br bs j then 48 else 24 := fun j hj => by
  rw [hW]
  have h1 := tab_bar f ld b hj kn.length
  refine Nat.le_trans h1 ?_
  have le1 : ∀ a, frN kn a kn.length ≤ 1 := fun a => by unfold frN; split <;> omega
  have z1 : ∀ a, (rd_T164 kn a).f2 ≠ false → frN kn a kn.length = 0 := fun a h => by unfold frN; rw [if_neg (fun h_ => h h_.1)]
  have l0 := le1 (rd_T115 br (bs.getD j 0)).f0
  have l1 := le1 (rd_T115 br (bs.getD j 0)).f1
  by_cases ht : two kn br bs j = true
  ·rw [if_pos ht]; omega
  ·rw [if_neg ht]
   simp only [two, decide_eq_true_eq] at ht
   by_cases h2 : (rd_T164 kn (rd_T115 br (bs.getD j 0)).f0).f2 = false
   ·have := z1 _ (fun h => ht ⟨h2, h⟩); omega
   ·have := z1 _ h2; omega
 refine ⟨?_, fun C hn hC hl => ?_, fun j hj => ?_⟩
 ·rw [tab_free]; have := f.free; omega
 ·have h1 := prod_le (Det.W (tabU kn br ld bs kn.length).length (tabM kn br ld bs)) (two kn br bs) C (fun x hx => hb x (hC x hx))
  have h2 := two_le f b C hn hC
  have h3 : (C.filter (two kn br bs)).length ≤ C.length := List.length_filter_le ..
  have h4 := cap_of _ h2 (C.length - (C.filter (two kn br bs)).length) (by omega)
  rw [show (C.filter (two kn br bs)).length + (C.length - (C.filter (two kn br bs)).length) = C.length from by omega] at h4
  exact Nat.le_trans h1 h4
 ·by_cases he : j = bs.length
  ·rw [he, hW]
   have := tab_load br l bs kn.length (Nat.le_refl _)
   have := f.free
   omega
  ·have := hb j (by omega)
   split at this <;> omega
theorem ev_succ {α : Type} {g : Nat → Option α} {r : α} (h : Ev (fun k => g (k + 1)) r) : Ev g r := Ev.step (fun _ => rfl) h
theorem freeKE {kn : List S164} (br : List S115) (hk : kn.length ≤ 8) : Ev (fun k => impl_freeKnots.f k kn br) (fkU kn kn.length) := by
 unfold impl_freeKnots.f
 refine loop_all (fun k i => impl_freeKnots.l0 k (fkU kn i) kn (kn.length : Int) (i : Int)) kn.length _ (fun i hi k => ?_) ?_
 ·simp only [impl_freeKnots.l0]
  have hl : (fkU kn i).length ≤ i := by rw [fkU_len]; exact free_len kn i
  rw [if_pos (show (i : Int) < (kn.length : Int) by omega), if_pos (show 0 ≤ (i : Int) by omega), if_pos (show (i : Int) < (kn.length : Int) by omega), succ_cast i (by omega)]
  rw [fkU_next]
  by_cases h : (rd_T164 kn (i : Int)).f2 = true
  ·rw [if_pos h, if_pos h]
  ·rw [if_neg h, if_neg h, if_pos (by omega)]
 ·refine ev_succ ?_
  simp only [impl_freeKnots.l0]
  exact ev_if_neg (by omega) (ev_now fun _ => rfl)
theorem frq_int (z : Int) : frq (z : Rat) = (z, 1) := rfl
theorem fracOne {z : Int} (h : z.natAbs ≤ 9223372036854775807) : Ev (fun k => impl_fraction.f k z 1) (z, 1) := by
 have := fracQ (q := (z : Rat)) (n := z) (d := 1) (by rw [show ((1 : Int) : Rat) = 1 from rfl]; grind) h (by decide) (by decide)
 rwa [frq_int] at this
theorem pullE {kn : List S164} {br : List S115} (f : FrOk kn br) {b : Int} (h0 : 0 ≤ b) (h1 : b < br.length) (v : Int) : impl_pullOf.f kn br (rd_T115 br b).f0 (rd_T115 br b).f1 (rd_T115 br b).f2 v = some (dT kn (rd_T115 br b) v) := by
 obtain ⟨a0, a1, a2⟩ := f.ab b h0 h1
 unfold impl_pullOf.f dT
 rw [if_pos (by omega), if_pos a2, if_pos a0, if_pos (by omega)]
 by_cases e1 : v = (rd_T115 br b).f0
 ·rw [if_pos e1, if_neg (fun h => h.1 e1.symm), if_neg (by omega)]
 ·rw [if_neg e1]
  by_cases e2 : v = (rd_T115 br b).f1
  ·rw [if_pos e2, if_neg (fun h => h.2 e2.symm), if_pos e2.symm]
  ·rw [if_neg e2, if_pos ⟨fun e => e1 e.symm, fun e => e2 e.symm⟩]
def up1 (row : List Int) : List S147 := row.map (fun z => ⟨z, 1⟩)
theorem up1_snoc (a : List Int) (z : Int) : up1 a ++ [⟨z, 1⟩] = up1 (a ++ [z]) := by simp [up1]
theorem up1_len (a : List Int) : (up1 a).length = a.length := by simp [up1]
theorem dT_small {kn : List S164} {br : List S115} (f : FrOk kn br) {b : Int} (h0 : 0 ≤ b) (h1 : b < br.length) (i : Nat) : (dT kn (rd_T115 br b) (i : Int)).1.natAbs ≤ 48 ∧ (dT kn (rd_T115 br b) (i : Int)).2.natAbs ≤ 48 := by
 have := dT_bound f h0 h1 i
 split at this <;> split at this <;> omega
theorem tabU_filter (kn : List S164) (br : List S115) (ld : List S113) (bs : List Int) : ∀ i, tabU kn br ld bs i = ((List.range i).filter (freeB kn)).flatMap (fun i => [rowX kn br ld bs i, rowY kn br ld bs i])
 | 0 => rfl
 | i + 1 => by
  rw [List.range_succ, List.filter_append, List.flatMap_append]
  unfold tabU
  rw [tabU_filter kn br ld bs i]
  by_cases h : (rd_T164 kn (i : Int)).f2 = true
  ·rw [if_pos h]; simp [freeB, h]
  ·rw [if_neg h]; simp at h; simp [freeB, h]
theorem rowsE {kn : List S164} {br : List S115} {ld : List S113} {bs : List Int} (f : FrOk kn br) (l : LdOk kn ld) (b : BsOk br bs) (hb : bs.length ≤ 8) : Ev (fun k => impl_barRows.f k kn br ld bs) ((tabU kn br ld bs kn.length).map up1) := by
 unfold impl_barRows.f
 refine ev_bind (freeKE br f.k8) ?_
 have hk8 := f.k8
 obtain ⟨L, hL⟩ : ∃ L, (List.range kn.length).filter (freeB kn) = L := ⟨_, rfl⟩
 have hLm : ∀ x ∈ L, x < kn.length := fun x hx => by rw [← hL] at hx; exact List.mem_range.1 (List.mem_filter.1 hx).1
 have hLl : L.length ≤ 8 := by
  have := List.length_filter_le (freeB kn) (List.range kn.length)
  rw [List.length_range, hL] at this
  omega
 have hfk : fkU kn kn.length = L.map (fun (i : Nat) => (i : Int)) := by unfold fkU; rw [hL]
 rw [hfk, tabU_filter, hL]
 have hlen : ((L.map (fun (i : Nat) => (i : Int))).length : Int) = (L.length : Int) := by simp
 rw [hlen]
 obtain ⟨row2, hrow2⟩ : ∃ g : Nat → List (List Int), (fun i => [rowX kn br ld bs i, rowY kn br ld bs i]) = g := ⟨_, rfl⟩
 rw [hrow2]
 have hr2 : ∀ i, (row2 i).length = 2 := fun i => by rw [← hrow2]; rfl
 have hflen : ∀ p, ((L.take p).flatMap row2).length ≤ 2 * p := by
  intro p
  induction p with
  | zero => simp
  | succ p ih =>
   by_cases hp : p < L.length
   ·rw [List.take_succ_eq_append_getElem hp, List.flatMap_append, List.length_append]
    simp only [List.flatMap_cons, List.flatMap_nil, List.append_nil, hr2]; omega
   ·rw [List.take_of_length_le (by omega)]
    rw [List.take_of_length_le (by omega)] at ih
    omega
 refine loop_up' (fun k p => impl_barRows.l0 k ld bs (((L.take p).flatMap row2).map up1) (L.map (fun (i : Nat) => (i : Int))) (L.length : Int) (p : Int) kn br) L.length _ (fun _ => True) (fun p hp _ => .inl ⟨trivial, fun hnext => ?_⟩) (fun _ => ?_) L.length 0 (by omega) (by omega) trivial
 ·refine ev_succ ?_
  simp only [impl_barRows.l0]
  refine ev_if_pos (by omega) (ev_if_pos (by omega) (ev_if_pos (by simp; omega) ?_))
  obtain ⟨i, hi⟩ : ∃ i : Nat, L[p] = i := ⟨_, rfl⟩
  have hik : i < kn.length := hLm i (by rw [← hi]; exact List.getElem_mem hp)
  have hv : rd (L.map (fun (i : Nat) => (i : Int))) (p : Int) = (i : Int) := by
   show (L.map (fun (i : Nat) => (i : Int))).getD (Int.toNat (p : Int)) 0 = _
   rw [Int.toNat_natCast, List.getD_eq_getElem?_getD, List.getElem?_map, List.getElem?_eq_getElem hp]
   simp [hi]
  rw [hv]
  refine loop_up' (fun k q => impl_barRows.l1 k ld bs (((L.take p).flatMap row2).map up1) (i : Int) (up1 ((bs.take q).map (fun k => (dT kn (rd_T115 br k) (i : Int)).1))) (up1 ((bs.take q).map (fun k => (dT kn (rd_T115 br k) (i : Int)).2))) (L.map (fun (i : Nat) => (i : Int))) (L.length : Int) (p : Int) bs (bs.length : Int) (q : Int) kn br) bs.length _ (fun _ => True) (fun q hq _ => .inl ⟨trivial, fun hn2 => ?_⟩) (fun _ => ?_) bs.length 0 (by omega) (by omega) trivial
  ·refine ev_succ ?_
   simp only [impl_barRows.l1]
   obtain ⟨h0, h1⟩ := b.rg q hq
   have hrd : rd bs (q : Int) = bs.getD q 0 := by show bs.getD (Int.toNat (q : Int)) 0 = _; rw [Int.toNat_natCast]
   rw [hrd]
   obtain ⟨s1, s2⟩ := dT_small f h0 h1 i
   refine ev_if_pos (by omega) (ev_if_pos (by omega) (ev_if_pos (by omega) (ev_if_pos h0 (ev_if_pos h1 (ev_bind (ev_const (pullE f h0 h1 (i : Int))) (ev_bind (fracOne (by omega)) (ev_if_pos (by rw [up1_len]; simp; omega) (ev_bind (fracOne (by omega)) (ev_if_pos (by rw [up1_len]; simp; omega) ?_)))))))))
   rw [succ_cast q (by omega), up1_snoc, up1_snoc, take_next (fun k => (dT kn (rd_T115 br k) (i : Int)).1) bs q hq, take_next (fun k => (dT kn (rd_T115 br k) (i : Int)).2) bs q hq]
   exact hn2
  ·refine ev_succ ?_
   simp only [impl_barRows.l1]
   obtain ⟨⟨x0, x1⟩, y0, y1⟩ := l.xy (i : Int) (by omega) (by rw [l.len]; omega)
   have w1 : wrap64 (-(rd_T113 ld (i : Int)).f0) = -(rd_T113 ld (i : Int)).f0 := wrap_self (by omega)
   have w2 : wrap64 (-(rd_T113 ld (i : Int)).f1) = -(rd_T113 ld (i : Int)).f1 := wrap_self (by omega)
   have hll := l.len
   refine ev_if_neg (by omega) (ev_if_pos (by omega) (ev_if_pos (by omega) (ev_bind (fracOne (by rw [w1]; omega)) (ev_if_pos (by rw [up1_len]; simp; omega) (ev_bind (fracOne (by rw [w2]; omega)) (ev_if_pos (by rw [up1_len]; simp; omega) (ev_bind (ev_const rfl) (ev_if_pos ?_ ?_))))))))
   ·have := hflen p
    simp only [List.length_map, List.length_cons, List.length_nil]
    omega
   ·rw [succ_cast p (by omega), up1_snoc, up1_snoc, List.take_length]
    have e : ((L.take (p + 1)).flatMap row2).map up1 = ((L.take p).flatMap row2).map up1 ++ [up1 (bs.map (fun k => (dT kn (rd_T115 br k) (i : Int)).1) ++ [wrap64 (-(rd_T113 ld (i : Int)).f0)]), up1 (bs.map (fun k => (dT kn (rd_T115 br k) (i : Int)).2) ++ [wrap64 (-(rd_T113 ld (i : Int)).f1)])] := by
     rw [List.take_succ_eq_append_getElem hp, List.flatMap_append, List.map_append, hi, ← hrow2]
     rfl
    rw [← e]
    exact hnext
 ·refine ev_succ ?_
  simp only [impl_barRows.l0]
  rw [List.take_length]
  exact ev_if_neg (by omega) (ev_now fun _ => rfl)
theorem sizeE {z : Int} (h : z.natAbs ≤ 9223372036854775807) : spec_l00Size.f z = some (z.natAbs : Int) := by
 unfold spec_l00Size.f
 by_cases h0 : z < 0
 ·rw [if_pos h0]
  have : wrap64 (-z) = -z := wrap_self (by rw [Int.natAbs_neg]; exact h)
  rw [this]; congr 1; omega
 ·rw [if_neg h0]; congr 1; omega
theorem gcdSE (a b : Nat) : Ev (fun k => spec_l00Gcd.f k (a : Int) (b : Int)) (Nat.gcd a b : Int) :=
 gcd_ev spec_l00Gcd.l0 (fun _ _ _ => by simp only [spec_l00Gcd.l0]) (a : Int) (b : Int) (by omega) (by omega)
def Gof (b : Nat) (l : List Int) : Nat := l.foldl (fun g z => Nat.gcd g z.natAbs) b
theorem Gof_snoc (b : Nat) (l : List Int) (z : Int) : Gof b (l ++ [z]) = Nat.gcd (Gof b l) z.natAbs := by simp [Gof]
theorem Gof_dvd (d : Nat) : ∀ (l : List Int) (b : Nat), d ∣ Gof b l ↔ d ∣ b ∧ ∀ z ∈ l, d ∣ z.natAbs
 | [], b => by simp [Gof]
 | z :: l, b => by
  show d ∣ Gof (Nat.gcd b z.natAbs) l ↔ _
  rw [Gof_dvd d l, Nat.dvd_gcd_iff]
  simp only [List.mem_cons, forall_eq_or_imp]
  constructor
  ·rintro ⟨⟨h1, h2⟩, h3⟩; exact ⟨h1, h2, h3⟩
  ·rintro ⟨h1, h2, h3⟩; exact ⟨⟨h1, h2⟩, h3⟩
theorem Gof_le (b : Nat) (hb : 0 < b) (l : List Int) : 0 < Gof b l ∧ Gof b l ≤ b := by
 have h := (Gof_dvd (Gof b l) l b).1 (Nat.dvd_refl _)
 have h1 := Nat.le_of_dvd hb h.1
 refine ⟨?_, h1⟩
 rcases Nat.eq_zero_or_pos (Gof b l) with h0 | h0
 ·rw [h0] at h
  have := Nat.eq_zero_of_zero_dvd h.1
  omega
 ·exact h0
theorem take_snoc' (l : List Int) (i : Nat) (h : i < l.length) : l.take i ++ [rd l (i : Int)] = l.take (i + 1) := by
 have e : rd l (i : Int) = l[i] := by
  show l.getD (Int.toNat (i : Int)) 0 = _
  rw [Int.toNat_natCast, List.getD_eq_getElem?_getD, List.getElem?_eq_getElem h]; rfl
 rw [List.take_succ_eq_append_getElem h, e]
theorem lowE {l : List Int} {b g : Int} (hl : l.length ≤ 1024) (hb : b ≠ 0) (hb1 : b.natAbs ≤ 9223372036854775807) (hz : ∀ z ∈ l, z.natAbs ≤ 9223372036854775807) (hg : (g = (Gof b.natAbs l : Int) ∧ 0 < b) ∨ (g = -(Gof b.natAbs l : Int) ∧ b < 0)) :
  Ev (fun k => spec_l09Lowest.f k l b) (l.map (fun z => wrap64 (Int.tdiv z g)), wrap64 (Int.tdiv b g)) := by
 obtain ⟨hG0, hG1⟩ := Gof_le b.natAbs (by omega) l
 unfold spec_l09Lowest.f
 refine ev_bind (ev_const (sizeE hb1)) ?_
 have last : Ev (fun k => spec_l09Lowest.j1 k l b g) (l.map (fun z => wrap64 (Int.tdiv z g)), wrap64 (Int.tdiv b g)) := by
  refine ev_succ ?_
  simp only [spec_l09Lowest.j1]
  have hg0 : g ≠ 0 := by rcases hg with ⟨h, _⟩ | ⟨h, _⟩ <;> omega
  refine ev_if_neg hg0 ?_
  refine loop_up' (fun k i => spec_l09Lowest.l1 k l g (i : Int) ((l.take i).map (fun z => wrap64 (Int.tdiv z g))) (wrap64 (Int.tdiv b g))) l.length _ (fun _ => True) (fun i hi _ => .inl ⟨trivial, fun hn => ?_⟩) (fun _ => ?_) l.length 0 (by omega) (by omega) trivial
  ·refine ev_succ ?_
   simp only [spec_l09Lowest.l1]
   refine ev_if_pos (by omega) (ev_if_pos (by omega) (ev_if_neg hg0 (ev_if_pos (by simp; omega) ?_)))
   rw [succ_cast i (by omega)]
   have e : (l.take i).map (fun z => wrap64 (Int.tdiv z g)) ++ [wrap64 (Int.tdiv (rd l (i : Int)) g)] = (l.take (i + 1)).map (fun z => wrap64 (Int.tdiv z g)) := by
    rw [← take_snoc' l i hi, List.map_append]; rfl
   rw [e]
   exact hn
  ·refine ev_succ ?_
   simp only [spec_l09Lowest.l1]
   rw [List.take_length]
   exact ev_if_neg (by omega) (ev_now fun _ => rfl)
 refine loop_up' (fun k i => spec_l09Lowest.l0 k l b (Gof b.natAbs (l.take i) : Int) (i : Int)) l.length _ (fun _ => True) (fun i hi _ => .inl ⟨trivial, fun hn => ?_⟩) (fun _ => ?_) l.length 0 (by omega) (by omega) trivial
 ·refine ev_succ ?_
  simp only [spec_l09Lowest.l0]
  have e : rd l (i : Int) = l[i] := by
   show l.getD (Int.toNat (i : Int)) 0 = _
   rw [Int.toNat_natCast, List.getD_eq_getElem?_getD, List.getElem?_eq_getElem hi]; rfl
  refine ev_if_pos (by omega) (ev_if_pos (by omega) (ev_bind (ev_const (sizeE (by rw [e]; exact hz _ (List.getElem_mem hi)))) (ev_bind (gcdSE _ _) ?_)))
  rw [succ_cast i (by omega), ← Gof_snoc, take_snoc' l i hi]
  exact hn
 ·refine ev_succ ?_
  simp only [spec_l09Lowest.l0]
  rw [List.take_length]
  refine ev_if_neg (by omega) ?_
  by_cases h0 : b < 0
  ·refine ev_if_pos h0 ?_
   rcases hg with ⟨h, h1⟩ | ⟨h, h1⟩
   ·omega
   ·have : wrap64 (-(Gof b.natAbs l : Int)) = g := by rw [h]; exact wrap_self (by rw [Int.natAbs_neg]; simp; omega)
    rw [this]
    exact last
  ·refine ev_if_neg h0 ?_
   rcases hg with ⟨h, h1⟩ | ⟨h, h1⟩
   ·rw [← h]; exact last
   ·omega
theorem lcm_step (a b : Nat) (ha : 0 < a) : (a : Int) / (Int.gcd (a : Int) (b : Int) : Int) * (b : Int) = (Nat.lcm a b : Int) := by
 have hg : Int.gcd (a : Int) (b : Int) = Nat.gcd a b := rfl
 rw [hg]
 obtain ⟨c, hc⟩ : Nat.gcd a b ∣ a := Nat.gcd_dvd_left ..
 have hgp : 0 < Nat.gcd a b := Nat.gcd_pos_of_pos_left _ ha
 have hx : a / Nat.gcd a b = c := Nat.div_eq_of_eq_mul_right hgp hc
 have hl : Nat.lcm a b = c * b := by
  unfold Nat.lcm
  conv => lhs; lhs; rw [hc]
  rw [Nat.mul_assoc, Nat.mul_div_cancel_left _ hgp]
 rw [hl, show ((a : Int) / (Nat.gcd a b : Int)) = ((a / Nat.gcd a b : Nat) : Int) from rfl, hx]
 simp
theorem lcmX_le {x : Nat → Rat} {n : Nat} {b : Int} {M : Nat → Int} (hb : b ≠ 0) (hv : ∀ i, i < n → x i * (b : Rat) = (M i : Rat)) {c : Nat} (hc : c ≤ n) : lcmX x c ≤ b.natAbs := by
 refine Nat.le_of_dvd (by omega) (lcmX_dvd x c (fun i hi => ?_))
 obtain ⟨t, _, _, ht⟩ := frq_dvd hb (hv i (by omega))
 have : ((x i).den : Int).natAbs ∣ b.natAbs := by rw [ht, Int.natAbs_mul]; exact Nat.dvd_mul_right ..
 simpa using this
theorem denE {m n : Nat} {s : StS} {t : StI} {x : Nat → Rat} (F : Fini m n s t x) : ∀ c, c ≤ n → Ev (fun k => denI k t n c) (lcmX x c : Int)
 | 0, _ => ev_now fun _ => rfl
 | c + 1, hc => by
  have ih := denE F c (by omega)
  have hm := F.nm
  have hle : ∀ q, q ≤ n → lcmX x q ≤ 1528823808 := fun q hq => Nat.le_trans (lcmX_le F.b0 (fun i hi => F.val i (by omega)) hq) F.bb
  have hL := lcmX_pos x c
  have h1 := hle c (by omega)
  have h2 := hle (c + 1) hc
  have hd := (x c).den_nz
  have ed : (t.M (t.ld.getD c 0).toNat n).2 = ((x c).den : Int) := by
   rw [F.ld c (by omega), Int.toNat_natCast, F.fr c (by omega)]; rfl
  show Ev (fun k => (denI k t n c).bind fun D => (impl_gcd.f k D (t.M (t.ld.getD c 0).toNat n).2).bind fun g => if g = 0 then none else some (wrap64 (wrap64 (Int.tdiv D g) * (t.M (t.ld.getD c 0).toNat n).2))) _
  rw [ed]
  refine ev_bind ih (ev_bind (gcdE (by simp; omega) (by omega)) ?_)
  have hg : (Int.gcd (lcmX x c : Int) ((x c).den : Int) : Int) ≠ 0 := by
   intro h
   have := Int.gcd_eq_zero_iff.1 (show Int.gcd (lcmX x c : Int) ((x c).den : Int) = 0 by omega)
   omega
  refine ev_if_neg hg (ev_now fun _ => ?_)
  have b1 : (lcmX x c : Int) / (Int.gcd (lcmX x c : Int) ((x c).den : Int) : Int) ≤ (lcmX x c : Int) := Int.ediv_le_self _ (by omega)
  have b2 : 0 ≤ (lcmX x c : Int) / (Int.gcd (lcmX x c : Int) ((x c).den : Int) : Int) := Int.ediv_nonneg (by omega) (by omega)
  rw [Int.tdiv_eq_ediv_of_nonneg (by omega), wrap_self (x := (lcmX x c : Int) / _) (by omega), lcm_step _ _ hL]
  rw [wrap_self (by show (Nat.lcm (lcmX x c) (x c).den : Int).natAbs ≤ _; have : lcmX x (c + 1) = Nat.lcm (lcmX x c) (x c).den := rfl; rw [← this]; simp; omega)]
  rfl
theorem numsU_mem (s : StS) (nb : Nat) (bs : List Int) (l : Nat) : ∀ c, ∀ z ∈ numsU s nb bs l c, z = 0 ∨ ∃ i, i < c ∧ z = s.M i l
 | 0, z, h => .inl (List.eq_of_mem_replicate h)
 | c + 1, z, h => by
  unfold numsU at h
  rcases List.mem_or_eq_of_mem_set h with h1 | h1
  ·rcases numsU_mem s nb bs l c z h1 with h2 | ⟨i, h2, h3⟩
   ·exact .inl h2
   ·exact .inr ⟨i, by omega, h3⟩
  ·exact .inr ⟨c, by omega, h1⟩
theorem numsU_has {br : List S115} {bs : List Int} (b : BsOk br bs) (s : StS) (l : Nat) : ∀ c, c ≤ bs.length → ∀ i, i < c → s.M i l ∈ numsU s br.length bs l c
 | c + 1, hc, i, hi => by
  have key : ∀ c, c ≤ bs.length → ∀ i, i < c → (numsU s br.length bs l c)[(bs.getD i 0).toNat]? = some (s.M i l) := by
   intro c
   induction c with
   | zero => intro _ i hi; omega
   | succ c ih =>
    intro hc i hi
    have hlen := numsU_len s br.length bs l c
    obtain ⟨h0, h1⟩ := b.rg i (by omega)
    obtain ⟨h2, h3⟩ := b.rg c (by omega)
    unfold numsU
    by_cases e : i = c
    ·rw [e] at h0 h1 ⊢
     rw [List.getElem?_set_self (by omega)]
    ·rw [List.getElem?_set_ne (fun he => e (b.nd i c (by omega) (by omega) (by omega)))]
     exact ih (by omega) i (by omega)
  exact List.mem_of_getElem? (key (c + 1) hc i hi)
theorem nums_same {m n : Nat} {s : StS} {t : StI} {x : Nat → Rat} (F : Fini m n s t x) (nb : Nat) (bs : List Int) {g : Int} (hg : g ≠ 0) (hM : ∀ i, i < n → s.M i n = g * ((x i).num * ((lcmX x n : Int) / ((x i).den : Int)))) : ∀ c, c ≤ n → (numsU s nb bs n c).map (fun z => wrap64 (Int.tdiv z g)) = numI t nb n bs (lcmX x n : Int) c
 | 0, _ => by
  unfold numsU numI
  rw [List.map_replicate, Int.zero_tdiv, show wrap64 0 = 0 from wrap_self (by decide)]
 | c + 1, hc => by
  have hm := F.nm
  unfold numsU numI
  rw [List.map_set, nums_same F nb bs hg hM c (by omega)]
  have e1 : t.M (t.ld.getD c 0).toNat n = frq (x c) := by rw [F.ld c (by omega), Int.toNat_natCast, F.fr c (by omega)]
  rw [e1, hM c (by omega), Int.mul_tdiv_cancel_left _ hg]
  have hle : lcmX x n ≤ 1528823808 := Nat.le_trans (lcmX_le F.b0 (fun i hi => F.val i (by omega)) (Nat.le_refl n)) F.bb
  have b1 : (lcmX x n : Int) / ((x c).den : Int) ≤ (lcmX x n : Int) := Int.ediv_le_self _ (by omega)
  have b2 : 0 ≤ (lcmX x n : Int) / ((x c).den : Int) := Int.ediv_nonneg (by omega) (by omega)
  have e2 : wrap64 (Int.tdiv (lcmX x n : Int) (frq (x c)).2) = (lcmX x n : Int) / ((x c).den : Int) := by
   show wrap64 (Int.tdiv (lcmX x n : Int) ((x c).den : Int)) = _
   rw [Int.tdiv_eq_ediv_of_nonneg (by omega)]
   exact wrap_self (by omega)
  rw [e2]
  rfl
theorem rows_ok {kn : List S164} {br : List S115} {ld : List S113} {bs : List Int} (i : Nat) (hi : i < (tabU kn br ld bs kn.length).length) (j : Nat) (hj : j ≤ bs.length) : rowsM ((tabU kn br ld bs kn.length).map up1) i j = frq ((tabM kn br ld bs i j : Int) : Rat) := by
 rw [frq_int]
 have hr := tabU_row kn br ld bs kn.length ((tabU kn br ld bs kn.length)[i]) (List.getElem_mem hi)
 have e : ((tabU kn br ld bs kn.length).map up1).getD i [] = up1 ((tabU kn br ld bs kn.length)[i]) := by
  rw [List.getD_eq_getElem?_getD, List.getElem?_map, List.getElem?_eq_getElem hi]; rfl
 have e2 : tabM kn br ld bs i j = ((tabU kn br ld bs kn.length)[i]).getD j 0 := by
  unfold tabM
  rw [show (tabU kn br ld bs kn.length).getD i [] = (tabU kn br ld bs kn.length)[i] from by rw [List.getD_eq_getElem?_getD, List.getElem?_eq_getElem hi]; rfl]
 rw [e2]
 unfold rowsM
 rw [e]
 generalize (tabU kn br ld bs kn.length)[i] = row at hr
 unfold up1
 rw [List.getD_eq_getElem?_getD, List.getElem?_map, List.getD_eq_getElem?_getD, List.getElem?_eq_getElem (show j < row.length by omega)]
 rfl
theorem numI_at {s : StI} {nb n : Nat} {bs : List Int} {D : Int} (hb : ∀ q, q < bs.length → 0 ≤ bs.getD q 0) : ∀ c, c ≤ bs.length → ∀ i : Nat, (numI s nb n bs D c).getD i 0 ≠ 0 → (i : Int) ∈ bs
 | 0, _, i, h => by
  refine absurd ?_ h
  show (List.replicate nb (0 : Int)).getD i 0 = 0
  rw [List.getD_eq_getElem?_getD, List.getElem?_replicate]
  split <;> rfl
 | c + 1, hc, i, h => by
  have h0 := hb c (by omega)
  by_cases e : (bs.getD c 0).toNat = i
  ·have e2 : (i : Int) = bs.getD c 0 := by omega
   rw [e2, List.getD_eq_getElem?_getD, List.getElem?_eq_getElem (by omega)]
   exact List.getElem_mem _
  ·refine numI_at (s := s) (nb := nb) (n := n) (D := D) hb c (by omega) i ?_
   have h' : ((numI s nb n bs D c).set (bs.getD c 0).toNat (wrap64 ((s.M (s.ld.getD c 0).toNat n).1 * wrap64 (Int.tdiv D (s.M (s.ld.getD c 0).toNat n).2)))).getD i 0 ≠ 0 := h
   rw [List.getD_eq_getElem?_getD, List.getElem?_set_ne e] at h'
   rwa [List.getD_eq_getElem?_getD]
theorem numI_wf {s : StI} {nb n : Nat} {bs : List Int} {D : Int} : ∀ c (i : Nat), -9223372036854775808 ≤ (numI s nb n bs D c).getD i 0 ∧ (numI s nb n bs D c).getD i 0 ≤ 9223372036854775807
 | 0, i => by
  have e : (numI s nb n bs D 0).getD i 0 = 0 := by
   show (List.replicate nb (0 : Int)).getD i 0 = 0
   rw [List.getD_eq_getElem?_getD, List.getElem?_replicate]
   split <;> rfl
  rw [e]; decide
 | c + 1, i => by
  have ih := numI_wf (s := s) (nb := nb) (n := n) (bs := bs) (D := D) c i
  have key : ∀ (l : List Int) (j : Nat) (v : Int), -9223372036854775808 ≤ l.getD i 0 ∧ l.getD i 0 ≤ 9223372036854775807 → -9223372036854775808 ≤ (l.set j (wrap64 v)).getD i 0 ∧ (l.set j (wrap64 v)).getD i 0 ≤ 9223372036854775807 := by
   intro l j v h
   have hv : -9223372036854775808 ≤ wrap64 v ∧ wrap64 v ≤ 9223372036854775807 := by unfold wrap64; omega
   rw [List.getD_eq_getElem?_getD] at h ⊢
   by_cases e : j = i
   ·subst e
    by_cases hj : j < l.length
    ·rw [List.getElem?_set_self hj]; exact hv
    ·rw [List.getElem?_eq_none (by rw [List.length_set]; omega)]; decide
   ·rw [List.getElem?_set_ne e]; exact h
  exact key _ _ _ ih
open Classical in
theorem solveE {kn : List S164} {br : List S115} {ld : List S113} {bs : List Int} (f : FrOk kn br) (l : LdOk kn ld) (b : BsOk br bs) (hb : bs.length ≤ 8) :
  ∃ r : List Int × Int × Bool, Ev (fun k => impl_solveBars.f k kn br ld bs) r ∧ Ev (fun k => spec_l09Solve.f k kn br ld bs) r ∧ (r.2.2 = true → r.1.length = br.length ∧ (∀ i : Nat, r.1.getD i 0 ≠ 0 → (i : Int) ∈ bs) ∧ ∀ i : Nat, -9223372036854775808 ≤ r.1.getD i 0 ∧ r.1.getD i 0 ≤ 9223372036854775807) ∧ (r.2.2 = false → r = ([], 0, false)) := by
 have w := wt_ok f l b
 obtain ⟨h1, h2, h3⟩ := red_fin w (F := rowsM ((tabU kn br ld bs kn.length).map up1)) (fun i hi j hj => rows_ok i hi j hj)
 have hm6 := w.m6
 have hrl : ((tabU kn br ld bs kn.length).map up1).length = (tabU kn br ld bs kn.length).length := List.length_map ..
 have hT : TabOk kn br ld bs := ⟨by have := l.len; omega, by have := f.k8; omega, by omega, by have := f.b8; omega, fun q hq => by
  obtain ⟨a, c⟩ := b.rg q hq
  obtain ⟨a0, a1, a2⟩ := f.ab _ a c
  exact ⟨a, c, ⟨a0, by omega⟩, by omega, a2⟩⟩
 have hI := rowsE f l b hb
 have hS : solI ((tabU kn br ld bs kn.length).map up1) bs.length = redI (tabU kn br ld bs kn.length).length (bs.length + 1) bs.length (rowsM ((tabU kn br ld bs kn.length).map up1)) bs.length := by unfold solI; rw [hrl]
 have hOk : (¬ noLead (solI ((tabU kn br ld bs kn.length).map up1) bs.length) bs.length → ∃ x, Fini (tabU kn br ld bs kn.length).length bs.length (solS kn br ld bs) (solI ((tabU kn br ld bs kn.length).map up1) bs.length) x) := by
  intro hno
  rcases h3 with ⟨_, h3⟩ | ⟨_, h3⟩
  ·rw [hS] at hno; exact absurd h3 hno
  ·rw [hS]; exact h3
 have hSol : SolOk br bs ((tabU kn br ld bs kn.length).map up1) := by
  refine ⟨by omega, by omega, by have := f.b8; omega, fun row hr => ?_, by rw [hrl]; exact h1, by rw [hS]; exact h2, fun hno => ?_, fun c hc => b.rg c hc⟩
  ·obtain ⟨r0, hr0, rfl⟩ := List.mem_map.1 hr
   rw [up1_len]
   exact tabU_row kn br ld bs kn.length r0 hr0
  ·obtain ⟨x, F⟩ := hOk hno
   rw [hrl]
   refine ⟨F.nm, fun c hc => ?_⟩
   have hnm := F.nm
   rw [F.ld c hc, Int.toNat_natCast, F.fr c (by omega)]
   refine ⟨by omega, by omega, ?_⟩
   have := (x c).den_nz
   show ((x c).den : Int) ≠ 0
   omega
 unfold impl_solveBars.f spec_l09Solve.f
 by_cases hno : noLead (solI ((tabU kn br ld bs kn.length).map up1) bs.length) bs.length
 ·refine ⟨([], 0, false), ?_, ?_, (fun h => (Bool.false_ne_true h).elim), fun _ => rfl⟩
  ·exact ev_bind hI (ev_if_pos hSol (ev_if_pos hno (ev_now fun _ => rfl)))
  ·have hp : (solS kn br ld bs).pv.length < bs.length := by
    rcases h3 with ⟨h3, _⟩ | ⟨h3, _⟩
    ·exact h3
    ·rw [hS] at hno; exact absurd hno h3
   exact ev_if_pos hT (ev_if_pos hp (ev_now fun _ => rfl))
 ·obtain ⟨x, F⟩ := hOk hno
  have hp : ¬ (solS kn br ld bs).pv.length < bs.length := by rw [F.pv]; omega
  by_cases hbad : badI (solI ((tabU kn br ld bs kn.length).map up1) bs.length) ((tabU kn br ld bs kn.length).map up1).length bs.length
  ·refine ⟨([], 0, false), ?_, ?_, (fun h => (Bool.false_ne_true h).elim), fun _ => rfl⟩
   ·exact ev_bind hI (ev_if_pos hSol (ev_if_neg hno (ev_if_pos hbad (ev_now fun _ => rfl))))
   ·have hbs : badS (solS kn br ld bs) (tabU kn br ld bs kn.length).length bs.length := by
     obtain ⟨q, q1, q2, q3⟩ := hbad
     rw [hrl] at q2
     refine ⟨q, by rw [F.pv]; exact q1, q2, fun e => q3 ?_⟩
     rw [F.fr q q2]
     exact (frq_zero (F.val q q2) (cast_ne F.b0)).2 e
    exact ev_if_pos hT (ev_if_neg hp (ev_if_pos hbs (ev_now fun _ => rfl)))
  ·have hbs : ¬ badS (solS kn br ld bs) (tabU kn br ld bs kn.length).length bs.length := by
    rintro ⟨q, q1, q2, q3⟩
    rw [F.pv] at q1
    refine hbad ⟨q, q1, by rw [hrl]; exact q2, fun e => q3 ?_⟩
    rw [F.fr q q2] at e
    exact (frq_zero (F.val q q2) (cast_ne F.b0)).1 e
   have hnm := F.nm
   have hG : ∀ d : Nat, d ∣ Gof (solS kn br ld bs).bf.natAbs (numsU (solS kn br ld bs) br.length bs bs.length bs.length) ↔ d ∣ (solS kn br ld bs).bf.natAbs ∧ ∀ i, i < bs.length → d ∣ ((solS kn br ld bs).M i bs.length).natAbs := by
    intro d
    rw [Gof_dvd]
    constructor
    ·rintro ⟨a, c⟩
     exact ⟨a, fun i hi => c _ (numsU_has b _ _ bs.length (Nat.le_refl _) i hi)⟩
    ·rintro ⟨a, c⟩
     refine ⟨a, fun z hz => ?_⟩
     rcases numsU_mem _ _ _ _ _ z hz with h | ⟨i, hi, h⟩
     ·rw [h]; exact Nat.dvd_zero d
     ·rw [h]; exact c i hi
   obtain ⟨_, hG0, hv⟩ := lcmX_gcd (x := x) (n := bs.length) (M := fun i => (solS kn br ld bs).M i bs.length) F.b0 (fun i hi => F.val i (by omega)) hG
   have hb0 := F.b0
   obtain ⟨g, hg⟩ : ∃ g : Int, (g = (Gof (solS kn br ld bs).bf.natAbs (numsU (solS kn br ld bs) br.length bs bs.length bs.length) : Int) ∧ 0 < (solS kn br ld bs).bf) ∨ (g = -(Gof (solS kn br ld bs).bf.natAbs (numsU (solS kn br ld bs) br.length bs bs.length bs.length) : Int) ∧ (solS kn br ld bs).bf < 0) := by
    by_cases h : 0 < (solS kn br ld bs).bf
    ·exact ⟨_, .inl ⟨rfl, h⟩⟩
    ·exact ⟨_, .inr ⟨rfl, by omega⟩⟩
   have hg0 : g ≠ 0 := by rcases hg with ⟨h, _⟩ | ⟨h, _⟩ <;> omega
   have hlow := lowE (l := numsU (solS kn br ld bs) br.length bs bs.length bs.length) (b := (solS kn br ld bs).bf) (g := g) (by rw [numsU_len]; have := f.b8; omega) F.b0 (Nat.le_trans F.bb (by decide)) (fun z hz => by
    rcases numsU_mem _ _ _ _ _ z hz with h | ⟨i, hi, h⟩
    ·rw [h]; decide
    ·rw [h]; exact Nat.le_trans (F.mb i (by omega)) (by decide)) hg
   rw [nums_same F br.length bs hg0 (fun i hi => (hv i hi g hg).1) bs.length (Nat.le_refl _)] at hlow
   have hden : wrap64 (Int.tdiv (solS kn br ld bs).bf g) = (lcmX x bs.length : Int) := by
    have hbg : (solS kn br ld bs).bf = g * (lcmX x bs.length : Int) := by
     by_cases hn0 : 0 < bs.length
     ·exact (hv 0 hn0 g hg).2
     ·have h0 : bs.length = 0 := by omega
      have e1 : lcmX x bs.length = 1 := by rw [h0]; rfl
      have e2 : Gof (solS kn br ld bs).bf.natAbs (numsU (solS kn br ld bs) br.length bs bs.length bs.length) = (solS kn br ld bs).bf.natAbs := by
       refine Nat.dvd_antisymm ((hG _).1 (Nat.dvd_refl _)).1 ((hG _).2 ⟨Nat.dvd_refl _, fun i hi => by omega⟩)
      rw [e1]
      rcases hg with ⟨h, h'⟩ | ⟨h, h'⟩
      ·rw [h, e2]; omega
      ·rw [h, e2]; omega
    rw [hbg, Int.mul_tdiv_cancel_left _ hg0]
    have := lcmX_le (x := x) (n := bs.length) (c := bs.length) F.b0 (fun i hi => F.val i (by omega)) (Nat.le_refl _)
    have := F.bb
    exact wrap_self (by simp; omega)
   rw [hden] at hlow
   refine ⟨(numI (solI ((tabU kn br ld bs kn.length).map up1) bs.length) br.length bs.length bs (lcmX x bs.length : Int) bs.length, (lcmX x bs.length : Int), true), ?_, ?_, fun _ => ⟨numI_len _ _ _ _ _ _, numI_at (fun q hq => (b.rg q hq).1) bs.length (Nat.le_refl _), numI_wf bs.length⟩, (fun h => (Bool.false_ne_true h.symm).elim)⟩
   ·exact ev_bind hI (ev_if_pos hSol (ev_if_neg hno (ev_if_neg hbad (ev_bind (denE F bs.length (Nat.le_refl _)) (ev_now fun _ => rfl)))))
   ·exact ev_if_pos hT (ev_if_neg hp (ev_if_neg hbs (ev_bind hlow (ev_now fun _ => rfl))))
theorem FrOk.of {kn : List S164} {br : List S115} (h : FrP kn br) : FrOk kn br := by
 obtain ⟨h1, h2, h3, h4, h5⟩ := h
 have nat : ∀ {i : Int} {n : Nat}, 0 ≤ i → i < (n : Int) → ∃ q : Nat, q < n ∧ i = (q : Int) := fun {i n} a b => ⟨i.toNat, by omega, by omega⟩
 refine ⟨h1, h2, h5, fun i a b => ?_, fun i a b => ?_, fun i j a b a' b' e1 e2 => ?_⟩
 ·obtain ⟨q, hq, rfl⟩ := nat a b
  exact (h3 q hq).1
 ·obtain ⟨q, hq, rfl⟩ := nat a b
  exact (h4 q hq).1.1
 ·obtain ⟨q, hq, rfl⟩ := nat a b
  obtain ⟨p, hp, rfl⟩ := nat a' b'
  rcases Nat.lt_trichotomy q p with h | h | h
  ·exact absurd ⟨e1, e2⟩ ((h4 p hp).2 q h)
  ·rw [h]
  ·exact absurd ⟨e1.symm, e2.symm⟩ ((h4 q hq).2 p h)
theorem within_yes {a b c : Int} (h : b ≤ a ∧ a ≤ c) : impl_within.f a b c = some true := by rw [within_dec, decide_eq_true h]
theorem within_no {a b c : Int} (h : ¬ (b ≤ a ∧ a ≤ c)) : impl_within.f a b c = some false := by rw [within_dec, decide_eq_false h]
theorem validE (kn : List S164) (br : List S115) : Ev (fun k => impl_ValidFrame.f k kn br) (frB kn br) := ev_now fun _ => rfl
def LdG (ld : List S113) (i : Nat) : Prop := (-100 ≤ (rd_T113 ld (i : Int)).f0 ∧ (rd_T113 ld (i : Int)).f0 ≤ 100) ∧ -100 ≤ (rd_T113 ld (i : Int)).f1 ∧ (rd_T113 ld (i : Int)).f1 ≤ 100
def LdP (kn : List S164) (ld : List S113) : Prop := ld.length = kn.length ∧ ∀ i, i < ld.length → LdG ld i
open Classical in
noncomputable def ldB (kn : List S164) (ld : List S113) : Bool := decide (LdP kn ld)
theorem LdOk.of {kn : List S164} {ld : List S113} (h : LdP kn ld) : LdOk kn ld := by
 refine ⟨h.1, fun i a b => ?_⟩
 obtain ⟨q, hq, rfl⟩ : ∃ q : Nat, q < ld.length ∧ i = (q : Int) := ⟨i.toNat, by omega, by omega⟩
 exact h.2 q hq
open Classical in
theorem ldB_no {kn : List S164} {ld : List S113} (h : ¬ LdP kn ld) : ldB kn ld = false := by unfold ldB; exact decide_eq_false h
open Classical in
theorem ldB_yes {kn : List S164} {ld : List S113} (h : LdP kn ld) : ldB kn ld = true := by unfold ldB; exact decide_eq_true h
open Classical in
theorem ldB_is {kn : List S164} {ld : List S113} (h : ldB kn ld = true) : LdP kn ld := by unfold ldB at h; exact of_decide_eq_true h
theorem loadsI (kn : List S164) (br : List S115) (ld : List S113) (hl : ld.length ≤ 1048576) : Ev (fun k => impl_ValidLoads.f k kn br ld) (frB kn br && ldB kn ld) := by
 unfold impl_ValidLoads.f
 refine ev_bind (validE kn br) ?_
 have jt : Ev (fun k => impl_ValidLoads.j0 k ld true) false := by
  refine ev_succ ?_
  simp only [impl_ValidLoads.j0]
  exact ev_if_pos trivial (ev_now fun _ => rfl)
 cases hf : frB kn br with
 | false => exact ev_if_neg Bool.false_ne_true (by simpa using jt)
 | true =>
  refine ev_if_pos rfl ?_
  rw [Bool.true_and]
  by_cases hlen : ld.length = kn.length
  ·have e : ((ld.length : Int) != (kn.length : Int)) = false := by rw [bne_eq_false_iff_eq]; omega
   rw [e]
   refine ev_succ ?_
   simp only [impl_ValidLoads.j0]
   refine ev_if_neg Bool.false_ne_true ?_
   refine loop_up' (fun k i => impl_ValidLoads.l0 k ld (ld.length : Int) (i : Int)) ld.length _ (fun i => ∀ j, j < i → LdG ld j) (fun i hi hI => ?_) (fun hI => ?_) ld.length 0 (by omega) (by omega) (fun j hj => by omega)
   ·by_cases hx : -100 ≤ (rd_T113 ld (i : Int)).f0 ∧ (rd_T113 ld (i : Int)).f0 ≤ 100
    ·by_cases hy : -100 ≤ (rd_T113 ld (i : Int)).f1 ∧ (rd_T113 ld (i : Int)).f1 ≤ 100
     ·left
      refine ⟨upto_next hI ⟨hx, hy⟩, fun hn => ?_⟩
      refine ev_succ ?_
      simp only [impl_ValidLoads.l0]
      rw [within_yes hx, within_yes hy, succ_cast i (by omega)]
      exact ev_if_pos (by omega) (ev_if_pos (by omega) (ev_if_pos (by omega) (ev_some (ev_if_pos rfl (ev_some (ev_if_pos rfl hn))))))
     ·right
      rw [ldB_no (fun h => hy (h.2 i hi).2)]
      refine ev_succ ?_
      simp only [impl_ValidLoads.l0]
      rw [within_yes hx, within_no hy]
      exact ev_if_pos (by omega) (ev_if_pos (by omega) (ev_if_pos (by omega) (ev_some (ev_if_pos rfl (ev_some (ev_if_neg Bool.false_ne_true (ev_now fun _ => rfl)))))))
    ·right
     rw [ldB_no (fun h => hx (h.2 i hi).1)]
     refine ev_succ ?_
     simp only [impl_ValidLoads.l0]
     rw [within_no hx]
     exact ev_if_pos (by omega) (ev_if_pos (by omega) (ev_if_pos (by omega) (ev_some (ev_if_neg Bool.false_ne_true (ev_now fun _ => rfl)))))
   ·refine ev_succ ?_
    simp only [impl_ValidLoads.l0]
    rw [ldB_yes ⟨hlen, hI⟩]
    exact ev_if_neg (by omega) (ev_now fun _ => rfl)
  ·have e : ((ld.length : Int) != (kn.length : Int)) = true := by rw [bne_iff_ne]; omega
   rw [e, ldB_no (fun h => hlen h.1)]
   exact jt
theorem in_yes {a b c : Int} (h : b ≤ a ∧ a ≤ c) : spec_l00In.f a b c = some true := by rw [l00In_is, decide_eq_true h]
theorem in_no {a b c : Int} (h : ¬ (b ≤ a ∧ a ≤ c)) : spec_l00In.f a b c = some false := by rw [l00In_is, decide_eq_false h]
theorem loadsS (kn : List S164) (br : List S115) (ld : List S113) (hl : ld.length ≤ 1048576) : Ev (fun k => spec_l09Loads.f k kn br ld) (ldB kn ld) := by
 unfold spec_l09Loads.f
 by_cases hlen : ld.length = kn.length
 ·refine ev_if_pos (by omega) ?_
  refine loop_up' (fun k i => spec_l09Loads.l0 k ld (i : Int)) ld.length _ (fun i => ∀ j, j < i → LdG ld j) (fun i hi hI => ?_) (fun hI => ?_) ld.length 0 (by omega) (by omega) (fun j hj => by omega)
  ·by_cases hx : -100 ≤ (rd_T113 ld (i : Int)).f0 ∧ (rd_T113 ld (i : Int)).f0 ≤ 100
   ·by_cases hy : -100 ≤ (rd_T113 ld (i : Int)).f1 ∧ (rd_T113 ld (i : Int)).f1 ≤ 100
    ·left
     refine ⟨upto_next hI ⟨hx, hy⟩, fun hn => ?_⟩
     refine ev_succ ?_
     simp only [spec_l09Loads.l0]
     rw [in_yes hx, in_yes hy, succ_cast i (by omega)]
     exact ev_if_pos (by omega) (ev_if_pos (by omega) (ev_some (ev_if_pos rfl (ev_some (ev_if_pos rfl hn)))))
    ·right
     rw [ldB_no (fun h => hy (h.2 i hi).2)]
     refine ev_succ ?_
     simp only [spec_l09Loads.l0]
     rw [in_yes hx, in_no hy]
     exact ev_if_pos (by omega) (ev_if_pos (by omega) (ev_some (ev_if_pos rfl (ev_some (ev_if_neg Bool.false_ne_true (ev_now fun _ => rfl))))))
   ·right
    rw [ldB_no (fun h => hx (h.2 i hi).1)]
    refine ev_succ ?_
    simp only [spec_l09Loads.l0]
    rw [in_no hx]
    exact ev_if_pos (by omega) (ev_if_pos (by omega) (ev_some (ev_if_neg Bool.false_ne_true (ev_now fun _ => rfl))))
  ·refine ev_succ ?_
   simp only [spec_l09Loads.l0]
   rw [ldB_yes ⟨hlen, hI⟩]
   exact ev_if_neg (by omega) (ev_now fun _ => rfl)
 ·rw [ldB_no (fun h => hlen h.1)]
  exact ev_if_neg (by omega) (ev_now fun _ => rfl)
def BsG (br : List S115) (bs : List Int) (i : Nat) : Prop := (0 ≤ bs.getD i 0 ∧ bs.getD i 0 ≤ (br.length : Int) - 1) ∧ (0 < i → bs.getD (i - 1) 0 < bs.getD i 0)
def BsP (br : List S115) (bs : List Int) : Prop := ∀ i, i < bs.length → BsG br bs i
open Classical in
noncomputable def bsB (br : List S115) (bs : List Int) : Bool := decide (BsP br bs)
open Classical in
theorem bsB_no {br : List S115} {bs : List Int} (h : ¬ BsP br bs) : bsB br bs = false := by unfold bsB; exact decide_eq_false h
open Classical in
theorem bsB_yes {br : List S115} {bs : List Int} (h : BsP br bs) : bsB br bs = true := by unfold bsB; exact decide_eq_true h
open Classical in
theorem bsB_is {br : List S115} {bs : List Int} (h : bsB br bs = true) : BsP br bs := by unfold bsB at h; exact of_decide_eq_true h
theorem bs_lt {br : List S115} {bs : List Int} (h : BsP br bs) : ∀ j i, i < j → j < bs.length → bs.getD i 0 < bs.getD j 0
 | 0, i, hi, _ => by omega
 | j + 1, i, hi, hj => by
  have h1 := (h (j + 1) hj).2 (by omega)
  rw [Nat.add_sub_cancel] at h1
  by_cases e : i = j
  ·rw [e]; exact h1
  ·exact Int.lt_trans (bs_lt h j i (by omega) (by omega)) h1
theorem bs_ge {br : List S115} {bs : List Int} (h : BsP br bs) : ∀ j, j < bs.length → (j : Int) ≤ bs.getD j 0
 | 0, hj => (h 0 hj).1.1
 | j + 1, hj => by
  have h1 := (h (j + 1) hj).2 (by omega)
  rw [Nat.add_sub_cancel] at h1
  have := bs_ge h j (by omega)
  omega
theorem BsP.len {br : List S115} {bs : List Int} (h : BsP br bs) : bs.length ≤ br.length := by
 rcases Nat.eq_zero_or_pos bs.length with h0 | h0
 ·omega
 ·have h1 := bs_ge h (bs.length - 1) (by omega)
  have h2 := (h (bs.length - 1) (by omega)).1.2
  omega
theorem BsOk.of {br : List S115} {bs : List Int} (h : BsP br bs) : BsOk br bs := by
 refine ⟨fun i j hi hj e => ?_, fun q hq => ?_⟩
 ·rcases Nat.lt_trichotomy i j with h1 | h1 | h1
  ·have := bs_lt h j i h1 hj; omega
  ·exact h1
  ·have := bs_lt h i j h1 hi; omega
 ·have := (h q hq).1; omega
theorem rd_nat (l : List Int) (i : Nat) : rd l (i : Int) = l.getD i 0 := by show l.getD (Int.toNat (i : Int)) 0 = _; rw [Int.toNat_natCast]
theorem barsI (kn : List S164) {br : List S115} (bs : List Int) (hb : br.length ≤ 8) (hl : bs.length ≤ 1048576) : Ev (fun k => impl_areBars.f k kn br bs) (bsB br bs) := by
 unfold impl_areBars.f
 have hw : wrap64 ((br.length : Int) - 1) = (br.length : Int) - 1 := wrap_self (by omega)
 refine loop_up' (fun k i => impl_areBars.l0 k bs bs (bs.length : Int) (i : Int) kn br) bs.length _ (fun i => ∀ j, j < i → BsG br bs j) (fun i hi hI => ?_) (fun hI => ?_) bs.length 0 (by omega) (by omega) (fun j hj => by omega)
 ·by_cases hx : 0 ≤ bs.getD i 0 ∧ bs.getD i 0 ≤ (br.length : Int) - 1
  ·by_cases h0 : 0 < i
   ·have ew : wrap64 ((i : Int) - 1) = ((i - 1 : Nat) : Int) := by rw [wrap_self (by omega)]; omega
    by_cases hy : bs.getD (i - 1) 0 < bs.getD i 0
    ·left
     refine ⟨upto_next hI ⟨hx, fun _ => hy⟩, fun hn => ?_⟩
     refine ev_succ ?_
     simp only [impl_areBars.l0]
     rw [hw, rd_nat, within_yes hx, ew, rd_nat, succ_cast i (by omega)]
     exact ev_if_pos (by omega) (ev_if_pos (by omega) (ev_if_pos (by omega) (ev_some (ev_if_pos rfl (ev_if_pos (by omega) (ev_if_pos (by omega) (ev_if_pos (by omega) (ev_if_neg (by omega) hn))))))))
    ·right
     rw [bsB_no (fun h => hy ((h i hi).2 h0))]
     refine ev_succ ?_
     simp only [impl_areBars.l0]
     rw [hw, rd_nat, within_yes hx, ew, rd_nat]
     exact ev_if_pos (by omega) (ev_if_pos (by omega) (ev_if_pos (by omega) (ev_some (ev_if_pos rfl (ev_if_pos (by omega) (ev_if_pos (by omega) (ev_if_pos (by omega) (ev_if_pos (by omega) (ev_now fun _ => rfl)))))))))
   ·left
    refine ⟨upto_next hI ⟨hx, fun h => absurd h h0⟩, fun hn => ?_⟩
    refine ev_succ ?_
    simp only [impl_areBars.l0]
    rw [hw, rd_nat, within_yes hx, succ_cast i (by omega)]
    exact ev_if_pos (by omega) (ev_if_pos (by omega) (ev_if_pos (by omega) (ev_some (ev_if_pos rfl (ev_if_neg (by omega) hn)))))
  ·right
   rw [bsB_no (fun h => hx (h i hi).1)]
   refine ev_succ ?_
   simp only [impl_areBars.l0]
   rw [hw, rd_nat, within_no hx]
   exact ev_if_pos (by omega) (ev_if_pos (by omega) (ev_if_pos (by omega) (ev_some (ev_if_neg Bool.false_ne_true (ev_now fun _ => rfl)))))
 ·refine ev_succ ?_
  simp only [impl_areBars.l0]
  rw [bsB_yes hI]
  exact ev_if_neg (by omega) (ev_now fun _ => rfl)
theorem barsS (kn : List S164) {br : List S115} (bs : List Int) (hb : br.length ≤ 8) (hl : bs.length ≤ 1048576) : Ev (fun k => spec_l09Some.f k kn br bs) (bsB br bs) := by
 unfold spec_l09Some.f
 have hw : wrap64 ((br.length : Int) - 1) = (br.length : Int) - 1 := wrap_self (by omega)
 rw [hw]
 refine ev_bind (f := fun _ t => some t) ?_ (ev_now fun _ => rfl)
 unfold spec_l00Rises.f
 refine loop_up' (fun k i => spec_l00Rises.l0 k bs 0 ((br.length : Int) - 1) (i : Int)) bs.length _ (fun i => ∀ j, j < i → BsG br bs j) (fun i hi hI => ?_) (fun hI => ?_) bs.length 0 (by omega) (by omega) (fun j hj => by omega)
 ·by_cases hx : 0 ≤ bs.getD i 0 ∧ bs.getD i 0 ≤ (br.length : Int) - 1
  ·by_cases h0 : 0 < i
   ·have ew : wrap64 ((i : Int) - 1) = ((i - 1 : Nat) : Int) := by rw [wrap_self (by omega)]; omega
    by_cases hy : bs.getD (i - 1) 0 < bs.getD i 0
    ·left
     refine ⟨upto_next hI ⟨hx, fun _ => hy⟩, fun hn => ?_⟩
     refine ev_succ ?_
     simp only [spec_l00Rises.l0]
     rw [rd_nat, in_yes hx, ew, rd_nat, succ_cast i (by omega)]
     exact ev_if_pos (by omega) (ev_if_pos (by omega) (ev_some (ev_if_pos rfl (ev_if_pos (by omega) (ev_if_pos (by omega) (ev_if_pos (by omega) (ev_if_neg (by omega) hn)))))))
    ·right
     rw [bsB_no (fun h => hy ((h i hi).2 h0))]
     refine ev_succ ?_
     simp only [spec_l00Rises.l0]
     rw [rd_nat, in_yes hx, ew, rd_nat]
     exact ev_if_pos (by omega) (ev_if_pos (by omega) (ev_some (ev_if_pos rfl (ev_if_pos (by omega) (ev_if_pos (by omega) (ev_if_pos (by omega) (ev_if_pos (by omega) (ev_now fun _ => rfl))))))))
   ·left
    refine ⟨upto_next hI ⟨hx, fun h => absurd h h0⟩, fun hn => ?_⟩
    refine ev_succ ?_
    simp only [spec_l00Rises.l0]
    rw [rd_nat, in_yes hx, succ_cast i (by omega)]
    exact ev_if_pos (by omega) (ev_if_pos (by omega) (ev_some (ev_if_pos rfl (ev_if_neg (by omega) hn))))
  ·right
   rw [bsB_no (fun h => hx (h i hi).1)]
   refine ev_succ ?_
   simp only [spec_l00Rises.l0]
   rw [rd_nat, in_no hx]
   exact ev_if_pos (by omega) (ev_if_pos (by omega) (ev_some (ev_if_neg Bool.false_ne_true (ev_now fun _ => rfl))))
 ·refine ev_succ ?_
  simp only [spec_l00Rises.l0]
  rw [bsB_yes hI]
  exact ev_if_neg (by omega) (ev_now fun _ => rfl)
def puB (br : List S115) (nums : List Int) (i : Nat) : Bool := !(rd_T115 br (i : Int)).f2 && decide (nums.getD i 0 < 0)
def puU (br : List S115) (nums : List Int) (i : Nat) : List Int := ((List.range i).filter (puB br nums)).map (fun (i : Nat) => (i : Int))
theorem puU_len (br : List S115) (nums : List Int) (i : Nat) : (puU br nums i).length ≤ i := by
 unfold puU
 rw [List.length_map]
 have := List.length_filter_le (puB br nums) (List.range i)
 rwa [List.length_range] at this
theorem puU_next (br : List S115) (nums : List Int) (i : Nat) : puU br nums (i + 1) = if puB br nums i = true then puU br nums i ++ [(i : Int)] else puU br nums i := by
 unfold puU
 rw [List.range_succ, List.filter_append, List.map_append]
 by_cases h : puB br nums i = true
 ·rw [if_pos h]; simp [h]
 ·rw [if_neg h]; simp at h; simp [h]
theorem pushI (kn : List S164) {br : List S115} {nums : List Int} (den : Int) (hb : br.length ≤ 1024) (hn : nums.length = br.length) : Ev (fun k => impl_pushedWires.f k kn br nums den) (puU br nums br.length) := by
 unfold impl_pushedWires.f
 refine loop_up' (fun k i => impl_pushedWires.l0 k (puU br nums i) br (br.length : Int) (i : Int) nums den) br.length _ (fun _ => True) (fun i hi _ => .inl ⟨trivial, fun hnx => ?_⟩) (fun _ => ?_) br.length 0 (by omega) (by omega) trivial
 ·refine ev_succ ?_
  simp only [impl_pushedWires.l0]
  have hl := puU_len br nums i
  rw [puU_next] at hnx
  rw [succ_cast i (by omega), rd_nat]
  refine ev_if_pos (by omega) (ev_if_pos (by omega) (ev_if_pos (by omega) ?_))
  by_cases h1 : (rd_T115 br (i : Int)).f2 = true
  ·refine ev_if_pos h1 ?_
   rwa [if_neg (by simp [puB, h1])] at hnx
  ·refine ev_if_neg h1 (ev_if_pos (by omega) ?_)
   by_cases h2 : nums.getD i 0 < 0
   ·refine ev_if_pos h2 (ev_if_pos (by omega) ?_)
    rwa [if_pos (by simp at h1; unfold puB; rw [h1, decide_eq_true h2]; rfl)] at hnx
   ·refine ev_if_neg h2 ?_
    rwa [if_neg (by unfold puB; rw [decide_eq_false h2]; simp)] at hnx
 ·refine ev_succ ?_
  simp only [impl_pushedWires.l0]
  exact ev_if_neg (by omega) (ev_now fun _ => rfl)
theorem pushS (kn : List S164) {br : List S115} {nums : List Int} (den : Int) (hb : br.length ≤ 1024) (hn : nums.length = br.length) : Ev (fun k => spec_l09Pushed.f k kn br nums den) (puU br nums br.length) := by
 unfold spec_l09Pushed.f
 refine loop_up' (fun k i => spec_l09Pushed.l0 k (puU br nums i) (i : Int) kn br nums den) br.length _ (fun _ => True) (fun i hi _ => .inl ⟨trivial, fun hnx => ?_⟩) (fun _ => ?_) br.length 0 (by omega) (by omega) trivial
 ·refine ev_succ ?_
  simp only [spec_l09Pushed.l0]
  have hl := puU_len br nums i
  rw [puU_next] at hnx
  rw [succ_cast i (by omega), rd_nat]
  refine ev_if_pos (by omega) (ev_if_pos (by omega) ?_)
  by_cases h1 : (rd_T115 br (i : Int)).f2 = true
  ·refine ev_if_pos h1 ?_
   rwa [if_neg (by simp [puB, h1])] at hnx
  ·refine ev_if_neg h1 (ev_if_pos (by omega) ?_)
   by_cases h2 : nums.getD i 0 < 0
   ·refine ev_if_pos h2 (ev_if_pos (by omega) ?_)
    rwa [if_pos (by simp at h1; unfold puB; rw [h1, decide_eq_true h2]; rfl)] at hnx
   ·refine ev_if_neg h2 ?_
    rwa [if_neg (by unfold puB; rw [decide_eq_false h2]; simp)] at hnx
 ·refine ev_succ ?_
  simp only [spec_l09Pushed.l0]
  exact ev_if_neg (by omega) (ev_now fun _ => rfl)
theorem BsOk.sub {br : List S115} {bs s : List Int} (b : BsOk br bs) (h : s.Sublist bs) : BsOk br s := by
 have hnd : bs.Nodup := by
  show List.Pairwise _ bs
  rw [List.pairwise_iff_getElem]
  intro i j hi hj hij e
  have := b.nd i j hi hj (by rw [List.getD_eq_getElem?_getD, List.getD_eq_getElem?_getD, List.getElem?_eq_getElem hi, List.getElem?_eq_getElem hj, e])
  omega
 have hnd2 : List.Pairwise (· ≠ ·) s := hnd.sublist h
 rw [List.pairwise_iff_getElem] at hnd2
 have hm : ∀ x ∈ bs, 0 ≤ x ∧ x < br.length := fun x hx => by
  obtain ⟨i, hi, rfl⟩ := List.getElem_of_mem hx
  have := b.rg i hi
  rwa [List.getD_eq_getElem?_getD, List.getElem?_eq_getElem hi] at this
 refine ⟨fun i j hi hj e => ?_, fun q hq => ?_⟩
 ·rw [List.getD_eq_getElem?_getD, List.getD_eq_getElem?_getD, List.getElem?_eq_getElem hi, List.getElem?_eq_getElem hj] at e
  have e : s[i] = s[j] := e
  rcases Nat.lt_trichotomy i j with h1 | h1 | h1
  ·exact absurd e (hnd2 i j hi hj h1)
  ·exact h1
  ·exact absurd e.symm (hnd2 j i hj hi h1)
 ·rw [List.getD_eq_getElem?_getD, List.getElem?_eq_getElem hq]
  exact hm _ (h.subset (List.getElem_mem hq))
end Go.Proofs.Ytimjblgepbhoaaa.Pure

