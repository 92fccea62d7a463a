import Derived.Test.YtimjblgepbhoaaaHStays0
import Derived.Test.YtimjblgepbhoaaaHStaysg
import Derived.Test.YtimjblgepbhoaaaHStayso
import Derived.Test.YtimjblgepbhoaaaHStaysp
namespace Go.Proofs.Ytimjblgepbhoaaa.PStays
noncomputable section
open Go.RowKit Go.Proofs.YtimjblgepbhoaaaW.PrintWords Go.Proofs.YtimjblgepbhoaaaW.PrintLast Go.Proofs.YtimjblgepbhoaaaW.PrintMore
attribute [local go_sem] max2_int min2_int max_two min_two max_three min_three max_four min_four   -- for this text's walks alone
set_option linter.unusedVariables false
set_option linter.unusedSimpArgs false
set_option maxHeartbeats 8000000
set_option maxRecDepth 100000

open Classical in
noncomputable def valV {α : Type} (z : α) (g : Nat → Option α) : α := if h : ∃ r, ∃ k, g k = some r then h.choose else z
theorem leV_le {α : Type} {g : Nat → Option α} (hm : ∀ k, LeO (g k) (g (k + 1))) {r : α} {k : Nat} (h : g k = some r) : ∀ d, g (k + d) = some r
 | 0 => h
 | d + 1 => hm (k + d) r (leV_le hm h d)
theorem valV_eq {α : Type} {z : α} {g : Nat → Option α} (hm : ∀ k, LeO (g k) (g (k + 1))) {r : α} (h : ∃ k, g k = some r) : valV z g = r := by
 unfold valV
 rw [dif_pos ⟨r, h⟩]
 obtain ⟨k', h'⟩ := (⟨r, h⟩ : ∃ r, ∃ k, g k = some r).choose_spec
 obtain ⟨k, h⟩ := h
 have e1 := leV_le hm h k'
 have e2 := leV_le hm h' k
 rw [Nat.add_comm] at e2
 rw [e2] at e1
 exact Option.some.inj e1
abbrev Fr := Int × Int
noncomputable def frV (a b : Int) : Fr := valV (0, 0) (fun k => impl_fraction.f k a b)
noncomputable def muV (x y : Fr) : Fr := valV (0, 0) (fun k => impl_mulFractions.f k x.1 x.2 y.1 y.2)
noncomputable def adV (x y : Fr) : Fr := valV (0, 0) (fun k => impl_addFractions.f k x.1 x.2 y.1 y.2)
def FOk (a b : Int) : Prop := ∃ k r, impl_fraction.f k a b = some r
def MOk (x y : Fr) : Prop := ∃ k r, impl_mulFractions.f k x.1 x.2 y.1 y.2 = some r
def AOk (x y : Fr) : Prop := ∃ k r, impl_addFractions.f k x.1 x.2 y.1 y.2 = some r
theorem FOk.get {a b : Int} (h : FOk a b) : ∃ k, impl_fraction.f k a b = some ((frV a b).1, (frV a b).2) := by
 obtain ⟨k, r, h⟩ := h
 exact ⟨k, by unfold frV; rw [valV_eq (fun k => impl_fraction.mono _ _ k) ⟨k, h⟩]; exact h⟩
theorem MOk.get {x y : Fr} (h : MOk x y) : ∃ k, impl_mulFractions.f k x.1 x.2 y.1 y.2 = some ((muV x y).1, (muV x y).2) := by
 obtain ⟨k, r, h⟩ := h
 exact ⟨k, by unfold muV; rw [valV_eq (fun k => impl_mulFractions.mono _ _ _ _ k) ⟨k, h⟩]; exact h⟩
theorem AOk.get {x y : Fr} (h : AOk x y) : ∃ k, impl_addFractions.f k x.1 x.2 y.1 y.2 = some ((adV x y).1, (adV x y).2) := by
 obtain ⟨k, r, h⟩ := h
 exact ⟨k, by unfold adV; rw [valV_eq (fun k => impl_addFractions.mono _ _ _ _ k) ⟨k, h⟩]; exact h⟩
def fndI (M : Nat → Nat → Fr) (c : Nat) : Nat → Nat → Nat
 | 0, f => f
 | k + 1, f => if (M f c).1 = 0 then fndI M c k (f + 1) else f
theorem fndI_eq {M : Nat → Nat → Fr} {c m : Nat} : ∀ (k a f : Nat), a + k = m → a ≤ f → f ≤ m → (∀ i, a ≤ i → i < f → (M i c).1 = 0) → (f = m ∨ (M f c).1 ≠ 0) → fndI M c k a = f
 | 0, a, f, h1, h2, h3, _, _ => by show a = f; omega
 | k + 1, a, f, h1, h2, h3, h4, h5 => by
  show (if (M a c).1 = 0 then fndI M c k (a + 1) else a) = f
  by_cases he : a = f
  ·subst he
   rcases h5 with h5 | h5
   ·omega
   ·rw [if_neg h5]
  ·rw [if_pos (h4 a (Nat.le_refl a) (by omega))]
   exact fndI_eq k (a + 1) f (by omega) (by omega) h3 (fun i h6 h7 => h4 i (by omega) h7) h5
noncomputable def mulR (M : Nat → Nat → Fr) (nx : Nat) (inv : Fr) (k : Nat) : Nat → Nat → Fr := fun i j => if i = nx ∧ j < k then muV (M nx j) inv else M i j
def facV (M : Nat → Nat → Fr) (r c : Nat) : Fr := (wrap64 (-(M r c).1), (M r c).2)
noncomputable def clrR (M : Nat → Nat → Fr) (nx c r k : Nat) : Nat → Nat → Fr := fun i j => if i ≠ nx ∧ (M i c).1 ≠ 0 ∧ (i < r ∨ i = r ∧ j < k) then adV (M i j) (muV (facV M i c) (M nx j)) else M i j
structure StI where
 nx : Nat
 M : Nat → Nat → Fr
 ld : List Int
noncomputable def stepI (m n : Nat) (s : StI) (c : Nat) : StI :=
 if fndI s.M c (m - s.nx) s.nx = m then ⟨s.nx, s.M, s.ld.set c (-1)⟩ else
  ⟨s.nx + 1, clrR (mulR (fun i j => s.M (swp s.nx (fndI s.M c (m - s.nx) s.nx) i) j) s.nx (frV (s.M (fndI s.M c (m - s.nx) s.nx) c).2 (s.M (fndI s.M c (m - s.nx) s.nx) c).1) n) s.nx c m 0, (s.ld.set c (-1)).set c (s.nx : Int)⟩
def stepOk (m n : Nat) (s : StI) (c : Nat) : Prop := fndI s.M c (m - s.nx) s.nx ≠ m →
 FOk (s.M (fndI s.M c (m - s.nx) s.nx) c).2 (s.M (fndI s.M c (m - s.nx) s.nx) c).1 ∧
 (∀ k, k < n → MOk (s.M (fndI s.M c (m - s.nx) s.nx) k) (frV (s.M (fndI s.M c (m - s.nx) s.nx) c).2 (s.M (fndI s.M c (m - s.nx) s.nx) c).1)) ∧
 ∀ M2, M2 = mulR (fun i j => s.M (swp s.nx (fndI s.M c (m - s.nx) s.nx) i) j) s.nx (frV (s.M (fndI s.M c (m - s.nx) s.nx) c).2 (s.M (fndI s.M c (m - s.nx) s.nx) c).1) n →
  ∀ r, r < m → r ≠ s.nx → (M2 r c).1 ≠ 0 → ∀ k, k < n → MOk (facV M2 r c) (M2 s.nx k) ∧ AOk (M2 r k) (muV (facV M2 r c) (M2 s.nx k))
noncomputable def redI (m n nc : Nat) (M : Nat → Nat → Fr) (c : Nat) : StI := (List.range c).foldl (stepI m n) ⟨0, M, List.replicate nc 0⟩
theorem redI_succ (m n nc : Nat) (M : Nat → Nat → Fr) (c : Nat) : redI m n nc M (c + 1) = stepI m n (redI m n nc M c) c := by unfold redI; rw [List.range_succ, List.foldl_append]; rfl
def RedOk (m n nc : Nat) (M : Nat → Nat → Fr) : Prop := ∀ c, c < nc → stepOk m n (redI m n nc M c) c
def encF (M : Nat → Nat → Fr) : Nat → Nat → Value := fun i j => .int .i64 (if j % 2 = 0 then (M i (j / 2)).1 else (M i (j / 2)).2)
structure TbF (S0 : Nat → Prop) (go m n : Nat) (rb cp : Nat → Nat) (M : Nat → Nat → Fr) (w : World) : Prop where
 t : Tb go m n (n * 2) rb cp (encF M) w
 so : S0 go
 sr : ∀ i, i < m → S0 (rb i)
 old : ∀ k, S0 k → k < w.heap.size
theorem TbF.x {S0 : Nat → Prop} {go m n : Nat} {rb cp : Nat → Nat} {M : Nat → Nat → Fr} {w : World} (h : TbF S0 go m n rb cp M w) {i k : Nat} (hi : i < m) (hk : k < n) : w.cell? ⟨rb i, k * 2, none⟩ = some (.int .i64 (M i k).1) := by
 rw [h.t.r i hi (k * 2) (by omega)]
 show some (Value.int .i64 (if k * 2 % 2 = 0 then (M i (k * 2 / 2)).1 else _)) = _
 rw [if_pos (by omega), Nat.mul_div_cancel _ (by omega)]
theorem TbF.y {S0 : Nat → Prop} {go m n : Nat} {rb cp : Nat → Nat} {M : Nat → Nat → Fr} {w : World} (h : TbF S0 go m n rb cp M w) {i k : Nat} (hi : i < m) (hk : k < n) : w.cell? ⟨rb i, k * 2 + 1, none⟩ = some (.int .i64 (M i k).2) := by
 rw [h.t.r i hi (k * 2 + 1) (by omega)]
 show some (Value.int .i64 (if (k * 2 + 1) % 2 = 0 then _ else (M i ((k * 2 + 1) / 2)).2)) = _
 rw [if_neg (by omega), show (k * 2 + 1) / 2 = k from by omega]
theorem TbF.kept {S0 S : Nat → Prop} {go m n : Nat} {rb cp : Nat → Nat} {M : Nat → Nat → Fr} {w w' : World} (h : TbF S0 go m n rb cp M w) (hn : 0 < n) (hk : Kept w w' S) (hS : ∀ k, S0 k → ¬ S k) : TbF S0 go m n rb cp M w' :=
 ⟨h.t.kept (by omega) hk (fun _ => hS _ h.so) (fun i hi => hS _ (h.sr i hi)), h.so, h.sr, fun k hk' => Nat.lt_of_lt_of_le (h.old k hk') hk.1⟩
theorem TbF.below {S0 : Nat → Prop} {go m n : Nat} {rb cp : Nat → Nat} {M : Nat → Nat → Fr} {w w' : World} (h : TbF S0 go m n rb cp M w) (hn : 0 < n) (hb : Below w.heap.size w w') : TbF S0 go m n rb cp M w' :=
 h.kept hn (Kept.of_below hb (fun _ => False)) (fun _ _ => id)
theorem TbF.drew {S0 : Nat → Prop} {go m n : Nat} {rb cp : Nat → Nat} {M : Nat → Nat → Fr} {w : World} (h : TbF S0 go m n rb cp M w) : TbF S0 go m n rb cp M w.drew := ⟨h.t.drew, h.so, h.sr, h.old⟩
theorem TbF.congr {S0 : Nat → Prop} {go m n : Nat} {rb cp : Nat → Nat} {M M' : Nat → Nat → Fr} {w : World} (h : TbF S0 go m n rb cp M w) (hV : ∀ i, i < m → ∀ k, k < n → M i k = M' i k) : TbF S0 go m n rb cp M' w :=
 ⟨h.t.congr (fun i hi j hj => by unfold encF; rw [hV i hi (j / 2) (by omega)]), h.so, h.sr, h.old⟩
theorem TbF.store {S0 : Nat → Prop} {go m n : Nat} {rb cp : Nat → Nat} {M : Nat → Nat → Fr} {w : World} (h : TbF S0 go m n rb cp M w) {a b : Nat} (ha : a < m) (hb : b < n) (x : Fr) :
  TbF S0 go m n rb cp (fun i k => if i = a ∧ k = b then x else M i k) ((w.setCell ⟨rb a, b * 2, none⟩ (.int .i64 x.1)).setCell ⟨rb a, b * 2 + 1, none⟩ (.int .i64 x.2)) := by
 refine ⟨((h.t.store ha (show b * 2 < n * 2 by omega) (.int .i64 x.1)).store ha (show b * 2 + 1 < n * 2 by omega) (.int .i64 x.2)).congr (fun i _ j _ => ?_), h.so, h.sr, fun k hk => by simpa [World.setCell] using h.old k hk⟩
 unfold encF
 dsimp only
 by_cases h1 : i = a ∧ j = b * 2 + 1
 ·rw [if_pos h1, if_neg (show ¬ j % 2 = 0 by omega), if_pos ⟨h1.1, by omega⟩]
 ·rw [if_neg h1]
  by_cases h2 : i = a ∧ j = b * 2
  ·rw [if_pos h2, if_pos (show j % 2 = 0 by omega), if_pos ⟨h2.1, by omega⟩]
  ·rw [if_neg h2]
   have h3 : ¬ (i = a ∧ j / 2 = b) := fun h_ => by
    have : j = b * 2 ∨ j = b * 2 + 1 := by omega
    rcases this with e | e
    ·exact h2 ⟨h_.1, e⟩
    ·exact h1 ⟨h_.1, e⟩
   rw [if_neg h3]
theorem TbF.swap {S0 : Nat → Prop} {go m n : Nat} {rb cp : Nat → Nat} {M : Nat → Nat → Fr} {w : World} (h : TbF S0 go m n rb cp M w) {a b : Nat} (ha : a < m) (hb : b < m) :
  TbF S0 go m n (fun i => rb (swp a b i)) (fun i => cp (swp a b i)) (fun i j => M (swp a b i) j) ((w.setCell ⟨go, a, none⟩ (.slice (some ⟨rb b, 0, none⟩) n (cp b))).setCell ⟨go, b, none⟩ (.slice (some ⟨rb a, 0, none⟩) n (cp a))) :=
 ⟨h.t.swap ha hb, h.so, fun i hi => h.sr _ (swp_lt ha hb hi), fun k hk => by simpa [World.setCell] using h.old k hk⟩
theorem swp_left (a b : Nat) : swp a b a = b := by unfold swp; rw [if_pos rfl]
def KB (w W : World) (S : Nat → Prop) : Prop := Kept w W S ∧ W.os = w.os ∧ W.tape = w.tape ∧ W.output = w.output
theorem KB.refl (w : World) (S : Nat → Prop) : KB w w S := ⟨Kept.refl w S, rfl, rfl, rfl⟩
theorem KB.of_below {w W : World} (h : Below w.heap.size w W) (S : Nat → Prop) : KB w W S := ⟨Kept.of_below h S, h.os, h.tape, h.output⟩
theorem KB.then_ {w W W2 : World} {S S2 : Nat → Prop} (h : KB w W S) (k : KB W W2 S2) (hs : ∀ k, S2 k → S k ∨ w.heap.size ≤ k) : KB w W2 S := ⟨h.1.then_ k.1 hs, k.2.1.trans h.2.1, k.2.2.1.trans h.2.2.1, k.2.2.2.trans h.2.2.2⟩
theorem KB.setCell {w W : World} {S : Nat → Prop} (h : KB w W S) {p : Addr} (hp : S p.block ∨ w.heap.size ≤ p.block) (u : Value) : KB w (W.setCell p u) S := ⟨h.1.setCell hp u, h.2⟩
theorem KB.to_below {w W : World} {S : Nat → Prop} (h : KB w W S) (B : Nat) (hB : ∀ k, S k → B ≤ k) (hle : B ≤ w.heap.size) : Below B w W := ⟨h.2.1, h.2.2.1, h.2.2.2, h.1.1, fun k hk => h.1.2 k (Nat.lt_of_lt_of_le hk hle) (fun hs => Nat.lt_irrefl _ (Nat.lt_of_lt_of_le hk (hB k hs)))⟩
theorem kept_storeT {w w' : World} {S : Nat → Prop} (h : KB w w' S) {k j : Nat} (hk : S k) (x : Value) : KB w (w'.setCell ⟨k, j, none⟩ x) S := KB.setCell (p := ⟨k, j, none⟩) h (.inl hk) x
structure RS (w : World) (S0 : Nat → Prop) (go m n g5 nc c4 : Nat) (rb cp : Nat → Nat) (M : Nat → Nat → Fr) (ld : List Int) (w1 : World) : Prop where
 t : TbF S0 go m n rb cp M w1
 l : Kd.R (Kd.int .i64) 3 w1 w.heap.size (fun k => k = g5) (.slice (some ⟨g5, 0, none⟩) nc c4) ld
 k : KB w w1 S0
 g : w.heap.size ≤ g5
 s : ∀ k, S0 k → k < w.heap.size
 n0 : 0 < n
theorem RS.kept {w w1 w2 : World} {S0 S : Nat → Prop} {go m n g5 nc c4 : Nat} {rb cp : Nat → Nat} {M : Nat → Nat → Fr} {ld : List Int} (h : RS w S0 go m n g5 nc c4 rb cp M ld w1) (hk : KB w1 w2 S) (hS : ∀ k, S k → w.heap.size ≤ k ∧ k ≠ g5) : RS w S0 go m n g5 nc c4 rb cp M ld w2 :=
 ⟨h.t.kept h.n0 hk.1 (fun k hk' hs => by have := h.s k hk'; have := (hS k hs).1; omega), Kd.R_kept h.l hk.1 (fun k e hs => (hS k hs).2 e), KB.then_ h.k hk (fun k hs => .inr (hS k hs).1), h.g, h.s, h.n0⟩
theorem RS.below {w w1 w2 : World} {S0 : Nat → Prop} {go m n g5 nc c4 : Nat} {rb cp : Nat → Nat} {M : Nat → Nat → Fr} {ld : List Int} (h : RS w S0 go m n g5 nc c4 rb cp M ld w1) (hb : Below w1.heap.size w1 w2) : RS w S0 go m n g5 nc c4 rb cp M ld w2 :=
 h.kept (KB.of_below hb (fun _ => False)) (fun _ h_ => h_.elim)
theorem RS.drewN {w w1 : World} {S0 : Nat → Prop} {go m n g5 nc c4 : Nat} {rb cp : Nat → Nat} {M : Nat → Nat → Fr} {ld : List Int} (h : RS w S0 go m n g5 nc c4 rb cp M ld w1) (q : Nat) : RS w S0 go m n g5 nc c4 rb cp M ld (w1.drewN q) := h.below (pw_below_drewN (Below.refl _ _) q)
theorem RS.congr {w w1 : World} {S0 : Nat → Prop} {go m n g5 nc c4 : Nat} {rb cp : Nat → Nat} {M M' : Nat → Nat → Fr} {ld : List Int} (h : RS w S0 go m n g5 nc c4 rb cp M ld w1) (hV : ∀ i, i < m → ∀ k, k < n → M i k = M' i k) : RS w S0 go m n g5 nc c4 rb cp M' ld w1 := ⟨h.t.congr hV, h.l, h.k, h.g, h.s, h.n0⟩
theorem RS.box {w w1 : World} {S0 : Nat → Prop} {go m n g5 nc c4 : Nat} {rb cp : Nat → Nat} {M : Nat → Nat → Fr} {ld : List Int} (h : RS w S0 go m n g5 nc c4 rb cp M ld w1) {gp j : Nat} (hg : w.heap.size ≤ gp ∧ gp ≠ g5) (x : Value) : RS w S0 go m n g5 nc c4 rb cp M ld (w1.setCell ⟨gp, j, none⟩ x) :=
 h.kept (kept_storeT (S := fun k => k = gp) (KB.refl _ _) rfl x) (fun k e => by rw [e]; exact hg)
theorem RS.size {w w1 : World} {S0 : Nat → Prop} {go m n g5 nc c4 : Nat} {rb cp : Nat → Nat} {M : Nat → Nat → Fr} {ld : List Int} (h : RS w S0 go m n g5 nc c4 rb cp M ld w1) : w.heap.size ≤ w1.heap.size ∧ g5 < w1.heap.size := ⟨h.k.1.1, Kd.R_lt h.l g5 (by simp [Value.ownBlock])⟩
theorem RS.store {w w1 : World} {S0 : Nat → Prop} {go m n g5 nc c4 : Nat} {rb cp : Nat → Nat} {M : Nat → Nat → Fr} {ld : List Int} (h : RS w S0 go m n g5 nc c4 rb cp M ld w1) {a b : Nat} (ha : a < m) (hb : b < n) (x : Fr) :
  RS w S0 go m n g5 nc c4 rb cp (fun i k => if i = a ∧ k = b then x else M i k) ld ((w1.setCell ⟨rb a, b * 2, none⟩ (.int .i64 x.1)).setCell ⟨rb a, b * 2 + 1, none⟩ (.int .i64 x.2)) :=
 have hk := kept_storeT (kept_storeT (KB.refl w1 S0) (j := b * 2) (h.t.sr a ha) (.int .i64 x.1)) (j := b * 2 + 1) (h.t.sr a ha) (.int .i64 x.2)
 ⟨h.t.store ha hb x, Kd.R_kept h.l hk.1 (fun k e hs => by have := h.s k hs; have := h.g; omega), KB.then_ h.k hk (fun k hs => .inl hs), h.g, h.s, h.n0⟩
theorem mulR_put {M : Nat → Nat → Fr} {nx k : Nat} {inv : Fr} (x y : Nat) : (if x = nx ∧ y = k then muV (M nx k) inv else mulR M nx inv k x y) = mulR M nx inv (k + 1) x y := by
 unfold mulR
 by_cases h : x = nx ∧ y = k
 ·rw [if_pos h, if_pos ⟨h.1, by omega⟩, h.2]
 ·rw [if_neg h]
  by_cases h1 : x = nx ∧ y < k
  ·rw [if_pos h1, if_pos ⟨h1.1, by omega⟩]
  ·rw [if_neg h1, if_neg (fun h_ => h1 ⟨h_.1, by omega⟩)]
theorem mulR_zero (M : Nat → Nat → Fr) (nx : Nat) (inv : Fr) (x y : Nat) : mulR M nx inv 0 x y = M x y := by unfold mulR; rw [if_neg (fun h_ => by omega)]
theorem mulR_at {M : Nat → Nat → Fr} {nx k y : Nat} {inv : Fr} (h : k ≤ y) (x : Nat) : mulR M nx inv k x y = M x y := by unfold mulR; rw [if_neg (fun h_ => by omega)]
theorem clrR_zero (M : Nat → Nat → Fr) (nx c : Nat) (x y : Nat) : clrR M nx c 0 0 x y = M x y := by unfold clrR; rw [if_neg (fun h_ => by omega)]
theorem clrR_own {M : Nat → Nat → Fr} {nx c r k x y : Nat} (h : x = nx) : clrR M nx c r k x y = M x y := by unfold clrR; rw [if_neg (fun h_ => h_.1 h)]
theorem clrR_late {M : Nat → Nat → Fr} {nx c r k x y : Nat} (h : r < x ∨ r = x ∧ k ≤ y) : clrR M nx c r k x y = M x y := by unfold clrR; rw [if_neg (fun h_ => by omega)]
theorem clrR_skip {M : Nat → Nat → Fr} {nx c r : Nat} (h : r = nx ∨ (M r c).1 = 0) (x y : Nat) : clrR M nx c r 0 x y = clrR M nx c (r + 1) 0 x y := by
 unfold clrR
 by_cases h1 : x ≠ nx ∧ (M x c).1 ≠ 0 ∧ (x < r ∨ x = r ∧ y < 0)
 ·rw [if_pos h1, if_pos ⟨h1.1, h1.2.1, by omega⟩]
 ·rw [if_neg h1, if_neg (fun h_ => by
   by_cases he : x = r
   ·rcases h with h | h
    ·exact h_.1 (he.trans h)
    ·exact h_.2.1 (by rw [he]; exact h)
   ·exact h1 ⟨h_.1, h_.2.1, by omega⟩)]
theorem clrR_row {M : Nat → Nat → Fr} {nx c r n x y : Nat} (hy : y < n) : clrR M nx c r n x y = clrR M nx c (r + 1) 0 x y := by
 unfold clrR
 by_cases h1 : x ≠ nx ∧ (M x c).1 ≠ 0 ∧ (x < r ∨ x = r ∧ y < n)
 ·rw [if_pos h1, if_pos ⟨h1.1, h1.2.1, by omega⟩]
 ·rw [if_neg h1, if_neg (fun h_ => h1 ⟨h_.1, h_.2.1, by omega⟩)]
theorem clrR_put {M : Nat → Nat → Fr} {nx c r k : Nat} (hr : r ≠ nx) (hz : (M r c).1 ≠ 0) (x y : Nat) : (if x = r ∧ y = k then adV (M r k) (muV (facV M r c) (M nx k)) else clrR M nx c r k x y) = clrR M nx c r (k + 1) x y := by
 unfold clrR
 by_cases h : x = r ∧ y = k
 ·rw [if_pos h]
  obtain ⟨rfl, rfl⟩ := h; rw [if_pos ⟨hr, hz, by omega⟩]
 ·rw [if_neg h]
  by_cases h1 : x ≠ nx ∧ (M x c).1 ≠ 0 ∧ (x < r ∨ x = r ∧ y < k)
  ·rw [if_pos h1, if_pos ⟨h1.1, h1.2.1, by omega⟩]
  ·rw [if_neg h1, if_neg (fun h_ => h1 ⟨h_.1, h_.2.1, by omega⟩)]
def reduceR.T17 : Bool × List (List Nat × List Nat) := (true, [([], []), ([], []), ([0, 1], [0, 1]), ([2], [2]), ([], []), ([], []), ([], []), ([5, 6], [5, 6]), ([7], [7]), ([], []), ([8, 9], [8, 9]), ([10], [10]), ([], []), ([11, 12], [11, 12]), ([3, 4, 0, 1, 2, 3, 4, 5, 6, 7, 8, 9, 10, 11, 12, 13], [3, 4]), ([14, 13, 13, 0, 1, 2, 3, 4, 5, 6, 7, 8, 9, 10, 11, 12, 13], [13, 14])])
def reduceR.B17 : List Nat := [0, 0, 3, 7, 0, 0, 0, 96, 224, 0, 992, 2016, 0, 8160, 16383, 32767]
theorem reduceR.tab17 : rtab .any (opsOf Try.f121 17) = reduceR.T17 := by kernel_rfl
theorem reduceR.bits17 : waitsOk reduceR.T17.2 reduceR.B17 = true := by kernel_rfl
def reduceR.T28 : Bool × List (List Nat × List Nat) := (true, [([], []), ([], []), ([0, 1], [0, 1]), ([2], [2]), ([], []), ([], []), ([], []), ([5, 6], [5, 6]), ([7], [7]), ([], []), ([8, 9], [8, 9]), ([10], [10]), ([], []), ([], []), ([], []), ([13, 14], [13, 14]), ([15], [15]), ([], []), ([16, 17], [16, 17]), ([18], [18]), ([12, 19], [12, 19]), ([11, 20, 20], [11, 20]), ([3, 4, 0, 1, 2, 3, 4, 5, 6, 7, 8, 9, 10, 11, 12, 13, 14, 15, 16, 17, 18, 19, 20, 21], [3, 4]), ([22, 21, 21, 0, 1, 2, 3, 4, 5, 6, 7, 8, 9, 10, 11, 12, 13, 14, 15, 16, 17, 18, 19, 20, 21], [21, 22])])
def reduceR.B28 : List Nat := [0, 0, 3, 7, 0, 0, 0, 96, 224, 0, 992, 2016, 0, 0, 0, 24576, 57344, 0, 253952, 516096, 1044480, 2097120, 4194303, 8388607]
theorem reduceR.tab28 : rtab .any (opsOf Try.f121 28) = reduceR.T28 := by kernel_rfl
theorem reduceR.bits28 : waitsOk reduceR.T28.2 reduceR.B28 = true := by kernel_rfl
theorem reduceRows_calls (w : World) (S0 : Nat → Prop) (go m n nc cpo : Nat) (rb cp : Nat → Nat) (M : Nat → Nat → Fr) (hC : m ≤ 1024) (dC : n ≤ 1024) (hnc : nc < n) (hT : TbF S0 go m n rb cp M w) (hok : RedOk m n nc M) :
  Calls Try.prog 121 #[.slice (some ⟨go, 0, none⟩) m cpo, .int .i64 (nc : Int)] w fun e w' => ∃ (v : Value) (rb' cp' : Nat → Nat), e = .returned v ∧ Kd.R (Kd.int .i64) 3 w' w.heap.size (fun k => w.heap.size ≤ k) v (redI m n nc M nc).ld ∧ TbF S0 go m n rb' cp' (redI m n nc M nc).M w' ∧ KB w w' S0 := by
 have JA := Try.underlying147
 have KA := Try.underlying145
 have LA := Try.underlying142
 have MA := Try.underlying140
 have HT := zQ hT
 have HOK := zQ hok
 clear hT hok
 go_enter Try.func121, Try.ntmps121
 go_wp2_with (first
  | ((with_reducible refine zd 16 ?_); refine Kd.R_make (Kd.int .i64) (w0 := w) w.heap.size 3 ?hg (N := 16) ?hd 142 (.tmp 15) (.tmp 15) rfl (nc : Int) rfl rfl Try.underlying142 (.int .i64 0) 8 info3R rfl (by decide) (by omega) 0 (ok := fun k => w.heap.size ≤ k) (okp := fun k => w.heap.size ≤ k) rfl (fun _ hk => hk) (Nat.le_refl _) (by omega) (by simp; omega) (Below.refl _ _) (Nat.le_refl _) ?_; (case hd => rfl); (case hg => rfl); intro v4 w4 jA MB kC eC; rw [Int.toNat_natCast] at jA; obtain ⟨A4, c4, ev4⟩ := Kd.R_slice jA; rw [List.length_replicate] at ev4; subst ev4; have qC := zQ jA; have HB4 := zQ MB; clear jA MB kC eC))
 go_loopw [6, 19] (fun v6 mB wr => ∃ (s : StI) (c : Nat) (rb1 cp1 : Nat → Nat), v6 = .int .i64 (s.nx : Int) ∧ mB = .int .i64 (c : Int) ∧ c ≤ nc ∧ s.nx ≤ m ∧ Aside0 (redI m n nc M c = s) ∧ Aside0 (TbF S0 go m n rb1 cp1 s.M wr) ∧ Aside0 (Kd.R (Kd.int .i64) 3 wr w.heap.size (fun k => w.heap.size ≤ k) (.slice A4 nc c4) s.ld) ∧ Aside0 (KB w wr S0)) (fun _ mB _ => ((nc : Int) - intOf mB).toNat)
 case atStart => exact ⟨⟨0, M, List.replicate nc 0⟩, 0, rb, cp, by first | rfl | (simp; done), by first | rfl | (simp; done), by omega, by show 0 ≤ m; omega, ⟨rfl⟩, ⟨HT.out.below (by omega) HB4.out⟩, qC, ⟨KB.of_below HB4.out _⟩⟩
 case round =>
  obtain ⟨s, c, rb1, cp1, rfl, rfl, hcn, hnx, HRD, HT1, DA, xB⟩ := hrel
  by_cases hc : c < nc
  ·have hcb : decide ((c : Int) < (nc : Int)) = true := decide_eq_true (by omega)
   have hcb' : decide (c < nc) = true := decide_eq_true hc; have hll : s.ld.length = nc := ((Kd.R_reads' DA.out).1).symm; obtain ⟨g5, rfl⟩ := R_someT DA.out (by omega); obtain ⟨xA, pA⟩ := Kd.R_celln 0 DA.out (c : Int) (by omega) (by omega); rw [Int.toNat_natCast] at xA pA; have hput := Kd.R_putn DA.out (c : Int) (-1 : Int); rw [Int.toNat_natCast] at hput; have HPUT := zQ hput; have HG5 := zQ (DA.out.1 g5 (by simp [Value.ownBlock])); have p0 : (0 ≤ (c : Int)) = True := eq_true (by omega); have q0 : ((c : Int) < (nc : Int)) = True := eq_true (by omega); have HLL := zQ hll; clear hput hll
   go_wp2_with (first
    | ((with_reducible refine gate_store (t := 3) (p := 24) rfl ?_); refine store_event (t := 3) (p := 24) (v := ?vo) (w1 := wr.setCell ⟨g5, c, none⟩ (.int .i64 (-1))) ?hg ?ho ?hn ?hr ?_; (case ho => rfl); (case hg => rfl); (case hn => rfl); (case hr => first | (go_simp; done) | (go_simp; rfl)); intro w5 pB; have vB := zQ (show Kd.R (Kd.int .i64) 3 w5 w.heap.size (fun k => w.heap.size ≤ k) (.slice (some ⟨g5, 0, none⟩) nc c4) (s.ld.set c (-1)) from by rw [pB]; exact HPUT.out); have sB : KB wr w5 (fun k => w.heap.size ≤ k) := (by rw [pB]; exact KB.setCell (p := ⟨g5, c, none⟩) (KB.refl _ _) (.inl HG5.out) _); have HT5 := zQ (HT1.out.kept (by omega) sB.1 (fun k hk => Nat.not_le.2 (HT.out.old k hk))); have HK5 := zQ (KB.then_ xB.out sB (fun k h_ => .inr h_)); clear pB sB xA pA))
   go_loop [8] (fun v8 => ∃ (f : Nat), v8 = .int .i64 (f : Int) ∧ s.nx ≤ f ∧ f ≤ m ∧ Aside0 (∀ i, s.nx ≤ i → i < f → (s.M i c).1 = 0)) (fun v8 => ((m : Int) - intOf v8).toNat)
   case atStart => exact ⟨s.nx, rfl, Nat.le_refl _, by omega, ⟨fun i h1 h2 => by omega⟩⟩
   case round =>
    obtain ⟨f, rfl, HB, lC, HZ⟩ := hrel
    by_cases hfm : f < m
    ·have hfb : decide ((f : Int) < (m : Int)) = true := decide_eq_true (by omega)
     have hfb' : decide (f < m) = true := decide_eq_true hfm; have p1 : (0 ≤ (f : Int)) = True := eq_true (by omega); have q1 : ((f : Int) < (m : Int)) = True := eq_true (by omega); have q2 : ((c : Int) < (n : Int)) = True := eq_true (by omega); have co := HT5.out.t.o f hfm; have cr : w5.cell? ⟨rb1 f, c * 2, none⟩ = some (.int .i64 (s.M f c).1) := HT5.out.x hfm (by omega); have cy : w5.cell? ⟨rb1 f, c * 2 + 1, none⟩ = some (.int .i64 (s.M f c).2) := HT5.out.y hfm (by omega); obtain ⟨x, hx⟩ : ∃ x, (s.M f c).1 = x := ⟨_, rfl⟩; obtain ⟨y, hy⟩ : ∃ x, (s.M f c).2 = x := ⟨_, rfl⟩; rw [hx] at cr; rw [hy] at cy; have HX := zQ hx; have HY := zQ hy; clear hx hy
     by_cases hz : x = 0
     ·have hzb : (x == 0) = true := beq_iff_eq.mpr hz
      clear hz
      go_wp2
      go_round
      case rel => exact ⟨f + 1, by first | rfl | (simp; omega) | (congr 1; omega), by omega, by omega, ⟨fun i h1 h2 => by
       by_cases he : i = f
       ·rw [he, HX.out]; exact beq_iff_eq.mp hzb
       ·exact HZ.out i h1 (by omega)⟩⟩
      case measure => simp [intOf]; omega
     ·have hzb : (x == 0) = false := beq_eq_false_iff_ne.mpr hz
      have HNZ := zQ hz; clear hz
      have hne : ((f : Int) == (m : Int)) = false := by rw [beq_eq_false_iff_ne]; omega
      have hnm : s.nx < m := by omega
      have p3 : (0 ≤ (s.nx : Int)) = True := eq_true (by omega); have q3 : ((s.nx : Int) < (m : Int)) = True := eq_true (by omega); have ca := HT5.out.t.o s.nx hnm; have ff := HT5.out.t.of f hfm; have fa := HT5.out.t.of s.nx hnm; obtain ⟨va, hva⟩ := cell?_setCell_some (w := w5) (p := ⟨go, s.nx, none⟩) (x := .slice (some ⟨rb1 f, 0, none⟩) n (cp1 f)) (q := ⟨go, f, none⟩) co
      go_wp2
      go_region
      generalize oB : (w5.setCell ⟨go, s.nx, none⟩ (.slice (some ⟨rb1 f, 0, none⟩) n (cp1 f))).setCell ⟨go, f, none⟩ (.slice (some ⟨rb1 s.nx, 0, none⟩) n (cp1 s.nx)) = w6
      have hsw := HT5.out.swap hnm hfm; rw [oB] at hsw; obtain ⟨rb2, PA⟩ : ∃ r : Nat → Nat, (fun i => rb1 (swp s.nx f i)) = r := ⟨_, rfl⟩; obtain ⟨cp2, SA⟩ : ∃ r : Nat → Nat, (fun i => cp1 (swp s.nx f i)) = r := ⟨_, rfl⟩; obtain ⟨M2, hM2⟩ : ∃ r : Nat → Nat → Fr, (fun i j => s.M (swp s.nx f i) j) = r := ⟨_, rfl⟩; rw [PA, SA, hM2] at hsw; have NB := zQ (show (M2 s.nx c) = (x, y) from by rw [← hM2]; show s.M (swp s.nx f s.nx) c = _; rw [swp_left, ← HX.out, ← HY.out]); have HM2 := zQ hM2; have HT6 := zQ hsw
      have rB : KB w5 w6 S0 := by rw [← oB]; exact kept_storeT (kept_storeT (KB.refl _ _) HT1.out.so _) HT1.out.so _
      have HK6 := zQ (KB.then_ HK5.out rB (fun k h_ => .inl h_)); have TB := zQ (Kd.R_kept vB.out rB.1 (fun k h1 h2 => Nat.not_lt.2 h1 (HT.out.old k h2))); have HFD := zQ (fndI_eq (M := s.M) (c := c) (m := m) (m - s.nx) s.nx f (by omega) HB lC HZ.out (.inr (by rw [HX.out]; exact HNZ.out))); have cp6 := HT6.out.t.o s.nx hnm
      have cx6 : w6.cell? ⟨rb2 s.nx, c * 2, none⟩ = some (.int .i64 x) := by have h_ := HT6.out.x hnm (show c < n by omega); rw [NB.out] at h_; exact h_
      have cy6 : w6.cell? ⟨rb2 s.nx, c * 2 + 1, none⟩ = some (.int .i64 y) := by have h_ := HT6.out.y hnm (show c < n by omega); rw [NB.out] at h_; exact h_
      clear oB hsw PA SA hM2 rB co cr cy ca ff fa hva; have hso := HOK.out c hc; rw [HRD.out] at hso
      unfold stepOk at hso
      rw [HFD.out] at hso; obtain ⟨hF, hMk, hA⟩ := hso (by omega); rw [HX.out, HY.out] at hF hMk hA; rw [HM2.out] at hA; obtain ⟨kf, hkf⟩ := hF.get; obtain ⟨iv, hiv⟩ : ∃ z, frV y x = z := ⟨_, rfl⟩; rw [hiv] at hkf hMk hA; have HIV := zQ hiv; obtain ⟨i0, i1⟩ := iv; have HKF := zQ (show impl_fraction.f kf y x = some (i0, i1) from hkf); have HMK := zQ (show ∀ k, k < n → MOk (M2 s.nx k) (i0, i1) from fun k hk => by rw [← HM2.out]; show MOk (s.M (swp s.nx f s.nx) k) _; rw [swp_left]; exact hMk k hk); obtain ⟨M3, hM3⟩ : ∃ z, mulR M2 s.nx (i0, i1) n = z := ⟨_, rfl⟩; have HA3 := zQ (hA M3 hM3.symm); have HM3 := zQ hM3; have PB := zQ (show RS w S0 go m n g5 nc c4 rb2 cp2 M2 (s.ld.set c (-1)) w6 from ⟨HT6.out, R_tell rfl TB.out (fun k e _ _ _ => by simpa [Value.ownBlock] using e.symm), HK6.out, HG5.out, HT.out.old, by omega⟩); clear hso hF hMk hA hkf hiv hM3 HT6 TB HK6 HT5 vB HK5 HT1 DA xB HPUT
      go_wp2_with (first
       | ((with_reducible refine zd 9 ?_); refine zbx (N := 9) (cs := #[.int .i64 0, .int .i64 0]) (t := 147) ?_; intro gp hg_ w7 hb_ hl_; have oC := zQ (RS.below PB.out (below_step (below_drew1 (Below.refl _ _)) hl_)); have Bw7 := zQ hb_; have Ggp := zQ (show w.heap.size ≤ gp ∧ gp ≠ g5 from by have h_ := RS.size PB.out; rw [hg_]; exact ⟨h_.1, fun e_ => by have : g5 < w6.heap.size := h_.2; have e2_ : w6.heap.size = g5 := e_; omega⟩); have c0gp := (blk_cell hb_ 0).trans rfl; have c1gp := (blk_cell hb_ 1).trans rfl; have f0gp := zfz hb_ 0; have f1gp := zfz hb_ 1; clear hb_ hl_ hg_)
       | ((with_reducible refine gate_store (t := 147) (p := 9) rfl ?_); refine store_event (t := 147) (p := 9) (v := ?vo_w8) (w1 := (w7.setCell ⟨gp, 0, none⟩ (.int .i64 x)).setCell ⟨gp, 1, none⟩ (.int .i64 y)) ?hg ?ho ?hn ?hr ?_; (case ho => rfl); (case hg => rfl); (case hn => rfl); (case hr => first | (go_simp; done) | (go_simp; rfl)); intro w8 hw_; have nC := zQ (show RS w S0 go m n g5 nc c4 rb2 cp2 M2 (s.ld.set c (-1)) w8 from by rw [hw_]; exact RS.box (RS.box oC.out Ggp.out _) Ggp.out _); have Bw8 := zQ (show w8.heap[gp]? = some (.cells #[.int .i64 x, .int .i64 y] 147 (0, 0)) from by rw [hw_]; exact blk_put (cs := #[.int .i64 x, .int .i64 0]) (blk_put (cs := #[.int .i64 0, .int .i64 0]) Bw7.out 0 _ rfl) 1 _ rfl); clear hw_ c0gp c1gp f0gp f1gp; have c0gp : w8.cell? ⟨gp, 0, none⟩ = some (.int .i64 x) := (blk_cell Bw8.out 0).trans rfl; have c1gp : w8.cell? ⟨gp, 1, none⟩ = some (.int .i64 y) := (blk_cell Bw8.out 1).trans rfl; have f0gp := zfz Bw8.out 0)
       | (go_at_call 136; (with_reducible refine (impl_fraction.calls kf y x i0 i1 _ HKF.out).mono ?_); rintro e w9 ⟨rfl, JB⟩; have OB := zQ (RS.below nC.out JB); clear JB c0gp c1gp f0gp)
       | ((with_reducible refine zd 10 ?_); refine zbx (N := 10) (cs := #[.int .i64 0, .int .i64 0]) (t := 147) ?_; intro gi hg_ IA hb_ hl_; have uB := zQ (RS.below OB.out hl_); have Bw10 := zQ hb_; have Ggi := zQ (show w.heap.size ≤ gi ∧ gi ≠ g5 from by have h_ := RS.size OB.out; rw [hg_]; exact ⟨h_.1, by omega⟩); have c0gi := (blk_cell hb_ 0).trans rfl; have c1gi := (blk_cell hb_ 1).trans rfl; have f0gi := zfz hb_ 0; have f1gi := zfz hb_ 1; clear hb_ hl_ hg_)
       | ((with_reducible refine gate_store (t := 147) (p := 10) rfl ?_); refine store_event (t := 147) (p := 10) (v := ?vo_w11) (w1 := (IA.setCell ⟨gi, 0, none⟩ (.int .i64 i0)).setCell ⟨gi, 1, none⟩ (.int .i64 i1)) ?hg ?ho ?hn ?hr ?_; (case ho => rfl); (case hg => rfl); (case hn => rfl); (case hr => first | (go_simp; done) | (go_simp; rfl)); intro fA hw_; have ZA := zQ (show RS w S0 go m n g5 nc c4 rb2 cp2 M2 (s.ld.set c (-1)) fA from by rw [hw_]; exact RS.box (RS.box uB.out Ggi.out _) Ggi.out _); have Bw11 := zQ (show fA.heap[gi]? = some (.cells #[.int .i64 i0, .int .i64 i1] 147 (0, 0)) from by rw [hw_]; exact blk_put (cs := #[.int .i64 i0, .int .i64 0]) (blk_put (cs := #[.int .i64 0, .int .i64 0]) Bw10.out 0 _ rfl) 1 _ rfl); clear hw_ c0gi c1gi f0gi f1gi; have cn11 := ZA.out.t.t.o s.nx hnm; have c0gi : fA.cell? ⟨gi, 0, none⟩ = some (.int .i64 i0) := (blk_cell Bw11.out 0).trans rfl; have c1gi : fA.cell? ⟨gi, 1, none⟩ = some (.int .i64 i1) := (blk_cell Bw11.out 1).trans rfl; have f0gi := zfz Bw11.out 0))
      clear cp6 cx6 cy6
      go_loopw [78] (fun jB wr => ∃ (k : Nat), jB = .int .i64 (k : Int) ∧ k ≤ n ∧ Aside0 (RS w S0 go m n g5 nc c4 rb2 cp2 (mulR M2 s.nx (i0, i1) k) (s.ld.set c (-1)) wr) ∧ Aside0 (wr.heap[gi]? = some (.cells #[.int .i64 i0, .int .i64 i1] 147 (0, 0)))) (fun jB _ => ((n : Int) - intOf jB).toNat)
      case atStart => exact ⟨0, by first | rfl | (simp; done), by omega, ⟨ZA.out.congr (fun i _ k _ => (mulR_zero M2 _ _ i k).symm)⟩, Bw11⟩
      case round =>
       obtain ⟨k, rfl, hk, HRk, HBI⟩ := hrel
       by_cases hkn : k < n
       ·have hkb : decide ((k : Int) < (n : Int)) = true := decide_eq_true (by omega)
        have hkb' : decide (k < n) = true := decide_eq_true hkn; have p5 : (0 ≤ (k : Int)) = True := eq_true (by omega); have q5 : ((k : Int) < (n : Int)) = True := eq_true (by omega); obtain ⟨km, hkm⟩ := (HMK.out k hkn).get; obtain ⟨mv, hmv⟩ : ∃ z, muV (M2 s.nx k) (i0, i1) = z := ⟨_, rfl⟩; rw [hmv] at hkm; obtain ⟨z, hz⟩ : ∃ z, M2 s.nx k = z := ⟨_, rfl⟩; rw [hz] at hkm; obtain ⟨z0, z1⟩ := z; obtain ⟨m0, m1⟩ := mv; have HKM := zQ (show impl_mulFractions.f km z0 z1 i0 i1 = some (m0, m1) from hkm); have HMV := zQ hmv; have HZK := zQ hz
        have HF := zQ (show ∀ (w' : World), RS w S0 go m n g5 nc c4 rb2 cp2 (mulR M2 s.nx (i0, i1) k) (s.ld.set c (-1)) w' → w'.heap[gi]? = some (.cells #[.int .i64 i0, .int .i64 i1] 147 (0, 0)) → w'.cell? ⟨go, s.nx, none⟩ = some (.slice (some ⟨rb2 s.nx, 0, none⟩) n (cp2 s.nx)) ∧ w'.cell? ⟨rb2 s.nx, k * 2, none⟩ = some (.int .i64 z0) ∧ w'.cell? ⟨rb2 s.nx, k * 2 + 1, none⟩ = some (.int .i64 z1) ∧ w'.cell? ⟨gi, 0, none⟩ = some (.int .i64 i0) ∧ w'.cell? ⟨gi, 1, none⟩ = some (.int .i64 i1) from
         fun w' h1 h2 => ⟨h1.t.t.o s.nx hnm, by have h_ := h1.t.x hnm hkn; rw [mulR_at (Nat.le_refl k), HZK.out] at h_; exact h_, by have h_ := h1.t.y hnm hkn; rw [mulR_at (Nat.le_refl k), HZK.out] at h_; exact h_, (blk_cell h2 0).trans rfl, (blk_cell h2 1).trans rfl⟩)
        clear hkm hmv hz
        go_wp2
        refine zs (fun w' => w'.cell? ⟨go, s.nx, none⟩ = some (.slice (some ⟨rb2 s.nx, 0, none⟩) n (cp2 s.nx)) ∧ w'.cell? ⟨rb2 s.nx, k * 2, none⟩ = some (.int .i64 z0) ∧ w'.cell? ⟨rb2 s.nx, k * 2 + 1, none⟩ = some (.int .i64 z1) ∧ w'.cell? ⟨gi, 0, none⟩ = some (.int .i64 i0) ∧ w'.cell? ⟨gi, 1, none⟩ = some (.int .i64 i1)) [15] 16 (HF.out _ (RS.drewN HRk.out 1) HBI.out) (fun aA => ?_); refine with_tabW reduceR.tab17 reduceR.bits17 (fun HT_ HW_ => ?_)
        have eA := zQ (RS.drewN HRk.out 1); have HB20 := HBI
        change Aside0 (RS w S0 go m n g5 nc c4 rb2 cp2 (mulR M2 s.nx (i0, i1) k) (s.ld.set c (-1)) wr.drew) at eA
        change Aside0 (wr.drew.heap[gi]? = _) at HB20
        generalize wr.drew = AB at eA HB20 aA ⊢
        refine zp 0 81 ?_
        refine zp 1 82 ?_
        refine zp 2 83 ?_
        refine zp 4 85 ?_
        refine zp 5 86 ?_
        refine zp 6 87 ?_
        refine zp 7 88 ?_
        refine zp 9 90 ?_
        refine zt 3 84 aA ?_
        refine zt 8 89 aA ?_
        refine zp 10 91 ?_
        refine zt 11 92 aA ?_
        refine zt 12 93 aA ?_
        refine zo 13 (some 94) (fun K hK => ?_)
        refine goes_ Try.func137 (by kernel_rfl) rfl #[.agg #[.int .i64 z0, .int .i64 z1], .agg #[.int .i64 i0, .int .i64 i1]] (by rfl) rfl rfl (by (try simp only [List.map_toArray, List.map_cons, List.map_nil]); first | done | rfl) ?_
        with_reducible refine (impl_mulFractions.calls km z0 z1 i0 i1 m0 m1 _ HKM.out).mono ?_
        rintro e qA ⟨rfl, CA⟩
        refine ⟨_, rfl, ?_⟩
        have bA := zQ (RS.below eA.out CA); have HB21 := zQ (blk_below HB20.out CA); clear CA
        refine hK.out _ _ (HF.out _ bA.out HB21.out) (fun aA => ?_)
        clear hK K
        refine zn 94 ?_
        refine zp 14 95 ?_
        refine last_ (i := 15) (N := none) (zm 16 65535) rfl rfl (one_of HT_.out (by kernel_rfl)) (by decide) (fun K hK => ?_)
        have cs0 := bA.out.t.x hnm hkn; have cs1 := bA.out.t.y hnm hkn; have fs0 := bA.out.t.t.rf s.nx hnm (k * 2) (by omega); have fs1 := bA.out.t.t.rf s.nx hnm (k * 2 + 1) (by omega)
        refine skip_ (w1 := ?_) (by rfl) rfl ?_ ?_
        rotate_left
        ·go_simp
         rfl
        refine hK.out _ _ ?_
        clear hK K cs0 cs1 fs0 fs1
        refine done_ (done_of HT_.out (by kernel_rfl)) ?_
        have HS17 := zQ (show RS w S0 go m n g5 nc c4 rb2 cp2 (mulR M2 s.nx (i0, i1) (k + 1)) (s.ld.set c (-1)) ((qA.setCell ⟨rb2 s.nx, k * 2, none⟩ (.int .i64 m0)).setCell ⟨rb2 s.nx, k * 2 + 1, none⟩ (.int .i64 m1)) from (RS.store bA.out hnm hkn (m0, m1)).congr (fun x _ y _ => by
         show (if x = s.nx ∧ y = k then (m0, m1) else mulR M2 s.nx (i0, i1) k x y) = _
         rw [← HMV.out]
         exact mulR_put x y))
        have HB17 := zQ (show ((qA.setCell ⟨rb2 s.nx, k * 2, none⟩ (.int .i64 m0)).setCell ⟨rb2 s.nx, k * 2 + 1, none⟩ (.int .i64 m1)).heap[gi]? = some (.cells #[.int .i64 i0, .int .i64 i1] 147 (0, 0)) from by
         have h_ := bA.out.s _ (bA.out.t.sr s.nx hnm); have hg_ := Ggi.out.1
         exact (Below.heap_setCell _ ⟨rb2 s.nx, k * 2 + 1, none⟩ _ gi (by show gi ≠ rb2 s.nx; omega)).trans ((Below.heap_setCell _ ⟨rb2 s.nx, k * 2, none⟩ _ gi (by show gi ≠ rb2 s.nx; omega)).trans HB21.out))
        go_wp2
        go_roundw
        case rel => exact ⟨k + 1, by first | rfl | (simp; omega) | (congr 1; omega), by omega, HS17, HB17⟩
        case measure => simp [intOf]; omega
       ·have hkb : decide ((k : Int) < (n : Int)) = false := decide_eq_false (by omega)
        have hkb' : decide (k < n) = false := decide_eq_false hkn; have YA := zQ (show RS w S0 go m n g5 nc c4 rb2 cp2 M3 (s.ld.set c (-1)) wr from by have h_ := HRk.out; rw [show k = n from by omega] at h_; rw [← HM3.out]; exact h_); clear HRk HBI
        go_wp2
        go_loopw [99] (fun gB wr => ∃ (r : Nat), gB = .int .i64 (r : Int) ∧ r ≤ m ∧ Aside0 (RS w S0 go m n g5 nc c4 rb2 cp2 (clrR M3 s.nx c r 0) (s.ld.set c (-1)) wr)) (fun gB _ => ((m : Int) - intOf gB).toNat)
        case atStart => exact ⟨0, by first | rfl | (simp; done), by omega, ⟨YA.out.congr (fun i _ k _ => (clrR_zero M3 _ _ i k).symm)⟩⟩
        case round =>
         obtain ⟨r, rfl, hr, HRr⟩ := hrel
         by_cases hrm : r < m
         ·have hrb : decide ((r : Int) < (m : Int)) = true := decide_eq_true (by omega)
          have hrb' : decide (r < m) = true := decide_eq_true hrm; have p5 : (0 ≤ (r : Int)) = True := eq_true (by omega); have q5 : ((r : Int) < (m : Int)) = True := eq_true (by omega); have co := HRr.out.t.t.o r hrm; obtain ⟨z, hz⟩ : ∃ z, M3 r c = z := ⟨_, rfl⟩; obtain ⟨z0, z1⟩ := z
          have cx : wr.cell? ⟨rb2 r, c * 2, none⟩ = some (.int .i64 z0) := by have h_ := HRr.out.t.x hrm (show c < n by omega); rw [clrR_late (.inr ⟨rfl, Nat.zero_le _⟩), hz] at h_; exact h_
          have cy : wr.cell? ⟨rb2 r, c * 2 + 1, none⟩ = some (.int .i64 z1) := by have h_ := HRr.out.t.y hrm (show c < n by omega); rw [clrR_late (.inr ⟨rfl, Nat.zero_le _⟩), hz] at h_; exact h_
          have HZ3 := zQ hz; clear hz
          by_cases hrn : r = s.nx
          ·have t1 : ((r : Int) == (s.nx : Int)) = true := by rw [hrn]; exact beq_self_eq_true _
           have HRN := zQ hrn; clear hrn
           go_wp2_with (first
            | ((with_reducible refine zd 13 ?_); refine zbx (N := 13) (cs := #[.int .i64 0, .int .i64 0]) (t := 147) ?_; intro gf hg_ HA hb_ hl_; have oA := zQ (RS.below HRr.out hl_); have Bw32 := zQ hb_; have Ggf := zQ (show w.heap.size ≤ gf ∧ gf ≠ g5 from by have h_ := RS.size HRr.out; rw [hg_]; exact ⟨h_.1, by omega⟩); have c0gf := (blk_cell hb_ 0).trans rfl; have c1gf := (blk_cell hb_ 1).trans rfl; have f0gf := zfz hb_ 0; have f1gf := zfz hb_ 1; clear hb_ hl_ hg_)
            | ((with_reducible refine gate_store (t := 147) (p := 13) rfl ?_); refine store_event (t := 147) (p := 13) (v := ?vo_u0) (w1 := (HA.setCell ⟨gf, 0, none⟩ (.int .i64 z0)).setCell ⟨gf, 1, none⟩ (.int .i64 z1)) ?hg ?ho ?hn ?hr ?_; (case ho => rfl); (case hg => rfl); (case hn => rfl); (case hr => first | (go_simp; done) | (go_simp; rfl)); intro dA hw_; have nA := zQ (show RS w S0 go m n g5 nc c4 rb2 cp2 (clrR M3 s.nx c r 0) (s.ld.set c (-1)) dA from by rw [hw_]; exact RS.box (RS.box oA.out Ggf.out _) Ggf.out _); have Bw33 := zQ (show dA.heap[gf]? = some (.cells #[.int .i64 z0, .int .i64 z1] 147 (0, 0)) from by rw [hw_]; exact blk_put (cs := #[.int .i64 z0, .int .i64 0]) (blk_put (cs := #[.int .i64 0, .int .i64 0]) Bw32.out 0 _ rfl) 1 _ rfl); clear hw_ c0gf c1gf f0gf f1gf; have c0gf : dA.cell? ⟨gf, 0, none⟩ = some (.int .i64 z0) := (blk_cell Bw33.out 0).trans rfl; have c1gf : dA.cell? ⟨gf, 1, none⟩ = some (.int .i64 z1) := (blk_cell Bw33.out 1).trans rfl; have f0gf := zfz Bw33.out 0))
           go_roundw
           case rel => exact ⟨r + 1, by first | rfl | (simp; omega) | (congr 1; omega), by omega, ⟨nA.out.congr (fun x _ y _ => clrR_skip (.inl HRN.out) x y)⟩⟩
           case measure => simp [intOf]; omega
          ·have t1 : ((r : Int) == (s.nx : Int)) = false := by rw [beq_eq_false_iff_ne]; omega
           have HRN := zQ hrn; clear hrn
           by_cases rA : z0 = 0
           ·have t2 : (z0 == 0) = true := beq_iff_eq.mpr rA
            have HZ0 := zQ rA; clear rA
            go_wp2_with (first
             | ((with_reducible refine zd 13 ?_); refine zbx (N := 13) (cs := #[.int .i64 0, .int .i64 0]) (t := 147) ?_; intro gf hg_ HA hb_ hl_; have oA := zQ (RS.below HRr.out hl_); have Bw32 := zQ hb_; have Ggf := zQ (show w.heap.size ≤ gf ∧ gf ≠ g5 from by have h_ := RS.size HRr.out; rw [hg_]; exact ⟨h_.1, by omega⟩); have c0gf := (blk_cell hb_ 0).trans rfl; have c1gf := (blk_cell hb_ 1).trans rfl; have f0gf := zfz hb_ 0; have f1gf := zfz hb_ 1; clear hb_ hl_ hg_)
             | ((with_reducible refine gate_store (t := 147) (p := 13) rfl ?_); refine store_event (t := 147) (p := 13) (v := ?vo_u1) (w1 := (HA.setCell ⟨gf, 0, none⟩ (.int .i64 z0)).setCell ⟨gf, 1, none⟩ (.int .i64 z1)) ?hg ?ho ?hn ?hr ?_; (case ho => rfl); (case hg => rfl); (case hn => rfl); (case hr => first | (go_simp; done) | (go_simp; rfl)); intro dA hw_; have nA := zQ (show RS w S0 go m n g5 nc c4 rb2 cp2 (clrR M3 s.nx c r 0) (s.ld.set c (-1)) dA from by rw [hw_]; exact RS.box (RS.box oA.out Ggf.out _) Ggf.out _); have Bw33 := zQ (show dA.heap[gf]? = some (.cells #[.int .i64 z0, .int .i64 z1] 147 (0, 0)) from by rw [hw_]; exact blk_put (cs := #[.int .i64 z0, .int .i64 0]) (blk_put (cs := #[.int .i64 0, .int .i64 0]) Bw32.out 0 _ rfl) 1 _ rfl); clear hw_ c0gf c1gf f0gf f1gf; have c0gf : dA.cell? ⟨gf, 0, none⟩ = some (.int .i64 z0) := (blk_cell Bw33.out 0).trans rfl; have c1gf : dA.cell? ⟨gf, 1, none⟩ = some (.int .i64 z1) := (blk_cell Bw33.out 1).trans rfl; have f0gf := zfz Bw33.out 0))
            go_roundw
            case rel => exact ⟨r + 1, by first | rfl | (simp; omega) | (congr 1; omega), by omega, ⟨nA.out.congr (fun x _ y _ => clrR_skip (.inr (by rw [HZ3.out]; exact HZ0.out)) x y)⟩⟩
            case measure => simp [intOf]; omega
           ·have t2 : (z0 == 0) = false := beq_eq_false_iff_ne.mpr rA
            have HZ0 := zQ (show (M3 r c).1 ≠ 0 from by rw [HZ3.out]; exact rA); clear rA; have HFC := zQ (show facV M3 r c = (wrap64 (-z0), z1) from by unfold facV; rw [HZ3.out])
            go_wp2_with (first
             | ((with_reducible refine zd 13 ?_); refine zbx (N := 13) (cs := #[.int .i64 0, .int .i64 0]) (t := 147) ?_; intro gf hg_ HA hb_ hl_; have oA := zQ (RS.below HRr.out hl_); have Bw32 := zQ hb_; have Ggf := zQ (show w.heap.size ≤ gf ∧ gf ≠ g5 from by have h_ := RS.size HRr.out; rw [hg_]; exact ⟨h_.1, by omega⟩); have c0gf := (blk_cell hb_ 0).trans rfl; have c1gf := (blk_cell hb_ 1).trans rfl; have f0gf := zfz hb_ 0; have f1gf := zfz hb_ 1; clear hb_ hl_ hg_)
             | ((with_reducible refine gate_store (t := 147) (p := 13) rfl ?_); refine store_event (t := 147) (p := 13) (v := ?vo_u2) (w1 := (HA.setCell ⟨gf, 0, none⟩ (.int .i64 z0)).setCell ⟨gf, 1, none⟩ (.int .i64 z1)) ?hg ?ho ?hn ?hr ?_; (case ho => rfl); (case hg => rfl); (case hn => rfl); (case hr => first | (go_simp; done) | (go_simp; rfl)); intro dA hw_; have nA := zQ (show RS w S0 go m n g5 nc c4 rb2 cp2 (clrR M3 s.nx c r 0) (s.ld.set c (-1)) dA from by rw [hw_]; exact RS.box (RS.box oA.out Ggf.out _) Ggf.out _); have Bw33 := zQ (show dA.heap[gf]? = some (.cells #[.int .i64 z0, .int .i64 z1] 147 (0, 0)) from by rw [hw_]; exact blk_put (cs := #[.int .i64 z0, .int .i64 0]) (blk_put (cs := #[.int .i64 0, .int .i64 0]) Bw32.out 0 _ rfl) 1 _ rfl); clear hw_ c0gf c1gf f0gf f1gf; have c0gf : dA.cell? ⟨gf, 0, none⟩ = some (.int .i64 z0) := (blk_cell Bw33.out 0).trans rfl; have c1gf : dA.cell? ⟨gf, 1, none⟩ = some (.int .i64 z1) := (blk_cell Bw33.out 1).trans rfl; have f0gf := zfz Bw33.out 0)
             | ((with_reducible refine gate_store (t := 2) (p := 120) rfl ?_); refine store_event (t := 2) (p := 120) (v := ?vo_w34) (w1 := dA.setCell ⟨gf, 0, none⟩ (.int .i64 (wrap64 (-z0)))) ?hg ?ho ?hn ?hr ?_; (case ho => rfl); (case hg => rfl); (case hn => rfl); (case hr => first | (go_simp; done) | (go_simp; rfl)); intro zB hw_; have XA := zQ (show RS w S0 go m n g5 nc c4 rb2 cp2 (clrR M3 s.nx c r 0) (s.ld.set c (-1)) zB from by rw [hw_]; exact RS.box nA.out Ggf.out _); have BF34 := zQ (show zB.heap[gf]? = some (.cells #[.int .i64 (wrap64 (-z0)), .int .i64 z1] 147 (0, 0)) from by rw [hw_]; exact blk_put (cs := #[.int .i64 z0, .int .i64 z1]) Bw33.out 0 _ rfl); have tB := XA.out.t.t.o r hrm; clear hw_ c0gf c1gf f0gf))
            clear co cx cy tB
            go_loopw [126] (fun AA wr => ∃ (k : Nat), AA = .int .i64 (k : Int) ∧ k ≤ n ∧ Aside0 (RS w S0 go m n g5 nc c4 rb2 cp2 (clrR M3 s.nx c r k) (s.ld.set c (-1)) wr) ∧ Aside0 (wr.heap[gf]? = some (.cells #[.int .i64 (wrap64 (-z0)), .int .i64 z1] 147 (0, 0)))) (fun AA _ => ((n : Int) - intOf AA).toNat)
            case atStart => exact ⟨0, by first | rfl | (simp; done), by omega, XA, BF34⟩
            case round =>
             obtain ⟨k, rfl, hk, HRk, HBF⟩ := hrel
             by_cases hkn : k < n
             ·have hkb : decide ((k : Int) < (n : Int)) = true := decide_eq_true (by omega)
              have hkb' : decide (k < n) = true := decide_eq_true hkn; have p6 : (0 ≤ (k : Int)) = True := eq_true (by omega); have q6 : ((k : Int) < (n : Int)) = True := eq_true (by omega); obtain ⟨hM_, hA_⟩ := HA3.out r hrm HRN.out HZ0.out k hkn; obtain ⟨km, hkm⟩ := hM_.get; obtain ⟨ka, hka⟩ := hA_.get; rw [HFC.out] at hkm hka; obtain ⟨z, hz⟩ : ∃ z, M3 s.nx k = z := ⟨_, rfl⟩; obtain ⟨x4, aB⟩ : ∃ z, M3 r k = z := ⟨_, rfl⟩; rw [hz] at hkm hka; rw [aB] at hka; obtain ⟨mv, hmv⟩ : ∃ q, muV (wrap64 (-z0), z1) z = q := ⟨_, rfl⟩; rw [hmv] at hkm hka; obtain ⟨av, hav⟩ : ∃ q, adV x4 mv = q := ⟨_, rfl⟩; rw [hav] at hka; obtain ⟨a0, a1⟩ := av; obtain ⟨m0, m1⟩ := mv; obtain ⟨y0, y1⟩ := z; obtain ⟨x0, x1⟩ := x4; have HKM := zQ (show impl_mulFractions.f km (wrap64 (-z0)) z1 y0 y1 = some (m0, m1) from hkm); have HKA := zQ (show impl_addFractions.f ka x0 x1 m0 m1 = some (a0, a1) from hka); have HVAL := zQ (show adV (M3 r k) (muV (facV M3 r c) (M3 s.nx k)) = (a0, a1) from by rw [HFC.out, hz, aB, hmv, hav]); have HYZ := zQ hz; have HXZ := zQ aB
              have HF := zQ (show ∀ (w' : World), RS w S0 go m n g5 nc c4 rb2 cp2 (clrR M3 s.nx c r k) (s.ld.set c (-1)) w' → w'.heap[gf]? = some (.cells #[.int .i64 (wrap64 (-z0)), .int .i64 z1] 147 (0, 0)) → w'.cell? ⟨go, r, none⟩ = some (.slice (some ⟨rb2 r, 0, none⟩) n (cp2 r)) ∧ w'.cell? ⟨rb2 r, k * 2, none⟩ = some (.int .i64 x0) ∧ w'.cell? ⟨rb2 r, k * 2 + 1, none⟩ = some (.int .i64 x1) ∧ w'.cell? ⟨gf, 0, none⟩ = some (.int .i64 (wrap64 (-z0))) ∧ w'.cell? ⟨gf, 1, none⟩ = some (.int .i64 z1) ∧ w'.cell? ⟨go, s.nx, none⟩ = some (.slice (some ⟨rb2 s.nx, 0, none⟩) n (cp2 s.nx)) ∧ w'.cell? ⟨rb2 s.nx, k * 2, none⟩ = some (.int .i64 y0) ∧ w'.cell? ⟨rb2 s.nx, k * 2 + 1, none⟩ = some (.int .i64 y1) from
               fun w' h1 h2 => ⟨h1.t.t.o r hrm, by have h_ := h1.t.x hrm hkn; rw [clrR_late (.inr ⟨rfl, Nat.le_refl k⟩), HXZ.out] at h_; exact h_, by have h_ := h1.t.y hrm hkn; rw [clrR_late (.inr ⟨rfl, Nat.le_refl k⟩), HXZ.out] at h_; exact h_, (blk_cell h2 0).trans rfl, (blk_cell h2 1).trans rfl, h1.t.t.o s.nx hnm, by have h_ := h1.t.x hnm hkn; rw [clrR_own rfl, HYZ.out] at h_; exact h_, by have h_ := h1.t.y hnm hkn; rw [clrR_own rfl, HYZ.out] at h_; exact h_⟩)
              clear hkm hka hz aB hmv hav hM_ hA_
              go_wp2
              refine zs (fun w' => w'.cell? ⟨go, r, none⟩ = some (.slice (some ⟨rb2 r, 0, none⟩) n (cp2 r)) ∧ w'.cell? ⟨rb2 r, k * 2, none⟩ = some (.int .i64 x0) ∧ w'.cell? ⟨rb2 r, k * 2 + 1, none⟩ = some (.int .i64 x1) ∧ w'.cell? ⟨gf, 0, none⟩ = some (.int .i64 (wrap64 (-z0))) ∧ w'.cell? ⟨gf, 1, none⟩ = some (.int .i64 z1) ∧ w'.cell? ⟨go, s.nx, none⟩ = some (.slice (some ⟨rb2 s.nx, 0, none⟩) n (cp2 s.nx)) ∧ w'.cell? ⟨rb2 s.nx, k * 2, none⟩ = some (.int .i64 y0) ∧ w'.cell? ⟨rb2 s.nx, k * 2 + 1, none⟩ = some (.int .i64 y1)) [23] 24 (HF.out _ (RS.drewN HRk.out 1) HBF.out) (fun aA => ?_); refine with_tabW reduceR.tab28 reduceR.bits28 (fun HT_ HW_ => ?_)
              have eA := zQ (RS.drewN HRk.out 1); have HB20 := HBF
              change Aside0 (RS w S0 go m n g5 nc c4 rb2 cp2 (clrR M3 s.nx c r k) (s.ld.set c (-1)) wr.drew) at eA
              change Aside0 (wr.drew.heap[gf]? = _) at HB20
              generalize wr.drew = AB at eA HB20 aA ⊢
              refine zp 0 129 ?_
              refine zp 1 130 ?_
              refine zp 2 131 ?_
              refine zp 4 133 ?_
              refine zp 5 134 ?_
              refine zp 6 135 ?_
              refine zp 7 136 ?_
              refine zp 9 138 ?_
              refine zp 13 142 ?_
              refine zp 14 143 ?_
              refine zp 15 144 ?_
              refine zp 17 146 ?_
              refine zt 3 132 aA ?_
              refine zt 8 137 aA ?_
              refine zp 10 139 ?_
              refine zt 11 140 aA ?_
              refine zt 12 141 aA ?_
              refine zt 16 145 aA ?_
              refine zp 18 147 ?_
              refine zt 19 148 aA ?_
              refine zo 20 (some 149) (fun K hK => ?_)
              refine goes_ Try.func137 (by kernel_rfl) rfl #[.agg #[.int .i64 (wrap64 (-z0)), .int .i64 z1], .agg #[.int .i64 y0, .int .i64 y1]] (by rfl) rfl rfl (by (try simp only [List.map_toArray, List.map_cons, List.map_nil]); first | done | rfl) ?_
              with_reducible refine (impl_mulFractions.calls km (wrap64 (-z0)) z1 y0 y1 m0 m1 _ HKM.out).mono ?_
              rintro e qA ⟨rfl, hb_⟩
              refine ⟨_, rfl, ?_⟩
              have bA := zQ (RS.below eA.out hb_); have HB21 := zQ (blk_below HB20.out hb_); clear hb_
              refine hK.out _ _ (HF.out _ bA.out HB21.out) (fun aA => ?_)
              clear hK K
              refine zn 149 ?_
              refine zo 21 (some 150) (fun K hK => ?_)
              refine goes_ Try.func138 (by kernel_rfl) rfl #[.agg #[.int .i64 x0, .int .i64 x1], .agg #[.int .i64 m0, .int .i64 m1]] (by rfl) rfl rfl (by (try simp only [List.map_toArray, List.map_cons, List.map_nil]); first | done | rfl) ?_
              with_reducible refine (impl_addFractions.calls ka x0 x1 m0 m1 a0 a1 _ HKA.out).mono ?_
              rintro e FA ⟨rfl, hb_⟩
              refine ⟨_, rfl, ?_⟩
              have cA := zQ (RS.below bA.out hb_); have HB22 := zQ (blk_below HB21.out hb_); clear hb_
              refine hK.out _ _ (HF.out _ cA.out HB22.out) (fun aA => ?_)
              clear hK K
              refine zn 150 ?_
              refine zp 22 151 ?_
              refine last_ (i := 23) (N := none) (zm 24 16777215) rfl rfl (one_of HT_.out (by kernel_rfl)) (by decide) (fun K hK => ?_)
              have cs0 := cA.out.t.x hrm hkn; have cs1 := cA.out.t.y hrm hkn; have fs0 := cA.out.t.t.rf r hrm (k * 2) (by omega); have fs1 := cA.out.t.t.rf r hrm (k * 2 + 1) (by omega)
              refine skip_ (w1 := ?_) (by rfl) rfl ?_ ?_
              rotate_left
              ·go_simp
               rfl
              refine hK.out _ _ ?_
              clear hK K cs0 cs1 fs0 fs1
              refine done_ (done_of HT_.out (by kernel_rfl)) ?_
              have HS28 := zQ (show RS w S0 go m n g5 nc c4 rb2 cp2 (clrR M3 s.nx c r (k + 1)) (s.ld.set c (-1)) ((FA.setCell ⟨rb2 r, k * 2, none⟩ (.int .i64 a0)).setCell ⟨rb2 r, k * 2 + 1, none⟩ (.int .i64 a1)) from (RS.store cA.out hrm hkn (a0, a1)).congr (fun x _ y _ => by
               show (if x = r ∧ y = k then (a0, a1) else clrR M3 s.nx c r k x y) = _
               rw [← HVAL.out]
               exact clrR_put HRN.out HZ0.out x y))
              have HB28 := zQ (show ((FA.setCell ⟨rb2 r, k * 2, none⟩ (.int .i64 a0)).setCell ⟨rb2 r, k * 2 + 1, none⟩ (.int .i64 a1)).heap[gf]? = some (.cells #[.int .i64 (wrap64 (-z0)), .int .i64 z1] 147 (0, 0)) from by
               have h_ := cA.out.s _ (cA.out.t.sr r hrm); have hg_ := Ggf.out.1
               exact (Below.heap_setCell _ ⟨rb2 r, k * 2 + 1, none⟩ _ gf (by show gf ≠ rb2 r; omega)).trans ((Below.heap_setCell _ ⟨rb2 r, k * 2, none⟩ _ gf (by show gf ≠ rb2 r; omega)).trans HB22.out))
              go_wp2
              go_roundw
              case rel => exact ⟨k + 1, by first | rfl | (simp; omega) | (congr 1; omega), by omega, HS28, HB28⟩
              case measure => simp [intOf]; omega
             ·have hkb : decide ((k : Int) < (n : Int)) = false := decide_eq_false (by omega)
              have hkb' : decide (k < n) = false := decide_eq_false hkn; have pC := zQ (show RS w S0 go m n g5 nc c4 rb2 cp2 (clrR M3 s.nx c (r + 1) 0) (s.ld.set c (-1)) wr from by have h_ := HRk.out; rw [show k = n from by omega] at h_; exact h_.congr (fun x _ y hy => clrR_row hy))
              go_wp2
              go_roundw
              case rel => exact ⟨r + 1, by first | rfl | (simp; omega) | (congr 1; omega), by omega, pC⟩
              case measure => simp [intOf]; omega
         ·have hrb : decide ((r : Int) < (m : Int)) = false := decide_eq_false (by omega)
          have hrb' : decide (r < m) = false := decide_eq_false hrm
          obtain rfl : r = m := by omega
          obtain ⟨EB, DB⟩ := Kd.R_celln 0 HRr.out.l (c : Int) (by omega) (by omega); rw [Int.toNat_natCast] at EB DB; have hput := Kd.R_putn HRr.out.l (c : Int) (s.nx : Int); rw [Int.toNat_natCast] at hput; have HPT := zQ hput; clear hput
          go_wp2_with (first
           | ((with_reducible refine gate_store (t := 3) (p := 157) rfl ?_); refine store_event (t := 3) (p := 157) (v := ?vo_w40) (w1 := wr.setCell ⟨g5, c, none⟩ (.int .i64 (s.nx : Int))) ?hg ?ho ?hn ?hr ?_; (case ho => rfl); (case hg => rfl); (case hn => rfl); (case hr => first | (go_simp; done) | (go_simp; rfl)); intro yB hw_; have wB := zQ (show Kd.R (Kd.int .i64) 3 yB w.heap.size (fun k => w.heap.size ≤ k) (.slice (some ⟨g5, 0, none⟩) nc c4) ((s.ld.set c (-1)).set c (s.nx : Int)) from by rw [hw_]; exact Kd.R_mono HPT.out (fun k e => by rw [e]; exact HG5.out)); have BA : KB wr yB (fun k => w.heap.size ≤ k) := (by rw [hw_]; exact KB.setCell (p := ⟨g5, c, none⟩) (KB.refl _ _) (.inl HG5.out) _); have HT40 := zQ (HRr.out.t.kept (by omega) BA.1 (fun k hk => Nat.not_le.2 (HT.out.old k hk))); have HK40 := zQ (KB.then_ HRr.out.k BA (fun k h_ => .inr h_)); clear hw_ BA EB DB))
          go_roundw
          case rel => exact ⟨⟨s.nx + 1, clrR M3 s.nx c r 0, (s.ld.set c (-1)).set c (s.nx : Int)⟩, c + 1, rb2, cp2, by first | rfl | (simp; omega) | (simp; done), by first | rfl | (simp; omega) | (congr 1; omega), by omega, by show s.nx + 1 ≤ r; omega, ⟨by
           rw [redI_succ, HRD.out]
           unfold stepI
           rw [HFD.out, if_neg (by omega), HX.out, HY.out, HIV.out, HM2.out, HM3.out]⟩, HT40, wB, HK40⟩
          case measure => simp [intOf]; omega
    ·have hfb : decide ((f : Int) < (m : Int)) = false := decide_eq_false (by omega)
     have hfb' : decide (f < m) = false := decide_eq_false hfm
     obtain rfl : f = m := by omega
     have hee : ((f : Int) == (f : Int)) = true := beq_self_eq_true _
     go_wp2
     go_roundw
     case rel => exact ⟨⟨s.nx, s.M, s.ld.set c (-1)⟩, c + 1, rb1, cp1, by first | rfl | (simp; done), by first | rfl | (simp; omega) | (congr 1; omega), by omega, hnx, ⟨by
      rw [redI_succ, HRD.out]
      unfold stepI
      rw [if_pos (fndI_eq (m := f) _ _ f (by omega) HB (Nat.le_refl _) HZ.out (.inl rfl))]⟩, HT5, vB, HK5⟩
     case measure => simp [intOf]; omega
  ·have hcb : decide ((c : Int) < (nc : Int)) = false := decide_eq_false (by omega)
   have hcb' : decide (c < nc) = false := decide_eq_false hc
   obtain rfl : c = nc := by omega
   go_wp2
   go_ret
   rw [HRD.out]
   exact ⟨_, _, _, by first | rfl | (simp; done), DA.out, HT1.out, xB.out⟩
def rowsM (rows : List (List S147)) : Nat → Nat → Fr := fun i j => (((rows.getD i []).getD j z147).f0, ((rows.getD i []).getD j z147).f1)
theorem enc_147 : ∀ (w : World) base ok (x : S147) c, k147.M w base ok x c → ∀ j, j < k147.sz → c[j]? = some ((fun (x : S147) (j : Nat) => Value.int .i64 (if j = 0 then x.f0 else x.f1)) x j) := by
 intro w base ok x c h j hj
 obtain rfl := k147_openM h
 match j, hj with
 | 0, _ => rfl
 | 1, _ => rfl
def solI (rows : List (List S147)) (n : Nat) : StI := redI rows.length (n + 1) n (rowsM rows) n
def denI (k : Nat) (s : StI) (n : Nat) : Nat → Option Int
 | 0 => some 1
 | c + 1 => (denI k s n c).bind fun D => (impl_gcd.f k D (s.M (s.ld.getD c 0).toNat n).2).bind fun g => if g = 0 then none else some (wrap64 (wrap64 (Int.tdiv D g) * (s.M (s.ld.getD c 0).toNat n).2))
def numI (s : StI) (nb n : Nat) (bs : List Int) (D : Int) : Nat → List Int
 | 0 => List.replicate nb 0
 | c + 1 => (numI s nb n bs D c).set (bs.getD c 0).toNat (wrap64 ((s.M (s.ld.getD c 0).toNat n).1 * wrap64 (Int.tdiv D (s.M (s.ld.getD c 0).toNat n).2)))
theorem numI_len (s : StI) (nb n : Nat) (bs : List Int) (D : Int) : ∀ c, (numI s nb n bs D c).length = nb
 | 0 => List.length_replicate
 | c + 1 => by show ((numI s nb n bs D c).set _ _).length = nb; rw [List.length_set]; exact numI_len s nb n bs D c
def noLead (s : StI) (n : Nat) : Prop := ∃ c, c < n ∧ s.ld.getD c 0 = -1
def badI (s : StI) (m n : Nat) : Prop := ∃ x, n ≤ x ∧ x < m ∧ (s.M x n).1 ≠ 0
structure SolOk (br : List S115) (bs : List Int) (rows : List (List S147)) : Prop where
 m6 : rows.length ≤ 1023
 n6 : bs.length ≤ 1023
 b6 : br.length ≤ 1023
 row : ∀ row ∈ rows, row.length = bs.length + 1
 red : RedOk rows.length (bs.length + 1) bs.length (rowsM rows)
 len : (solI rows bs.length).ld.length = bs.length
 good : ¬ noLead (solI rows bs.length) bs.length → bs.length ≤ rows.length ∧ ∀ c, c < bs.length → 0 ≤ (solI rows bs.length).ld.getD c 0 ∧ (solI rows bs.length).ld.getD c 0 < (rows.length : Int) ∧ ((solI rows bs.length).M ((solI rows bs.length).ld.getD c 0).toNat bs.length).2 ≠ 0
 bar : ∀ c, c < bs.length → 0 ≤ bs.getD c 0 ∧ bs.getD c 0 < (br.length : Int)
open Classical in
noncomputable def impl_solveBars.f (k : Nat) (l0_0 : List S164) (l0_1 : List S115) (l1 : List S113) (l2 : List Int) : Option (List Int × Int × Bool) :=
 (impl_barRows.f k l0_0 l0_1 l1 l2).bind fun rows => if SolOk l0_1 l2 rows then (if noLead (solI rows l2.length) l2.length then some ([], 0, false) else if badI (solI rows l2.length) rows.length l2.length then some ([], 0, false) else
  (denI k (solI rows l2.length) l2.length l2.length).bind fun D => some (numI (solI rows l2.length) l0_1.length l2.length l2 D l2.length, D, true)) else none
theorem impl_solveBars.cases {k : Nat} {kn : List S164} {br : List S115} {ld : List S113} {bs : List Int} {r1 : List Int} {r2 : Int} {r3 : Bool} (h : impl_solveBars.f k kn br ld bs = some (r1, r2, r3)) : ∃ rows, impl_barRows.f k kn br ld bs = some rows ∧ SolOk br bs rows ∧ ((noLead (solI rows bs.length) bs.length ∧ r1 = [] ∧ r2 = 0 ∧ r3 = false) ∨
  (¬ noLead (solI rows bs.length) bs.length ∧ badI (solI rows bs.length) rows.length bs.length ∧ r1 = [] ∧ r2 = 0 ∧ r3 = false) ∨
  (¬ noLead (solI rows bs.length) bs.length ∧ ¬ badI (solI rows bs.length) rows.length bs.length ∧ denI k (solI rows bs.length) bs.length bs.length = some r2 ∧ r1 = numI (solI rows bs.length) br.length bs.length bs r2 bs.length ∧ r3 = true)) := by
 unfold impl_solveBars.f at h
 obtain ⟨rows, h0, h⟩ := Option.bind_eq_some_iff.mp h
 refine ⟨rows, h0, ?_⟩
 split at h
 ·rename_i h1
  refine ⟨h1, ?_⟩
  split at h
  ·rename_i h2
   simp at h
   exact .inl ⟨h2, h.1.symm ▸ rfl, h.2.1.symm, h.2.2⟩
  ·rename_i h2
   split at h
   ·rename_i h3
    simp at h
    exact .inr (.inl ⟨h2, h3, h.1.symm ▸ rfl, h.2.1.symm, h.2.2⟩)
   ·rename_i h3
    obtain ⟨D, h4, h5⟩ := Option.bind_eq_some_iff.mp h
    simp only [Option.some.injEq, Prod.mk.injEq] at h5
    obtain ⟨h6, h7, h8⟩ := h5; subst h7
    exact .inr (.inr ⟨h2, h3, h4, h6.symm, h8.symm⟩)
 ·cases h
theorem index_of (ld : List Int) (hl : ld.length ≤ 1024) : ∀ j i : Nat, i + j = ld.length → (∀ c, c < i → ld.getD c 0 ≠ -1) → ∃ r, slices_Index_int_int.l0 (j + 1) ld (-1) (ld.length : Int) (i : Int) = some r ∧ (0 ≤ r ↔ ∃ c, c < ld.length ∧ ld.getD c 0 = -1)
 | 0, i, hi, hn => by
  refine ⟨-1, ?_, ⟨fun h => by omega, fun ⟨c, h1, h2⟩ => absurd h2 (hn c (by omega))⟩⟩
  unfold slices_Index_int_int.l0
  rw [if_neg (by omega)]
 | j + 1, i, hi, hn => by
  unfold slices_Index_int_int.l0
  rw [if_pos (by omega), if_pos (by omega), if_pos (by omega)]
  have hrd : rd ld (i : Int) = ld.getD i 0 := by show ld.getD (Int.toNat (i : Int)) 0 = _; rw [Int.toNat_natCast]
  by_cases h : ld.getD i 0 = -1
  ·rw [if_pos (by rw [hrd, h])]
   exact ⟨i, rfl, ⟨fun _ => ⟨i, by omega, h⟩, fun _ => by omega⟩⟩
  ·rw [if_neg (by rw [hrd]; exact fun e => h e.symm), show wrap64 ((i : Int) + 1) = ((i + 1 : Nat) : Int) from by rw [show ((i + 1 : Nat) : Int) = (i : Int) + 1 from by omega]; unfold wrap64; omega]
   exact index_of ld hl j (i + 1) (by omega) (fun c hc => by
    by_cases he : c = i
    ·rw [he]; exact h
    ·exact hn c (by omega))
theorem contains_of (ld : List Int) (hl : ld.length ≤ 1024) : ∃ b, slices_Contains_int_int.f (ld.length + 1) ld (-1) = some b ∧ (b = true ↔ ∃ c, c < ld.length ∧ ld.getD c 0 = -1) := by
 obtain ⟨r, h1, h2⟩ := index_of ld hl ld.length 0 (by omega) (fun c hc => by omega)
 refine ⟨decide (r ≥ 0), ?_, ?_⟩
 ·unfold slices_Contains_int_int.f slices_Index_int_int.f
  rw [show ((0 : Nat) : Int) = 0 from rfl] at h1; rw [h1]
  rfl
 ·rw [decide_eq_true_iff]
  exact h2
def solveB.T17 : Bool × List (List Nat × List Nat) := (true, [([], []), ([0], [0]), ([], []), ([2], [2]), ([], []), ([3, 4], [3, 4]), ([1, 5], [1, 5]), ([], []), ([6, 7], [6, 7]), ([0, 1, 2, 3, 4, 5, 6, 7, 8], []), ([9, 8, 5, 0, 1, 2, 3, 4, 5, 6, 7, 8], [8, 9])])
def solveB.B17 : List Nat := [0, 1, 0, 4, 0, 28, 63, 0, 255, 511, 1023]
theorem solveB.tab17 : rtab .any (opsOf Try.f73 17) = solveB.T17 := by kernel_rfl
theorem solveB.bits17 : waitsOk solveB.T17.2 solveB.B17 = true := by kernel_rfl
theorem S_someN {α : Type} {d : Kd α} {e base : Nat} {w : World} {ok : Nat → Prop} {v : Value} {xs : List α} (h : Kd.S d e w base ok v xs) (hne : v.ownBlock ≠ none) : ∃ g c, v = .slice (some ⟨g, 0, none⟩) xs.length c := by
 obtain ⟨inner, ho⟩ := Kd.S_own h
 rcases ho.2 with ⟨hv, _⟩ | ⟨g, cap', cur, hv, _⟩
 ·rw [hv] at hne
  exact absurd rfl hne
 ·exact ⟨g, cap', hv⟩
theorem denI_some {k : Nat} {s : StI} {n b : Nat} {D : Int} (h : denI k s n b = some D) : ∀ c, c ≤ b → ∃ D, denI k s n c = some D := by
 induction b generalizing D with
 | zero =>
  intro c hc
  obtain rfl : c = 0 := by omega
  exact ⟨D, h⟩
 | succ b ih =>
  intro c hc
  by_cases he : c = b + 1
  ·rw [he]; exact ⟨D, h⟩
  ·simp only [denI] at h
   obtain ⟨D0, h0, _⟩ := Option.bind_eq_some_iff.mp h
   exact ih h0 c (by omega)
open Classical in
theorem impl_solveBars.calls (k : Nat) (A0_0 : Option Addr) (c0_0 : Nat) (l0_0 : List S164) (A0_1 : Option Addr) (c0_1 : Nat) (l0_1 : List S115) (A1 : Option Addr) (c1 : Nat) (l1 : List S113) (A2 : Option Addr) (c2 : Nat) (l2 : List Int) (r1 : List Int) (r2 : Int) (r3 : Bool) (w : World) (wA : Kd.C k164 w A0_0 l0_0.length l0_0) (zA : l0_0.length ≤ c0_0) (vA : Kd.C k115 w A0_1 l0_1.length l0_1) (yA : l0_1.length ≤ c0_1) (CB : Kd.C k113 w A1 l1.length l1) (IB : l1.length ≤ c1) (BB : Kd.C (Kd.int .i64) w A2 l2.length l2) (TA : l2.length ≤ c2) (h : impl_solveBars.f k l0_0 l0_1 l1 l2 = some (r1, r2, r3)) :
  Calls Try.prog 73 #[.agg #[.slice A0_0 l0_0.length c0_0, .slice A0_1 l0_1.length c0_1], .slice A1 l1.length c1, .slice A2 l2.length c2] w fun e w' => ∃ v0_ : Value, e = .returned (.tuple #[.agg #[v0_, .int .i64 r2], .bool r3]) ∧ Kd.R (Kd.int .i64) 2 w' w.heap.size (fun _ => True) v0_ r1 ∧ Below w.heap.size w w' := by
 have bC := Try.underlying25
 have aC := Try.underlying27
 have ZB := Try.underlying31
 have YB := Try.underlying35
 have MA := Try.underlying140
 have LA := Try.underlying142
 have KA := Try.underlying145
 have JA := Try.underlying147
 obtain ⟨rows, hbar, hok, hk⟩ := impl_solveBars.cases h
 clear h
 have SB := zQ wA
 have XB := zQ zA
 have RB := zQ vA
 have WB := zQ yA
 have QB := zQ CB
 have VB := zQ IB
 have YA := zQ BB
 have UB := zQ TA
 have HBAR := zQ hbar
 have HOK := zQ hok
 have hC := hok.m6
 have dC := hok.n6
 have rC := hok.b6
 obtain ⟨cb, hcn, hcb⟩ := contains_of (solI rows l2.length).ld (by rw [hok.len]; omega)
 rw [hok.len] at hcb
 have hgood := hok.good
 have hsl := hok.len
 obtain ⟨s, hs⟩ : ∃ z, solI rows l2.length = z := ⟨_, rfl⟩
 rw [hs] at hk hcn hcb hgood hsl
 have HS := zQ hs
 have HSL := zQ hsl
 clear wA zA vA yA CB IB BB TA hbar hok hs hsl
 by_cases hnl : noLead s l2.length
 ·obtain rfl : cb = true := hcb.mpr hnl
  clear hcb; have HCN := zQ hcn
  obtain ⟨rfl, rfl, rfl⟩ : r1 = [] ∧ r2 = 0 ∧ r3 = false := by
   rcases hk with h_ | h_ | h_
   ·exact h_.2
   ·exact absurd hnl h_.1
   ·exact absurd hnl h_.1
  clear hcn hgood hk; have HNL := zQ hnl; clear hnl
  go_enter Try.func73, Try.ntmps73
  go_wp2_with (first
   | ((with_reducible refine zd 3 ?_); refine zbx (N := 3) (cs := #[.slice A0_0 l0_0.length c0_0, .slice A0_1 l0_1.length c0_1]) (t := 27) ?_; intro g3 uA w1 WA xA; have HB1 := zQ xA; have B31 := zQ WA; clear WA xA uA)
   | ((with_reducible refine zd 6 ?_); refine zbx (N := 6) (cs := #[.slice none 0 0, .int .i64 0]) (t := 35) ?_; intro gr hgr w2 VA pA; have HB2 := zQ (below_step HB1.out pA); have BR2 := zQ VA; have B32 := zQ (blk_below B31.out pA); have GR := zQ (show w.heap.size ≤ gr from by rw [hgr]; exact below_size HB1.out); have cz0 : w2.cell? ⟨g3, 0, none⟩ = some (.slice A0_0 l0_0.length c0_0) := (blk_cell B32.out 0).trans rfl; have cz1 : w2.cell? ⟨g3, 1, none⟩ = some (.slice A0_1 l0_1.length c0_1) := (blk_cell B32.out 1).trans rfl; clear VA pA hgr)
   | (
     go_at_call 120; refine (impl_barRows.calls k A0_0 c0_0 l0_0 A0_1 c0_1 l0_1 A1 c1 l1 A2 c2 l2 rows _ (Kd.C_below SB.out HB2.out) XB.out (Kd.C_below RB.out HB2.out) WB.out (Kd.C_below QB.out HB2.out) VB.out (Kd.C_below YA.out HB2.out) UB.out HBAR.out).mono ?_; rintro e w3 ⟨v3, rfl, mA, gA, UA⟩; obtain ⟨gq, cq, ev3⟩ := S_someN gA mA; subst ev3;
      obtain ⟨rb, cp, htb, hrb⟩ := Tb.of_S (z := z147) (by decide) enc_147 gA (l2.length + 1) (by omega) HOK.out.row; have hgq := (Kd.S_R gA).1 gq (by simp [Value.ownBlock]); have HTB := zQ (show TbF (fun k => k = gq ∨ ∃ i, i < rows.length ∧ k = rb i) gq rows.length (l2.length + 1) rb cp (rowsM rows) w3 from ⟨htb.congr (fun i _ j _ => rfl), .inl rfl, fun i hi => .inr ⟨i, hi, rfl⟩, fun k hk => by rcases hk with rfl | ⟨i, hi, rfl⟩; exact Kd.S_lt gA k (by simp [Value.ownBlock]); exact htb.ltr (by show 0 < (l2.length + 1) * 2; omega) hi⟩); have HSG := zQ (show ∀ k, (k = gq ∨ ∃ i, i < rows.length ∧ k = rb i) → w2.heap.size ≤ k from fun k hk => by rcases hk with rfl | ⟨i, hi, rfl⟩; exact hgq; exact (hrb i hi).1);
      have HB23 := zQ UA; have HCQ := zQ (Kd.S_reads' gA).2.1; clear mA gA UA htb hrb hgq)
   | (go_at_call 121; have hred := reduceRows_calls w3 _ gq rows.length (l2.length + 1) l2.length cq rb cp (rowsM rows) (by omega) (by omega) (by omega) HTB.out HOK.out.red; rw [show redI rows.length (l2.length + 1) l2.length (rowsM rows) l2.length = s from HS.out] at hred; refine hred.mono ?_; clear hred; rintro e w4 ⟨v4, rb4, cp4, rfl, jA, NA, QA⟩; obtain ⟨A4, c4, ev4⟩ := Kd.R_slice jA; subst ev4; have HB24 := zQ (HB23.out.trans (QA.to_below w2.heap.size HSG.out (below_size HB23.out))); have HB4 := zQ (below_step HB2.out HB24.out); have BR4 := zQ (blk_below BR2.out HB24.out); have B34 := zQ (blk_below B32.out HB24.out); have HT4 := zQ NA; have EA := zQ jA; have H34 := zQ (show w2.heap.size ≤ w3.heap.size from below_size HB23.out); clear jA NA QA)
   | (go_at_call 122; refine (slices_Contains_int_int.calls (s.ld.length + 1) A4 c4 s.ld (-1) true _ (Kd.R_reads' EA.out).2.2 (Kd.R_reads' EA.out).2.1 HCN.out).mono ?_; rintro e w5 ⟨rfl, ⟨q5, rfl⟩⟩; have cr0 : w4.cell? ⟨gr, 0, none⟩ = some (.slice none 0 0) := (blk_cell BR4.out 0).trans rfl; have cr1 : w4.cell? ⟨gr, 1, none⟩ = some (.int .i64 0) := (blk_cell BR4.out 1).trans rfl; have fr0 := zfz BR4.out 0; have fr1 := zfz BR4.out 1))
  refine bodyPost_ret (results_ct rfl _ _ gr 35 #[.slice none 0 0, .int .i64 0] (0, 0) _ rfl (by refine zb ?_; refine blk_put (cs := #[.slice none 0 0, .int .i64 0]) ?_ 1 _ rfl; refine blk_put (cs := #[.slice none 0 0, .int .i64 0]) ?_ 0 _ rfl; refine zb ?_; exact BR4.out) Try.underlying35 rfl (by kernel_rfl)) rfl ?_
  exact ⟨_, by first | rfl | (simp; done), Kd.R_nil _ _ _ _ _, by repeat (first | (with_reducible first | exact HB4.out | apply pw_below_drewN | apply below_drew1 | refine below_set ?_ GR.out) | exact HB4.out)⟩
 ·obtain rfl : cb = false := by
   cases cb with
   | false => rfl
   | true => exact absurd (hcb.mp rfl) hnl
  clear hcb; have HCN := zQ hcn; have hgd := hgood hnl; have hnm := hgd.1; have HGD := zQ hgd.2
  have FB : (badI s rows.length l2.length ∧ r1 = [] ∧ r2 = 0 ∧ r3 = false) ∨ (¬ badI s rows.length l2.length ∧ denI k s l2.length l2.length = some r2 ∧ r1 = numI s l0_1.length l2.length l2 r2 l2.length ∧ r3 = true) := by
   rcases hk with h_ | h_ | h_
   ·exact absurd h_.1 hnl
   ·exact .inl h_.2
   ·exact .inr h_.2
  have HK2 := zQ FB; clear hcn hgood hgd hk FB hnl
  go_enter Try.func73, Try.ntmps73
  go_wp2_with (first
   | ((with_reducible refine zd 3 ?_); refine zbx (N := 3) (cs := #[.slice A0_0 l0_0.length c0_0, .slice A0_1 l0_1.length c0_1]) (t := 27) ?_; intro g3 uA w1 WA xA; have HB1 := zQ xA; have B31 := zQ WA; clear WA xA uA)
   | ((with_reducible refine zd 6 ?_); refine zbx (N := 6) (cs := #[.slice none 0 0, .int .i64 0]) (t := 35) ?_; intro gr hgr w2 VA pA; have HB2 := zQ (below_step HB1.out pA); have BR2 := zQ VA; have B32 := zQ (blk_below B31.out pA); have GR := zQ (show w.heap.size ≤ gr from by rw [hgr]; exact below_size HB1.out); have cz0 : w2.cell? ⟨g3, 0, none⟩ = some (.slice A0_0 l0_0.length c0_0) := (blk_cell B32.out 0).trans rfl; have cz1 : w2.cell? ⟨g3, 1, none⟩ = some (.slice A0_1 l0_1.length c0_1) := (blk_cell B32.out 1).trans rfl; clear VA pA hgr)
   | (
     go_at_call 120; refine (impl_barRows.calls k A0_0 c0_0 l0_0 A0_1 c0_1 l0_1 A1 c1 l1 A2 c2 l2 rows _ (Kd.C_below SB.out HB2.out) XB.out (Kd.C_below RB.out HB2.out) WB.out (Kd.C_below QB.out HB2.out) VB.out (Kd.C_below YA.out HB2.out) UB.out HBAR.out).mono ?_; rintro e w3 ⟨v3, rfl, mA, gA, UA⟩; obtain ⟨gq, cq, ev3⟩ := S_someN gA mA; subst ev3;
      obtain ⟨rb, cp, htb, hrb⟩ := Tb.of_S (z := z147) (by decide) enc_147 gA (l2.length + 1) (by omega) HOK.out.row; have hgq := (Kd.S_R gA).1 gq (by simp [Value.ownBlock]); have HTB := zQ (show TbF (fun k => k = gq ∨ ∃ i, i < rows.length ∧ k = rb i) gq rows.length (l2.length + 1) rb cp (rowsM rows) w3 from ⟨htb.congr (fun i _ j _ => rfl), .inl rfl, fun i hi => .inr ⟨i, hi, rfl⟩, fun k hk => by rcases hk with rfl | ⟨i, hi, rfl⟩; exact Kd.S_lt gA k (by simp [Value.ownBlock]); exact htb.ltr (by show 0 < (l2.length + 1) * 2; omega) hi⟩); have HSG := zQ (show ∀ k, (k = gq ∨ ∃ i, i < rows.length ∧ k = rb i) → w2.heap.size ≤ k from fun k hk => by rcases hk with rfl | ⟨i, hi, rfl⟩; exact hgq; exact (hrb i hi).1);
      have HB23 := zQ UA; have HCQ := zQ (Kd.S_reads' gA).2.1; clear mA gA UA htb hrb hgq)
   | (go_at_call 121; have hred := reduceRows_calls w3 _ gq rows.length (l2.length + 1) l2.length cq rb cp (rowsM rows) (by omega) (by omega) (by omega) HTB.out HOK.out.red; rw [show redI rows.length (l2.length + 1) l2.length (rowsM rows) l2.length = s from HS.out] at hred; refine hred.mono ?_; clear hred; rintro e w4 ⟨v4, rb4, cp4, rfl, jA, NA, QA⟩; obtain ⟨A4, c4, ev4⟩ := Kd.R_slice jA; subst ev4; have HB24 := zQ (HB23.out.trans (QA.to_below w2.heap.size HSG.out (below_size HB23.out))); have HB4 := zQ (below_step HB2.out HB24.out); have BR4 := zQ (blk_below BR2.out HB24.out); have B34 := zQ (blk_below B32.out HB24.out); have HT4 := zQ NA; have EA := zQ jA; have H34 := zQ (show w2.heap.size ≤ w3.heap.size from below_size HB23.out); clear jA NA QA)
   | (go_at_call 122; refine (slices_Contains_int_int.calls (s.ld.length + 1) A4 c4 s.ld (-1) false _ (Kd.R_reads' EA.out).2.2 (Kd.R_reads' EA.out).2.1 HCN.out).mono ?_; rintro e w5 ⟨rfl, ⟨q5, rfl⟩⟩; have cr0 : w4.cell? ⟨gr, 0, none⟩ = some (.slice none 0 0) := (blk_cell BR4.out 0).trans rfl; have cr1 : w4.cell? ⟨gr, 1, none⟩ = some (.int .i64 0) := (blk_cell BR4.out 1).trans rfl; have fr0 := zfz BR4.out 0; have fr1 := zfz BR4.out 1; obtain ⟨i0, GB, _, rA, _⟩ := info_parts info145; have hcut := cut_from (P := Try.prog) 140 145 .i64 Try.underlying140 GB 1 rA (some ⟨gq, 0, none⟩) rows.length cq (l2.length : Int) (by omega) (by omega); rw [Int.toNat_natCast] at hcut; obtain ⟨A5, hA5⟩ : ∃ z, (if cq = l2.length then some (⟨gq, 0, none⟩ : Addr) else (some (⟨gq, 0, none⟩ : Addr)).map (·.add (l2.length * 1))) = z := ⟨_, rfl⟩; rw [hA5] at hcut; have HA5 := zQ (show l2.length < rows.length → A5 = some ⟨gq, l2.length, none⟩ from fun h_ => by have := HCQ.out; rw [← hA5, if_neg (by omega)]; simp [Addr.add]; intro e_; rw [e_]; rfl); clear hA5 GB rA; have pn1 : (0 ≤ (l2.length : Int)) = True := eq_true (by omega); have pn2 : ((l2.length : Int) ≤ (rows.length : Int)) = True := eq_true (by omega)))
  go_loopw [35] (fun lB wr => ∃ (i : Nat), lB = .int .i64 (i : Int) ∧ i ≤ rows.length - l2.length ∧ Aside0 (∀ x, l2.length ≤ x → x < l2.length + i → (s.M x l2.length).1 = 0) ∧ Drawn0 w4 wr) (fun lB _ => (((rows.length - l2.length : Nat) : Int) - intOf lB).toNat)
  case atStart => exact ⟨0, by first | rfl | (simp; done), by omega, ⟨fun x h1 h2 => by omega⟩, by repeat (first | exact Drawn0.refl _ | apply Drawn0.step)⟩
  case round =>
   obtain ⟨i, rfl, hi, HZ, ⟨q6, rfl⟩⟩ := hrel
   by_cases him : i < rows.length - l2.length
   ·have hib : decide ((i : Int) < ((rows.length - l2.length : Nat) : Int)) = true := decide_eq_true (by omega)
    have hib' : decide (i < rows.length - l2.length) = true := decide_eq_true him; have p1 : (0 ≤ (i : Int)) = True := eq_true (by omega); have q1 : ((i : Int) < ((rows.length - l2.length : Nat) : Int)) = True := eq_true (by omega); have q2 : ((l2.length : Int) < ((l2.length + 1 : Nat) : Int)) = True := eq_true (by omega); have q2' : ((l2.length : Int) < (l2.length : Int) + 1) = True := eq_true (by omega); have e5 := HA5.out (by omega); subst e5
    have hni : l2.length + i < rows.length := by omega
    have co := HT4.out.t.o (l2.length + i) hni; have cx : w4.cell? ⟨rb4 (l2.length + i), l2.length * 2, none⟩ = some (.int .i64 (s.M (l2.length + i) l2.length).1) := HT4.out.x hni (by omega); obtain ⟨x, hx⟩ : ∃ x, (s.M (l2.length + i) l2.length).1 = x := ⟨_, rfl⟩; rw [hx] at cx; have HX := zQ hx; clear hx
    by_cases hz : x = 0
    ·have hzb : (x == 0) = true := beq_iff_eq.mpr hz
     have hzb' : (x != 0) = false := bne_eq_false_iff_eq.mpr hz; have HXZ := zQ hz; clear hz
     go_wp2
     go_roundw
     case rel => exact ⟨i + 1, by first | rfl | (simp; omega) | (congr 1; omega), by omega, ⟨fun y h1 h2 => by
      by_cases he : y = l2.length + i
      ·rw [he, HX.out]; exact HXZ.out
      ·exact HZ.out y h1 (by omega)⟩, by repeat (first | exact Drawn0.refl _ | apply Drawn0.step)⟩
     case measure => simp [intOf]; omega
    ·have hzb : (x == 0) = false := beq_eq_false_iff_ne.mpr hz
     have hzb' : (x != 0) = true := bne_iff_ne.mpr hz
     obtain ⟨rfl, rfl, rfl⟩ : r1 = [] ∧ r2 = 0 ∧ r3 = false := by
      rcases HK2.out with h_ | h_
      ·exact h_.2
      ·exact absurd ⟨l2.length + i, by omega, hni, by rw [HX.out]; exact hz⟩ h_.1
     clear hz
     go_wp2
     refine bodyPost_ret (results_ct rfl _ _ gr 35 #[.slice none 0 0, .int .i64 0] (0, 0) _ rfl (by refine zb ?_; refine blk_put (cs := #[.slice none 0 0, .int .i64 0]) ?_ 1 _ rfl; refine blk_put (cs := #[.slice none 0 0, .int .i64 0]) ?_ 0 _ rfl; refine zb ?_; exact BR4.out) Try.underlying35 rfl (by kernel_rfl)) rfl ?_
     exact ⟨_, by first | rfl | (simp; done), Kd.R_nil _ _ _ _ _, by repeat (first | (with_reducible first | exact HB4.out | apply pw_below_drewN | apply below_drew1 | refine below_set ?_ GR.out) | exact HB4.out)⟩
   ·have hib : decide ((i : Int) < ((rows.length - l2.length : Nat) : Int)) = false := decide_eq_false (by omega)
    have hib' : decide (i < rows.length - l2.length) = false := decide_eq_false him
    obtain rfl : i = rows.length - l2.length := by omega
    have iC : denI k s l2.length l2.length = some r2 ∧ r1 = numI s l0_1.length l2.length l2 r2 l2.length ∧ r3 = true := by
     rcases HK2.out with h_ | h_
     ·obtain ⟨x, h1, h2, h3⟩ := h_.1
      exact absurd (HZ.out x h1 (by omega)) h3
     ·exact h_.2
    obtain ⟨hden, rfl, rfl⟩ := iC; have HDEN := zQ hden; clear hden cr0 cr1 fr0 fr1; have HDS := zQ (fun c hc => denI_some HDEN.out c hc); have cz0 : w4.cell? ⟨g3, 0, none⟩ = some (.slice A0_0 l0_0.length c0_0) := (blk_cell B34.out 0).trans rfl; have cz1 : w4.cell? ⟨g3, 1, none⟩ = some (.slice A0_1 l0_1.length c0_1) := (blk_cell B34.out 1).trans rfl
    go_wp2_with (first
     | ((with_reducible refine zd 50 ?_); refine Kd.R_make (Kd.int .i64) (w0 := w4) w4.heap.size 2 ?hg (N := 50) ?hd 31 (.tmp 49) (.tmp 49) rfl (l0_1.length : Int) rfl rfl Try.underlying31 (.int .i64 0) 8 info2 rfl (by decide) (by omega) 0 (ok := fun k => w4.heap.size ≤ k) (okp := fun k => w4.heap.size ≤ k) rfl (fun _ hk => hk) (below_size (pw_below_drewN (Below.refl _ _) _)) (by omega) (by simp; omega) (pw_below_drewN (Below.refl _ _) _) (below_size (pw_below_drewN (Below.refl _ _) _)) ?_; (case hd => rfl); (case hg => rfl); intro v7 w7 dB LB jC cC; rw [Int.toNat_natCast] at dB; obtain ⟨A7, c7, ev7⟩ := Kd.R_slice dB; rw [List.length_replicate] at ev7; subst ev7; have HN7 := zQ dB; have HB47 := zQ LB; clear dB LB jC cC)
     | ((with_reducible refine zd 13 ?_); refine zbx (N := 13) (cs := #[.slice none 0 0, .int .i64 0]) (t := 35) ?_; intro gd hgd w8 GA qB; have GD := zQ (show w4.heap.size ≤ gd from by rw [hgd]; exact below_size HB47.out); have HN8 := zQ (Kd.R_below (R_tell (ok' := fun k => w4.heap.size ≤ k ∧ k ≠ gd) rfl HN7.out (fun k e h_ hb_ hl_ => ⟨h_, by rw [hgd]; exact Nat.ne_of_lt hl_⟩)) qB); have HB48 := zQ (below_step HB47.out qB); have BD8 := zQ GA; have cd0 : w8.cell? ⟨gd, 0, none⟩ = some (.slice none 0 0) := (blk_cell GA 0).trans rfl; have cd1 : w8.cell? ⟨gd, 1, none⟩ = some (.int .i64 0) := (blk_cell GA 1).trans rfl; have fd0 := zfz GA 0; have fd1 := zfz GA 1; clear GA qB hgd)
     | ((with_reducible refine gate_store (t := 35) (p := 13) rfl ?_); refine store_event (t := 35) (p := 13) (v := ?vo_w9) (w1 := (w8.setCell ⟨gd, 0, none⟩ (.slice A7 l0_1.length c7)).setCell ⟨gd, 1, none⟩ (.int .i64 1)) ?hg ?ho ?hn ?hr ?_; (case ho => rfl); (case hg => rfl); (case hn => rfl); (case hr => first | (go_simp; done) | (go_simp; rfl)); intro w9 cB; have BD9 := zQ (show w9.heap[gd]? = some (.cells #[.slice A7 l0_1.length c7, .int .i64 1] 35 (0, 0)) from by rw [cB]; exact blk_put (cs := #[.slice A7 l0_1.length c7, .int .i64 0]) (blk_put (cs := #[.slice none 0 0, .int .i64 0]) BD8.out 0 _ rfl) 1 _ rfl); have HN9 := zQ (show Kd.R (Kd.int .i64) 2 w9 w4.heap.size (fun k => w4.heap.size ≤ k ∧ k ≠ gd) (.slice A7 l0_1.length c7) (List.replicate l0_1.length 0) from by rw [cB]; exact Kd.R_far (p := ⟨gd, 1, none⟩) (Kd.R_far (p := ⟨gd, 0, none⟩) HN8.out (fun _ hk => hk.2) _) (fun _ hk => hk.2) _); have HB49 := zQ (show Below w4.heap.size w4 w9 from by rw [cB]; exact below_set (below_set HB48.out GD.out) GD.out); clear cB cd0 cd1 fd0 fd1))
    go_loopw [54] (fun kB wr => ∃ (c : Nat) (D : Int), kB = .int .i64 (c : Int) ∧ c ≤ l2.length ∧ Aside0 (denI k s l2.length c = some D) ∧ Aside0 (wr.heap[gd]? = some (.cells #[.slice A7 l0_1.length c7, .int .i64 D] 35 (0, 0))) ∧ Aside0 (Kd.R (Kd.int .i64) 2 wr w4.heap.size (fun k => w4.heap.size ≤ k ∧ k ≠ gd) (.slice A7 l0_1.length c7) (List.replicate l0_1.length 0)) ∧ Aside0 (Below w4.heap.size w4 wr)) (fun kB _ => ((l2.length : Int) - intOf kB).toNat)
    case atStart => exact ⟨0, 1, by first | rfl | (simp; done), by omega, ⟨rfl⟩, BD9, HN9, HB49⟩
    case round =>
     obtain ⟨c, D, rfl, hc, HD, BDc, HNc, HBc⟩ := hrel
     by_cases hcl : c < l2.length
     ·have hcb : decide ((c : Int) < (l2.length : Int)) = true := decide_eq_true (by omega)
      have hcb' : decide (c < l2.length) = true := decide_eq_true hcl; obtain ⟨l, hl⟩ : ∃ l, s.ld.getD c 0 = l := ⟨_, rfl⟩; have uA := HGD.out c hcl; rw [hl] at uA; obtain ⟨z1, z2, z3⟩ := uA; obtain ⟨q, rfl⟩ : ∃ q : Nat, l = (q : Int) := ⟨l.toNat, by omega⟩; rw [Int.toNat_natCast] at z3
      have hqm : q < rows.length := by omega
      obtain ⟨D2, hD2⟩ := HDS.out (c + 1) (by omega); have HDN := zQ hD2
      simp only [denI] at hD2
      rw [HD.out, Option.bind_some, hl, Int.toNat_natCast] at hD2; obtain ⟨g, hg, hD2⟩ := Option.bind_eq_some_iff.mp hD2
      have RA : g ≠ 0 := fun e_ => by rw [if_pos e_] at hD2; cases hD2
      rw [if_neg RA] at hD2; obtain ⟨d, hd⟩ : ∃ d, (s.M q l2.length).2 = d := ⟨_, rfl⟩; rw [hd] at hg hD2 z3; have HD2 := zQ (Option.some.inj hD2); have HG := zQ hg; have hgb : (g == 0) = false := beq_eq_false_iff_ne.mpr RA; have hgb' : (g != 0) = true := bne_iff_ne.mpr RA; have hgF : (g = 0) = False := eq_false RA; obtain ⟨mC, ea4, eB⟩ := Kd.at_int (Kd.C_below (Kd.R_reads' EA.out).2.2 HBc.out) (c : Int) (by omega) (by have := HSL.out; omega); subst ea4
      have hrd : rd s.ld (c : Int) = (q : Int) := by show s.ld.getD (Int.toNat (c : Int)) 0 = _; rw [Int.toNat_natCast]; exact hl
      rw [hrd, Int.toNat_natCast] at eB; have HTc := zQ (HT4.out.below (by omega) HBc.out); have co := HTc.out.t.o q hqm
      have cy : wr.cell? ⟨rb4 q, l2.length * 2 + 1, none⟩ = some (.int .i64 d) := by rw [← hd]; exact HTc.out.y hqm (by omega)
      have HL := zQ hl; have p1 : (0 ≤ (c : Int)) = True := eq_true (by omega); have q1 : ((c : Int) < (s.ld.length : Int)) = True := eq_true (by have := HSL.out; omega); have q1' : ((c : Int) < (l2.length : Int)) = True := eq_true (by omega); have p2 : (0 ≤ (q : Int)) = True := eq_true (by omega); have q3 : ((q : Int) < (rows.length : Int)) = True := eq_true (by omega); have q2 : ((l2.length : Int) < ((l2.length + 1 : Nat) : Int)) = True := eq_true (by omega); have q2' : ((l2.length : Int) < (l2.length : Int) + 1) = True := eq_true (by omega); clear hl z1 z2 z3 hD2 hg hd hrd RA
      go_wp2
      refine zs (fun w' => w'.cell? ⟨gd, 0, none⟩ = some (.slice A7 l0_1.length c7) ∧ w'.cell? ⟨gd, 1, none⟩ = some (.int .i64 D)) [10] 11 ⟨(blk_cell (blk_drew BDc.out) 0).trans rfl, (blk_cell (blk_drew BDc.out) 1).trans rfl⟩ (fun aA => ?_); refine with_tabW solveB.tab17 solveB.bits17 (fun HT_ HW_ => ?_)
      have BD20 := zQ (blk_drew BDc.out); have HN20 := zQ (Kd.R_drew HNc.out); have HB20 := zQ (below_drew1 HBc.out)
      generalize wr.drew = AB at BD20 HN20 HB20 aA ⊢
      refine zp 0 68 ?_
      refine zp 2 70 ?_
      refine zp 4 72 ?_
      refine zp 7 75 ?_
      refine zt 1 69 aA ?_
      refine zt 3 71 aA ?_
      refine zo 5 (some 73) (fun K hK => ?_)
      refine goes_ Try.func123 (by kernel_rfl) rfl #[.int .i64 D, .int .i64 d] (by rfl) rfl rfl (by (try simp only [List.map_toArray, List.map_cons, List.map_nil]); first | done | rfl) ?_
      with_reducible refine (impl_gcd.calls k D d g _ HG.out).mono ?_
      rintro e qA ⟨rfl, hb_⟩
      refine ⟨_, rfl, ?_⟩
      have BD21 := zQ (show qA.heap[gd]? = some (.cells #[.slice A7 l0_1.length c7, .int .i64 D] 35 (0, 0)) from by obtain ⟨q_, e_⟩ := hb_; rw [e_]; exact blk_drewN BD20.out q_); have HN21 := zQ (show Kd.R (Kd.int .i64) 2 qA w4.heap.size (fun k => w4.heap.size ≤ k ∧ k ≠ gd) (.slice A7 l0_1.length c7) (List.replicate l0_1.length 0) from by obtain ⟨q_, e_⟩ := hb_; rw [e_]; exact Kd.R_drewN HN20.out q_); have HB21 := zQ (show Below w4.heap.size w4 qA from by obtain ⟨q_, e_⟩ := hb_; rw [e_]; exact pw_below_drewN HB20.out q_); clear hb_
      refine hK.out _ _ ⟨(blk_cell BD21.out 0).trans rfl, (blk_cell BD21.out 1).trans rfl⟩ (fun aA => ?_)
      clear hK K
      refine zn 73 ?_
      refine zp 6 74 ?_
      refine zp 8 76 ?_
      refine zp 9 77 ?_
      refine last_ (i := 10) (N := none) (zm 11 2047) rfl rfl (one_of HT_.out (by kernel_rfl)) (by decide) (fun K hK => ?_)
      have cs0 : qA.cell? ⟨gd, 1, none⟩ = some (.int .i64 D) := (blk_cell BD21.out 1).trans rfl; have fs0 := zfz BD21.out 1
      refine skip_ (w1 := ?_) (by rfl) rfl ?_ ?_
      rotate_left
      ·go_simp
       rfl
      refine hK.out _ _ ?_
      clear hK K cs0 fs0
      refine done_ (done_of HT_.out (by kernel_rfl)) ?_
      generalize kA : qA.setCell ⟨gd, 1, none⟩ (.int .i64 (wrap64 (wrap64 (Int.tdiv D g) * d))) = FA
      rw [HD2.out] at kA; have BD22 := zQ (show FA.heap[gd]? = some (.cells #[.slice A7 l0_1.length c7, .int .i64 D2] 35 (0, 0)) from by rw [← kA]; exact blk_put (cs := #[.slice A7 l0_1.length c7, .int .i64 D]) BD21.out 1 _ rfl); have HN22 := zQ (show Kd.R (Kd.int .i64) 2 FA w4.heap.size (fun k => w4.heap.size ≤ k ∧ k ≠ gd) (.slice A7 l0_1.length c7) (List.replicate l0_1.length 0) from by rw [← kA]; exact Kd.R_far (p := ⟨gd, 1, none⟩) HN21.out (fun _ hk => hk.2) _); have HB22 := zQ (show Below w4.heap.size w4 FA from by rw [← kA]; exact below_set HB21.out GD.out); clear kA
      go_wp2
      go_roundw
      case rel => exact ⟨c + 1, D2, by first | rfl | (simp; omega) | (congr 1; omega), by omega, HDN, BD22, HN22, HB22⟩
      case measure => simp [intOf]; omega
     ·have hcb : decide ((c : Int) < (l2.length : Int)) = false := decide_eq_false (by omega)
      have hcb' : decide (c < l2.length) = false := decide_eq_false hcl
      obtain rfl : c = l2.length := by omega
      obtain rfl : r2 = D := Option.some.inj (HDEN.out.symm.trans HD.out)
      go_wp2
      go_loopw [81] (fun iB wr => ∃ (c : Nat), iB = .int .i64 (c : Int) ∧ c ≤ l2.length ∧ Aside0 (wr.heap[gd]? = some (.cells #[.slice A7 l0_1.length c7, .int .i64 r2] 35 (0, 0))) ∧ Aside0 (Kd.R (Kd.int .i64) 2 wr w4.heap.size (fun k => w4.heap.size ≤ k ∧ k ≠ gd) (.slice A7 l0_1.length c7) (numI s l0_1.length l2.length l2 r2 c)) ∧ Aside0 (Below w4.heap.size w4 wr)) (fun iB _ => ((l2.length : Int) - intOf iB).toNat)
      case atStart => exact ⟨0, by first | rfl | (simp; done), by omega, BDc, HNc, HBc⟩
      case round =>
       clear BDc HNc HBc HD hcb hcb' hc hcl; obtain ⟨c, rfl, hc, BDc, HNc, HBc⟩ := hrel
       by_cases hcl : c < l2.length
       ·have hcb : decide ((c : Int) < (l2.length : Int)) = true := decide_eq_true (by omega)
        have hcb' : decide (c < l2.length) = true := decide_eq_true hcl; obtain ⟨l, hl⟩ : ∃ l, s.ld.getD c 0 = l := ⟨_, rfl⟩; have uA := HGD.out c hcl; rw [hl] at uA; obtain ⟨z1, z2, z3⟩ := uA; obtain ⟨q, rfl⟩ : ∃ q : Nat, l = (q : Int) := ⟨l.toNat, by omega⟩; rw [Int.toNat_natCast] at z3
        have hqm : q < rows.length := by omega
        obtain ⟨kq, hkq⟩ : ∃ z, l2.getD c 0 = z := ⟨_, rfl⟩; have hqo := HOK.out.bar c hcl; rw [hkq] at hqo; obtain ⟨y1, y2⟩ := hqo; obtain ⟨x0, nB⟩ : ∃ d, (s.M q l2.length).1 = d := ⟨_, rfl⟩; obtain ⟨x1, bB⟩ : ∃ d, (s.M q l2.length).2 = d := ⟨_, rfl⟩; rw [bB] at z3; have hgb : (x1 == 0) = false := beq_eq_false_iff_ne.mpr z3; have hgF : (x1 = 0) = False := eq_false z3
        have HVAL := zQ (show (numI s l0_1.length l2.length l2 r2 c).set kq.toNat (wrap64 (x0 * wrap64 (Int.tdiv r2 x1))) = numI s l0_1.length l2.length l2 r2 (c + 1) from by
         simp only [numI]
         rw [hl, hkq, Int.toNat_natCast, nB, bB])
        obtain ⟨gn, rfl⟩ := R_someT HNc.out (by omega); have HGN := zQ (HNc.out.1 gn (by simp [Value.ownBlock])); obtain ⟨mC, ea4, eB⟩ := Kd.at_int (Kd.C_below (Kd.R_reads' EA.out).2.2 HBc.out) (c : Int) (by omega) (by have := HSL.out; omega); subst ea4
        have hrd : rd s.ld (c : Int) = (q : Int) := by show s.ld.getD (Int.toNat (c : Int)) 0 = _; rw [Int.toNat_natCast]; exact hl
        rw [hrd, Int.toNat_natCast] at eB; obtain ⟨sC, ea2, TA⟩ := Kd.at_int (Kd.C_below (Kd.C_below YA.out HB4.out) HBc.out) (c : Int) (by omega) (by omega); subst ea2
        have OA : rd l2 (c : Int) = kq := by show l2.getD (Int.toNat (c : Int)) 0 = _; rw [Int.toNat_natCast]; exact hkq
        rw [OA, Int.toNat_natCast] at TA; have HTc := zQ (HT4.out.below (by omega) HBc.out); have co := HTc.out.t.o q hqm
        have cx : wr.cell? ⟨rb4 q, l2.length * 2, none⟩ = some (.int .i64 x0) := by rw [← nB]; exact HTc.out.x hqm (by omega)
        have cy : wr.cell? ⟨rb4 q, l2.length * 2 + 1, none⟩ = some (.int .i64 x1) := by rw [← bB]; exact HTc.out.y hqm (by omega)
        have p1 : (0 ≤ (c : Int)) = True := eq_true (by omega); have q1 : ((c : Int) < (s.ld.length : Int)) = True := eq_true (by have := HSL.out; omega); have q1' : ((c : Int) < (l2.length : Int)) = True := eq_true (by omega); have p2 : (0 ≤ (q : Int)) = True := eq_true (by omega); have q3 : ((q : Int) < (rows.length : Int)) = True := eq_true (by omega); have q2 : ((l2.length : Int) < ((l2.length + 1 : Nat) : Int)) = True := eq_true (by omega); have q2' : ((l2.length : Int) < (l2.length : Int) + 1) = True := eq_true (by omega); have p4 : (0 ≤ kq) = True := eq_true y1; have q4 : (kq < (l0_1.length : Int)) = True := eq_true y2; clear hl z1 z2 z3 hkq hrd OA nB bB
        go_wp2_with (first
         | ((with_reducible refine zd 18 ?_); refine zbx (N := 18) (cs := #[.int .i64 0, .int .i64 0]) (t := 147) ?_; intro gp hgp IA iA tA; have GP := zQ (show w4.heap.size ≤ gp ∧ gd ≠ gp from by rw [hgp]; exact ⟨below_size HBc.out, Nat.ne_of_lt (blk_lt BDc.out)⟩); have HN10 := zQ (Kd.R_below (R_tell (ok' := fun k => (w4.heap.size ≤ k ∧ k ≠ gd) ∧ k ≠ gp) rfl HNc.out (fun k e h_ hb_ hl_ => ⟨h_, by rw [hgp]; exact Nat.ne_of_lt hl_⟩)) tA); have HB10 := zQ (below_step HBc.out tA); have BD10 := zQ (blk_below BDc.out tA); have BP10 := zQ iA; have cp0 : IA.cell? ⟨gp, 0, none⟩ = some (.int .i64 0) := (blk_cell iA 0).trans rfl; have cp1 : IA.cell? ⟨gp, 1, none⟩ = some (.int .i64 0) := (blk_cell iA 1).trans rfl; have fp0 := zfz iA 0; have fp1 := zfz iA 1; clear iA tA hgp)
         | ((with_reducible refine gate_store (t := 147) (p := 18) rfl ?_); refine store_event (t := 147) (p := 18) (v := ?vo_w11) (w1 := (IA.setCell ⟨gp, 0, none⟩ (.int .i64 x0)).setCell ⟨gp, 1, none⟩ (.int .i64 x1)) ?hg ?ho ?hn ?hr ?_; (case ho => rfl); (case hg => rfl); (case hn => rfl); (case hr => first | (go_simp; done) | (go_simp; rfl)); intro fA lA; have BP11 := zQ (show fA.heap[gp]? = some (.cells #[.int .i64 x0, .int .i64 x1] 147 (0, 0)) from by rw [lA]; exact blk_put (cs := #[.int .i64 x0, .int .i64 0]) (blk_put (cs := #[.int .i64 0, .int .i64 0]) BP10.out 0 _ rfl) 1 _ rfl); have BD11 := zQ (show fA.heap[gd]? = some (.cells #[.slice (some ⟨gn, 0, none⟩) l0_1.length c7, .int .i64 r2] 35 (0, 0)) from by rw [lA]; exact (Below.heap_setCell _ ⟨gp, 1, none⟩ _ gd GP.out.2).trans ((Below.heap_setCell _ ⟨gp, 0, none⟩ _ gd GP.out.2).trans BD10.out)); have HN11 := zQ (show Kd.R (Kd.int .i64) 2 fA w4.heap.size (fun k => (w4.heap.size ≤ k ∧ k ≠ gd) ∧ k ≠ gp) (.slice (some ⟨gn, 0, none⟩) l0_1.length c7) (numI s l0_1.length l2.length l2 r2 c) from by rw [lA]; exact Kd.R_far (p := ⟨gp, 1, none⟩) (Kd.R_far (p := ⟨gp, 0, none⟩) HN10.out (fun _ hk => hk.2) _) (fun _ hk => hk.2) _); have HB11 := zQ (show Below w4.heap.size w4 fA from by rw [lA]; exact below_set (below_set HB10.out GP.out.1) GP.out.1); clear lA cp0 cp1 fp0 fp1; have cp0 : fA.cell? ⟨gp, 0, none⟩ = some (.int .i64 x0) := (blk_cell BP11.out 0).trans rfl; have cp1 : fA.cell? ⟨gp, 1, none⟩ = some (.int .i64 x1) := (blk_cell BP11.out 1).trans rfl; have cd0 : fA.cell? ⟨gd, 0, none⟩ = some (.slice (some ⟨gn, 0, none⟩) l0_1.length c7) := (blk_cell BD11.out 0).trans rfl; have cd1 : fA.cell? ⟨gd, 1, none⟩ = some (.int .i64 r2) := (blk_cell BD11.out 1).trans rfl; obtain ⟨gC, fC⟩ := Kd.R_celln 0 HN11.out kq y1 y2; have HPUT := zQ (Kd.R_putn HN11.out kq (wrap64 (x0 * wrap64 (Int.tdiv r2 x1))))))
        go_region
        generalize sA : fA.setCell ⟨gn, kq.toNat, none⟩ _ = fB
        have HN12 := zQ (show Kd.R (Kd.int .i64) 2 fB w4.heap.size (fun k => w4.heap.size ≤ k ∧ k ≠ gd) (.slice (some ⟨gn, 0, none⟩) l0_1.length c7) (numI s l0_1.length l2.length l2 r2 (c + 1)) from by rw [← HVAL.out, ← sA]; exact Kd.R_mono HPUT.out (fun _ hk => hk.1)); have BD12 := zQ (show fB.heap[gd]? = some (.cells #[.slice (some ⟨gn, 0, none⟩) l0_1.length c7, .int .i64 r2] 35 (0, 0)) from by rw [← sA]; exact (Below.heap_setCell _ ⟨gn, kq.toNat, none⟩ _ gd (fun e_ => HGN.out.2 e_.symm)).trans BD11.out); have HB12 := zQ (show Below w4.heap.size w4 fB from by rw [← sA]; exact below_set HB11.out HGN.out.1); clear sA cp0 cp1 cd0 cd1 gC fC co cx cy TA eB
        go_wp2
        go_roundw
        case rel => exact ⟨c + 1, by first | rfl | (simp; omega) | (congr 1; omega), by omega, ⟨by (with_reducible repeat (first | refine blk_drewN ?_ _ | refine blk_drew ?_)); exact BD12.out⟩, ⟨by (with_reducible repeat (first | apply Kd.R_drewN | apply Kd.R_drew)); exact HN12.out⟩, ⟨by repeat (first | exact HB12.out | apply pw_below_drewN | apply below_drew1)⟩⟩
        case measure => simp [intOf]; omega
       ·have hcb : decide ((c : Int) < (l2.length : Int)) = false := decide_eq_false (by omega)
        have hcb' : decide (c < l2.length) = false := decide_eq_false hcl
        obtain rfl : c = l2.length := by omega
        have BRc := zQ (blk_below BR4.out HBc.out); have GLT := zQ (blk_lt BR4.out); have HBt := zQ (below_step HB4.out HBc.out); have cd0 : wr.cell? ⟨gd, 0, none⟩ = some (.slice A7 l0_1.length c7) := (blk_cell BDc.out 0).trans rfl; have cd1 : wr.cell? ⟨gd, 1, none⟩ = some (.int .i64 r2) := (blk_cell BDc.out 1).trans rfl; have cr0 : wr.cell? ⟨gr, 0, none⟩ = some (.slice none 0 0) := (blk_cell BRc.out 0).trans rfl; have cr1 : wr.cell? ⟨gr, 1, none⟩ = some (.int .i64 0) := (blk_cell BRc.out 1).trans rfl; have fr0 := zfz BRc.out 0; have fr1 := zfz BRc.out 1
        go_wp2
        refine bodyPost_ret (results_ct rfl _ _ gr 35 #[.slice A7 l0_1.length c7, .int .i64 r2] (0, 0) _ rfl (by refine zb ?_; refine blk_put (cs := #[.slice A7 l0_1.length c7, .int .i64 0]) ?_ 1 _ rfl; refine blk_put (cs := #[.slice none 0 0, .int .i64 0]) ?_ 0 _ rfl; refine zb ?_; exact BRc.out) Try.underlying35 rfl (by kernel_rfl)) rfl ?_
        exact ⟨_, by first | rfl | (simp; done), by (with_reducible repeat (first | apply Kd.R_alloc | apply Kd.R_drewN | apply Kd.R_drew)); exact Kd.R_lower (Kd.R_mono (Kd.R_far (p := ⟨gr, 1, none⟩) (Kd.R_far (p := ⟨gr, 0, none⟩) HNc.out (fun k hk => Nat.ne_of_gt (Nat.lt_of_lt_of_le GLT.out hk.1)) _) (fun k hk => Nat.ne_of_gt (Nat.lt_of_lt_of_le GLT.out hk.1)) _) (fun _ _ => trivial)) (below_size HB4.out), by repeat (first | (with_reducible first | exact HBt.out | apply pw_below_drewN | apply below_drew1 | refine below_set ?_ GR.out) | exact HBt.out)⟩

end
end Go.Proofs.Ytimjblgepbhoaaa.PStays

