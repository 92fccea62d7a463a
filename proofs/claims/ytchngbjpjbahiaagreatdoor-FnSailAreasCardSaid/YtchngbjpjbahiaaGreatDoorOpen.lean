/- Arguments opened, whatever their type: what reads as data is a value of a kind. No condition. -/
import Derived.Test.YtchngbjpjbahiaaGreatDoorWMore
import Derived.ChangeSlices
import Derived.ChangeArms
import Derived.Deep.Slices
import Derived.WideShapes
namespace Go.Proofs.YtchngbjpjbahiaaGreatDoor.Open
open Go.ChangeShapes Go.WideShapes Go.Deep Go.Proofs.YtchngbjpjbahiaaGreatDoorW.PrintWords
set_option linter.unusedVariables false
set_option linter.unusedSimpArgs false
/-- What reads at type t is of kind d, and its value is fit. -/
def Opens {α : Type} (P : Program) (t : TypeId) (d : Kd α) (fit : α → Prop) : Prop :=
  P.cellsOf t = d.sz ∧ ∀ {H : Type} {enc : TypeId × Value → H} {w : World} {base : Nat} {spare : Nat → Bool} {held : Bool} {fuel : Nat} {cs : List Value} {x : DataW H × List MemPlace},
    DataW.trod enc P w base spare held fuel t cs = some x → ∃ a : α, d.K w a cs ∧ fit a
theorem Opens.int {P : Program} {t : TypeId} {k : IntKind} (ht : P.underlying t = some (.int k)) (hc : P.cellsOf t = 1) : Opens P t (Kd.int k) (fun n => (Lit.int k n).wf = true) :=
  ⟨hc, fun h => by
    obtain ⟨n, rfl, _, hw⟩ := DataW.trod_int ht h
    exact ⟨n, rfl, hw⟩⟩
theorem Opens.bool {P : Program} {t : TypeId} (ht : P.underlying t = some .bool) (hc : P.cellsOf t = 1) : Opens P t Kd.bool (fun _ => True) :=
  ⟨hc, fun h => by
    obtain ⟨n, rfl, _⟩ := DataW.trod_bool ht h
    exact ⟨n, rfl, trivial⟩⟩
theorem Opens.string {P : Program} {t : TypeId} (ht : P.underlying t = some .string) (hc : P.cellsOf t = 1) : Opens P t Kd.string (fun s => s.size ≤ maxLen) :=
  ⟨hc, fun h => by
    obtain ⟨n, rfl, _, hs⟩ := DataW.trod_string ht h
    exact ⟨n, rfl, hs⟩⟩
theorem Opens.slice {α : Type} {P : Program} {t e : TypeId} {d : Kd α} {fit : α → Prop} (ht : P.underlying t = some (.slice e)) (hc : P.cellsOf t = 1) (he : Opens P e d fit) :
    Opens P t (Kd.slice e d) (fun xs => xs.length ≤ maxLen ∧ ∀ x ∈ xs, fit x) :=
  ⟨hc, fun {H enc w base spare held fuel cs x} h => by
    rcases open_slice ht h with ⟨rfl, _⟩ | ⟨a, len, cap, m, n, D, Pl, rfl, _, hl, hm, hmm, _, hx⟩
    · exact ⟨[], ⟨none, 0, rfl, by simp, rfl, by simp, fun h => absurd h (by simp)⟩, by simp, by simp⟩
    · have hlm : len ≤ m := by rw [hmm]; split <;> omega
      have hX : ∀ i, i < len → ∃ y : α, (∃ c, w.cells? base (a.add (i * P.cellsOf e)) (P.cellsOf e) = some c ∧ d.K w y c) ∧ fit y := by
        intro i hi
        obtain ⟨c, h1, h2⟩ := hx i (by omega)
        obtain ⟨y, hy, hf⟩ := he.2 h2
        exact ⟨y, ⟨c, h1, hy⟩, hf⟩
      have hX2 : ∀ k, k ≤ len → ∃ ys : List α, ys.length = k ∧ ∀ i y, ys[i]? = some y → (∃ c, w.cells? base (a.add (i * P.cellsOf e)) (P.cellsOf e) = some c ∧ d.K w y c) ∧ fit y := by
        intro k
        induction k with
        | zero => intro _; exact ⟨[], rfl, fun i y h => by simp at h⟩
        | succ k ih =>
          intro hk
          obtain ⟨ys, hl', hy⟩ := ih (by omega)
          obtain ⟨y, hyk⟩ := hX k (by omega)
          refine ⟨ys ++ [y], by simp [hl'], fun i z hz => ?_⟩
          rcases Nat.lt_or_ge i ys.length with hi | hi
          · rw [List.getElem?_append_left hi] at hz
            exact hy i z hz
          · rw [List.getElem?_append_right hi] at hz
            have : i = k := by have := (List.getElem?_eq_some_iff.1 hz).1; simp at this; omega
            subst this
            simp [hl'] at hz
            subst hz
            exact hyk
      obtain ⟨ys, hyl, hy⟩ := hX2 len (Nat.le_refl _)
      have hlen : len ≤ 9223372036854775807 := by unfold maxLen at hm; omega
      refine ⟨ys, ⟨some a, cap, by rw [hyl], by omega, by rw [hyl], by omega, fun _ => ⟨a, rfl, fun j p hp => ?_⟩⟩, by omega, fun x hx => ?_⟩
      · obtain ⟨⟨c, h1, h2⟩, _⟩ := hy j p hp
        obtain ⟨_, h3, h4⟩ := World.cells?_some h1
        refine ⟨c, d.K_len h2, h2, fun i u hu => ?_⟩
        have hi : i < P.cellsOf e := by rw [← h3]; exact (List.getElem?_eq_some_iff.1 hu).1
        rw [← hu, ← h4 i hi, he.1, Go.Deep.add_add]
      · obtain ⟨i, hi⟩ := List.getElem?_of_mem hx
        exact (hy i x hi).2⟩
/-- The fields from one on, which begin at cell o. -/
structure OpensF {α : Type} (P : Program) (fs : List Field) (o : Nat) (d : Kd α) (fit : α → Prop) : Prop where
  go : ∀ {H : Type} {enc : TypeId × Value → H} {w : World} {base : Nat} {spare : Nat → Bool} {held : Bool} {n : Nat} {cs : List Value}, cs.length = o + d.sz →
    (∀ f ∈ fs, ∃ y, DataW.trod enc P w base spare held n f.type ((cs.drop f.offset).take (P.cellsOf f.type)) = some y) → ∃ a : α, d.K w a (cs.drop o) ∧ fit a
theorem OpensF.last {α : Type} {P : Program} {f : Field} {o : Nat} {d : Kd α} {fit : α → Prop} (ho : f.offset = o) (h : Opens P f.type d fit) : OpensF P [f] o d fit := by
  refine ⟨?_⟩
  intro H enc w base spare held n cs hl hf
  obtain ⟨y, hy⟩ := hf f (by simp)
  obtain ⟨a, ha, hfit⟩ := h.2 hy
  refine ⟨a, ?_, hfit⟩
  rw [ho, h.1, List.take_of_length_le (by rw [List.length_drop]; omega)] at ha
  exact ha
theorem OpensF.more {α β : Type} {P : Program} {f : Field} {fs : List Field} {o : Nat} {d : Kd α} {d' : Kd β} {fit : α → Prop} {fit' : β → Prop} (ho : f.offset = o) (h : Opens P f.type d fit) (hs : OpensF P fs (o + d.sz) d' fit') :
    OpensF P (f :: fs) o (Kd.pair d d') (fun x => fit x.1 ∧ fit' x.2) := by
  refine ⟨?_⟩
  intro H enc w base spare held n cs hl hf
  obtain ⟨y, hy⟩ := hf f (by simp)
  obtain ⟨a, ha, hfit⟩ := h.2 hy
  have hl2 : cs.length = o + (d.sz + d'.sz) := hl
  obtain ⟨b, hb, hfit'⟩ := hs.go (by omega) (fun g hg => hf g (by simp [hg]))
  refine ⟨(a, b), ⟨_, _, ?_, ha, hb⟩, hfit, hfit'⟩
  rw [ho, h.1, ← List.drop_drop, List.take_append_drop]
theorem Opens.struct {α β : Type} {P : Program} {t : TypeId} {fs : Array Field} {d : Kd α} {fit : α → Prop} {fit' : β → Prop} (ht : P.underlying t = some (.struct fs)) (hc : P.cellsOf t = d.sz) (hs : OpensF P fs.toList 0 d fit) (g : β → α) (g' : α → β) (hg : ∀ a, g (g' a) = a)
    (hfit : ∀ a, fit a → fit' (g' a)) : Opens P t (Kd.iso d g) fit' :=
  ⟨hc, fun {H enc w base spare held fuel cs x} h => by
    obtain ⟨xs, n, _, _, hl, hlen, hf⟩ := DataW.trod_struct ht h
    obtain ⟨a, ha, hfa⟩ := hs.go (cs := cs) (by omega) (fun f hm => by
      obtain ⟨i, hi⟩ := List.getElem?_of_mem hm
      have h1 := hf i f (by simpa using hi)
      have h2 : i < xs.length := by rw [hlen]; have := (List.getElem?_eq_some_iff.1 hi).1; simpa using this
      rw [List.getElem?_eq_getElem h2] at h1
      exact ⟨_, h1⟩)
    refine ⟨g' a, ?_, hfit a hfa⟩
    show d.K _ (g (g' a)) _
    rw [hg]
    exact ha⟩
/-- An argument: its cells. -/
theorem Opens.arg {α : Type} {P : Program} {t : TypeId} {d : Kd α} {fit : α → Prop} (h : Opens P t d fit) {H : Type} {enc : TypeId × Value → H} {w : World} {base : Nat} {spare : Nat → Bool} {held : Bool} {v : Value} {x : DataW H} {ps : List MemPlace}
    (hd : DataW.Trod enc P w base spare held t v x ps) : ∃ a : α, d.K w a v.cells.toList ∧ fit a := by
  obtain ⟨fuel, hf⟩ := hd
  exact h.2 hf
theorem arg_slice {α : Type} {P : Program} {t e : TypeId} {d : Kd α} {fit : List α → Prop} {r : Reach} {base0 : Nat} {w : World} {v : Value} (ht : P.underlying t = some (.slice e)) (h : Opens P t (Kd.slice e d) fit) (hv : Value.okWide P w r base0 t v)
    {H : Type} {enc : TypeId × Value → H} {base : Nat} {spare : Nat → Bool} {held : Bool} {x : DataW H} {ps : List MemPlace} (hd : DataW.Trod enc P w base spare held t v x ps) :
    ∃ (xs : List α) (A : Option Addr) (c : Nat), v = .slice A xs.length c ∧ xs.length ≤ c ∧ Kd.C d w A xs.length xs ∧ fit xs := by
  obtain ⟨a, l, c, rfl⟩ := okWide_slice ht hv
  obtain ⟨xs, ⟨A, c', he, hl, hC⟩, hf⟩ := h.arg hd
  simp [Value.cells] at he
  obtain ⟨rfl, rfl, rfl⟩ := he
  exact ⟨xs, a, c, rfl, hl, hC, hf⟩
theorem arg_struct {α : Type} {P : Program} {t : TypeId} {fs : Array Field} {d : Kd α} {fit : α → Prop} {r : Reach} {base0 : Nat} {w : World} {v : Value} (ht : P.underlying t = some (.struct fs)) (h : Opens P t d fit) (hv : Value.okWide P w r base0 t v)
    {H : Type} {enc : TypeId × Value → H} {base : Nat} {spare : Nat → Bool} {held : Bool} {x : DataW H} {ps : List MemPlace} (hd : DataW.Trod enc P w base spare held t v x ps) :
    ∃ (a : α) (cs : List Value), v = .agg cs.toArray ∧ d.K w a cs ∧ fit a := by
  obtain ⟨cs, rfl, _⟩ := okWide_struct ht hv
  obtain ⟨a, ha, hf⟩ := h.arg hd
  exact ⟨a, cs.toList, by simp, by simpa [Value.cells] using ha, hf⟩
theorem arg_string {P : Program} {t : TypeId} {r : Reach} {base0 : Nat} {w : World} {v : Value} (ht : P.underlying t = some .string) (hc : P.cellsOf t = 1) (hv : Value.okWide P w r base0 t v)
    {H : Type} {enc : TypeId × Value → H} {base : Nat} {spare : Nat → Bool} {held : Bool} {x : DataW H} {ps : List MemPlace} (hd : DataW.Trod enc P w base spare held t v x ps) : ∃ s : ByteArray, v = .string s ∧ s.size ≤ maxLen := by
  obtain ⟨s, rfl⟩ := okWide_string ht hv
  obtain ⟨a, ha, hf⟩ := (Opens.string ht hc).arg hd
  have he : [Value.string s] = [.string a] := ha
  simp at he
  subst he
  exact ⟨_, rfl, hf⟩
theorem arg_int {P : Program} {t : TypeId} {k : IntKind} {r : Reach} {base0 : Nat} {w : World} {v : Value} (ht : P.underlying t = some (.int k)) (hc : P.cellsOf t = 1) (hv : Value.okWide P w r base0 t v)
    {H : Type} {enc : TypeId × Value → H} {base : Nat} {spare : Nat → Bool} {held : Bool} {x : DataW H} {ps : List MemPlace} (hd : DataW.Trod enc P w base spare held t v x ps) : ∃ n : Int, v = .int k n ∧ (Lit.int k n).wf = true := by
  obtain ⟨s, rfl⟩ := okWide_int ht hv
  obtain ⟨a, ha, hf⟩ := (Opens.int ht hc).arg hd
  have he : [Value.int k s] = [.int k a] := ha
  simp at he
  subst he
  exact ⟨_, rfl, hf⟩
end Go.Proofs.YtchngbjpjbahiaaGreatDoor.Open
