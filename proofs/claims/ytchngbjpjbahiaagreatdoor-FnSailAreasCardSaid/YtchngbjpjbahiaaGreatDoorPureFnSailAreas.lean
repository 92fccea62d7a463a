import Derived.Test.YtchngbjpjbahiaaGreatDoorSayFnSailAreas
import Derived.Test.YtchngbjpjbahiaaGreatDoorPlain
namespace Go.Proofs.YtchngbjpjbahiaaGreatDoor.Pure
open Go.RowKit Go.Proofs.YtchngbjpjbahiaaGreatDoor.PSailz Go.Proofs.YtchngbjpjbahiaaGreatDoor.Plain Go.Proofs.YtchngbjpjbahiaaGreatDoorW.PrintWords
set_option linter.unusedVariables false
set_option linter.unusedSimpArgs false
open Go.Proofs.YtchngbjpjbahiaaGreatDoorW.PrintMore
/-! ### loops over lists -/
theorem mem_getD {α : Type} (l : List α) (z : α) (i : Nat) (h : i < l.length) : l.getD i z ∈ l := by
  rw [List.getD_eq_getElem?_getD, List.getElem?_eq_getElem h]; exact List.getElem_mem h
theorem all_loop {α : Type} (z : α) (p : α → Bool) (T : Nat → α → Option Bool) (F : Nat → Int → Option Bool) (l : List α) (hl : l.length < 9223372036854775807) (hT : ∀ x ∈ l, Ev (fun k => T k x) (p x))
    (hF : ∀ k x5, F (k + 1) x5 = if x5 < (l.length : Int) then (if 0 ≤ x5 then (if x5 < (l.length : Int) then ((T k (l.getD x5.toNat z)).bind fun t => (if t = true then (F k (wrap64 (x5 + 1))) else (some false))) else (none)) else (none)) else (some true)) :
    Ev (fun k => F k 0) (l.all p) := by
  refine loop_up' (fun k i => F k (i : Int)) l.length (l.all p) (fun i => (l.take i).all p = true) (fun i hi hI => ?_) (fun hI => ?_) l.length 0 (by omega) (by omega) (by simp)
  · have hm := hT _ (mem_getD l z i hi)
    cases hp : p (l.getD i z) with
    | true =>
      refine .inl ⟨?_, fun h => ?_⟩
      · rw [List.take_succ_eq_append_getElem hi, List.all_append, hI]
        rw [List.getD_eq_getElem?_getD, List.getElem?_eq_getElem hi] at hp
        simpa using hp
      · refine ev_step (fun k => hF k i) (ev_if_pos (by omega) (ev_if_pos (by omega) (ev_if_pos (by omega) ?_)))
        rw [Int.toNat_natCast]
        refine ev_bind hm (ev_if_pos hp ?_)
        rw [succ_cast i (by omega)]
        exact h
    | false =>
      refine .inr ?_
      refine ev_step (fun k => hF k i) (ev_if_pos (by omega) (ev_if_pos (by omega) (ev_if_pos (by omega) ?_)))
      rw [Int.toNat_natCast]
      refine ev_bind hm (ev_if_neg (by rw [hp]; decide) (ev_now fun _ => ?_))
      have : l.all p = false := by
        cases hq : l.all p with
        | false => rfl
        | true => rw [List.all_eq_true.mp hq _ (mem_getD l z i hi)] at hp; cases hp
      rw [this]
  · refine ev_end (fun k => ?_)
    show F (k + 1) _ = _
    rw [hF, if_neg (by omega)]
    simpa using hI.symm
theorem copyT_loop {α β : Type} (z : α) (zb : β) (f : α → β) (T : Nat → α → Option β) (F : Nat → List β → Int → Option (List β)) (l : List α) (hl : l.length < 9223372036854775807) (hT : ∀ x ∈ l, Ev (fun k => T k x) (f x))
    (hF : ∀ k x3 x4, F (k + 1) x3 x4 = if x4 < (l.length : Int) then (if 0 ≤ x4 then ((T k (l.getD x4.toNat z)).bind fun t => (if x4 < (x3.length : Int) then (F k (x3.set x4.toNat t) (wrap64 (x4 + 1))) else (none))) else (none)) else (some x3)) :
    Ev (fun k => F k (List.replicate l.length zb) 0) (l.map f) := by
  have h := loop_up' (fun k i => F k ((l.take i).map f ++ List.replicate (l.length - i) zb) (i : Int)) l.length (l.map f) (fun _ => True) (fun i hi _ => .inl ⟨trivial, fun h => by
    refine ev_step (fun k => hF k _ i) (ev_if_pos (by omega) (ev_if_pos (by omega) ?_))
    rw [Int.toNat_natCast]
    refine ev_bind (hT _ (mem_getD l z i hi)) (ev_if_pos (by simp; omega) ?_)
    have e : List.replicate (l.length - i) zb = zb :: List.replicate (l.length - (i + 1)) zb := by
      rw [← List.replicate_succ]; congr 1; omega
    rw [e, set_next _ _ _ _ (by simp; omega), succ_cast i (by omega)]
    have e2 : (l.take (i + 1)).map f = (l.take i).map f ++ [f (l.getD i z)] := by
      rw [List.take_succ_eq_append_getElem hi, List.map_append]
      simp [List.getD_eq_getElem?_getD, List.getElem?_eq_getElem hi]
    rw [← e2]
    exact h⟩) (fun _ => by
    refine ev_end (fun k => ?_)
    show F (k + 1) _ _ = _
    rw [hF, if_neg (by omega)]
    simp) l.length 0 (by omega) (by omega) trivial
  simpa using h
/-! ### drawn numbers -/
def bytes (l : List Int) : Prop := ∀ x ∈ l, 0 ≤ x ∧ x ≤ 255
theorem bytes_of {l : List Int} (h : ∀ x ∈ l, (Lit.int .u8 x).wf = true) : bytes l := fun x hx => wf_u8 (h x hx)
theorem rd_byte {l : List Int} (h : bytes l) (i : Int) (h0 : 0 ≤ i) (h1 : i < l.length) : 0 ≤ rd l i ∧ rd l i ≤ 255 := by
  obtain ⟨n, rfl⟩ := Int.eq_ofNat_of_zero_le h0
  have hn : n < l.length := by omega
  unfold rd
  rw [getD_nat, List.getD_eq_getElem?_getD, List.getElem?_eq_getElem hn]
  exact h _ (List.getElem_mem hn)
theorem and255 (x : Int) : 0 ≤ wrap64 (Go.bits .and .u64 (IntKind.u64.wrap x / 1099511627776) 255) ∧ wrap64 (Go.bits .and .u64 (IntKind.u64.wrap x / 1099511627776) 255) ≤ 255 := by
  have e : IntKind.u64.wrap x = x % 18446744073709551616 := by simp [IntKind.wrap, IntKind.bits, IntKind.signed]
  have hb : ∀ y : Int, 0 ≤ y → y < 16777216 → Go.bits .and .u64 y 255 = y % 256 := by
    intro y h0 h1
    exact Go.bits_mask .u64 24 (by decide) (fun n h0 h1 => by
      have : n < 16777216 := h1
      simp [IntKind.wrap, IntKind.bits, IntKind.signed]; omega) 8 (by decide) y h0 h1
  rw [e, hb _ (by omega) (by omega)]
  unfold wrap64
  omega
theorem next_ok {l : List Int} (h : bytes l) (a s : Int) (h0 : 0 ≤ a) (h1 : a ≤ 1000000000000000) : ∃ v s', spec_l00Src_next.f l a s = some (v, a + 1, s') ∧ 0 ≤ v ∧ v ≤ 255 := by
  unfold spec_l00Src_next.f
  rw [wrap_in (x := a + 1) (by omega) (by omega)]
  by_cases c1 : a < (l.length : Int)
  · rw [if_pos c1, if_pos h0]
    have hr := rd_byte h a h0 c1
    rw [if_pos (show a + 1 ≤ (l.length : Int) by omega)]
    exact ⟨_, _, rfl, by rw [wrap_in (by omega) (by omega)]; exact hr.1, by rw [wrap_in (by omega) (by omega)]; exact hr.2⟩
  · rw [if_neg c1]
    by_cases c2 : a + 1 ≤ (l.length : Int)
    · rw [if_pos c2]
      exact ⟨_, _, rfl, by omega, by omega⟩
    · rw [if_neg c2]
      exact ⟨_, _, rfl, (and255 _).1, (and255 _).2⟩
theorem pick_ok {l : List Int} (h : bytes l) (a s n : Int) (h0 : 0 ≤ a) (h1 : a ≤ 1000000000) : ∃ v a' s', spec_l00Src_pick.f l a s n = some (v, a', s') ∧ 0 ≤ v ∧ (v < n ∨ v = 0) ∧ a ≤ a' ∧ a' ≤ a + 2 := by
  unfold spec_l00Src_pick.f
  by_cases c : n ≤ 1
  · rw [if_pos c]
    exact ⟨0, a, s, rfl, by omega, .inr rfl, by omega, by omega⟩
  · rw [if_neg c]
    obtain ⟨v, s1, e1, b1, b2⟩ := next_ok h a s h0 (by omega)
    rw [e1]
    simp only [Option.bind_some]
    by_cases c2 : n > 200
    · rw [if_pos c2]
      obtain ⟨v2, s2, e2, d1, d2⟩ := next_ok h (a + 1) s1 (by omega) (by omega)
      rw [e2]
      simp only [Option.bind_some]
      rw [if_neg (by omega), wrap_in (x := v * 256) (by omega) (by omega), wrap_in (x := v * 256 + v2) (by omega) (by omega)]
      have m1 := Int.tmod_nonneg n (show 0 ≤ v * 256 + v2 by omega)
      have m2 := Int.tmod_lt_of_pos (v * 256 + v2) (show 0 < n by omega)
      exact ⟨_, _, _, rfl, m1, .inl m2, by omega, by omega⟩
    · rw [if_neg c2, if_neg (by omega)]
      have m1 := Int.tmod_nonneg n b1
      have m2 := Int.tmod_lt_of_pos v (show 0 < n by omega)
      exact ⟨_, _, _, rfl, m1, .inl m2, by omega, by omega⟩
theorem specIn (n a b : Int) : spec_l00In.f n a b = some (decide (a ≤ n ∧ n ≤ b)) := by
  unfold spec_l00In.f
  by_cases h1 : n ≥ a <;> by_cases h2 : n ≤ b <;> simp [h1, h2] <;> omega
theorem implIn (n a b : Int) : impl_within.f n a b = some (decide (a ≤ n ∧ n ≤ b)) := by
  unfold impl_within.f
  by_cases h1 : n ≥ a <;> by_cases h2 : n ≤ b <;> simp [h1, h2] <;> omega
/-! ### corners: the geometry -/
def crs (ax ay bx by_ cx cy : Int) : Int := (bx - ax) * (cy - ay) - (by_ - ay) * (cx - ax)
def inb (x : Int) : Prop := 0 ≤ x ∧ x ≤ 2000
theorem crs_bound {ax ay bx by_ cx cy : Int} (h1 : inb ax) (h2 : inb ay) (h3 : inb bx) (h4 : inb by_) (h5 : inb cx) (h6 : inb cy) : -8000000 ≤ crs ax ay bx by_ cx cy ∧ crs ax ay bx by_ cx cy ≤ 8000000 := by
  unfold inb at *
  have m1 := mul_bound (a := bx - ax) (b := cy - ay) (A := 2000) (B := 2000) (by omega) (by omega) (by omega) (by omega)
  have m2 := mul_bound (a := by_ - ay) (b := cx - ax) (A := 2000) (B := 2000) (by omega) (by omega) (by omega) (by omega)
  unfold crs
  omega
theorem specCross {ax ay bx by_ cx cy : Int} (h1 : inb ax) (h2 : inb ay) (h3 : inb bx) (h4 : inb by_) (h5 : inb cx) (h6 : inb cy) : spec_l13Cross.f ax ay bx by_ cx cy = some (crs ax ay bx by_ cx cy) := by
  have hb := crs_bound h1 h2 h3 h4 h5 h6
  unfold inb at *
  have m1 := mul_bound (a := bx - ax) (b := cy - ay) (A := 2000) (B := 2000) (by omega) (by omega) (by omega) (by omega)
  have m2 := mul_bound (a := by_ - ay) (b := cx - ax) (A := 2000) (B := 2000) (by omega) (by omega) (by omega) (by omega)
  unfold spec_l13Cross.f
  unfold crs at *
  rw [wrap_in (x := bx - ax) (by omega) (by omega), wrap_in (x := cy - ay) (by omega) (by omega), wrap_in (x := by_ - ay) (by omega) (by omega), wrap_in (x := cx - ax) (by omega) (by omega),
    wrap_in (x := (bx - ax) * (cy - ay)) (by omega) (by omega), wrap_in (x := (by_ - ay) * (cx - ax)) (by omega) (by omega), wrap_in (by omega) (by omega)]
theorem implTurn {ax ay bx by_ cx cy : Int} (h1 : inb ax) (h2 : inb ay) (h3 : inb bx) (h4 : inb by_) (h5 : inb cx) (h6 : inb cy) : impl_turnAt.f ax ay bx by_ cx cy = some (crs ax ay bx by_ cx cy) := by
  have hb := crs_bound h1 h2 h3 h4 h5 h6
  unfold inb at *
  have m1 := mul_bound (a := bx - ax) (b := cy - by_) (A := 2000) (B := 2000) (by omega) (by omega) (by omega) (by omega)
  have m2 := mul_bound (a := by_ - ay) (b := cx - bx) (A := 2000) (B := 2000) (by omega) (by omega) (by omega) (by omega)
  have e : (bx - ax) * (cy - by_) - (by_ - ay) * (cx - bx) = crs ax ay bx by_ cx cy := by unfold crs; grind
  unfold impl_turnAt.f
  rw [wrap_in (x := bx - ax) (by omega) (by omega), wrap_in (x := cy - by_) (by omega) (by omega), wrap_in (x := by_ - ay) (by omega) (by omega), wrap_in (x := cx - bx) (by omega) (by omega),
    wrap_in (x := (bx - ax) * (cy - by_)) (by omega) (by omega), wrap_in (x := (by_ - ay) * (cx - bx)) (by omega) (by omega), wrap_in (by omega) (by omega), e]
def btw (ax ay bx by_ cx cy : Int) : Bool := decide ((min ax bx ≤ cx ∧ cx ≤ max ax bx) ∧ (min ay by_ ≤ cy ∧ cy ≤ max ay by_))
def onb (ax ay bx by_ cx cy : Int) : Bool := decide (crs ax ay bx by_ cx cy = 0) && btw ax ay bx by_ cx cy
theorem spec_min (a b : Int) : spec_l00Min.f a b = some (min a b) := by unfold spec_l00Min.f; split <;> congr 1 <;> omega
theorem spec_max (a b : Int) : spec_l00Max.f a b = some (max a b) := by unfold spec_l00Max.f; split <;> congr 1 <;> omega
theorem mn_min (a b : Int) : mn a b = min a b := by unfold mn; split <;> omega
theorem mx_max (a b : Int) : mx a b = max a b := by unfold mx; split <;> omega
theorem specOn {ax ay bx by_ cx cy : Int} (h1 : inb ax) (h2 : inb ay) (h3 : inb bx) (h4 : inb by_) (h5 : inb cx) (h6 : inb cy) : spec_l13On.f ax ay bx by_ cx cy = some (onb ax ay bx by_ cx cy) := by
  unfold spec_l13On.f
  rw [specCross h1 h2 h3 h4 h5 h6]
  simp only [Option.bind_some, spec_min, spec_max, specIn]
  unfold onb btw
  by_cases h : crs ax ay bx by_ cx cy = 0
  · by_cases h' : min ax bx ≤ cx ∧ cx ≤ max ax bx
    · simp [h, h']
    · simp [h, h']
  · simp [h]
theorem implBetween (ax ay bx by_ cx cy : Int) : impl_between.f ax ay bx by_ cx cy = some (btw ax ay bx by_ cx cy) := by
  unfold impl_between.f
  simp only [Option.bind_some, mn_min, mx_max, implIn]
  unfold btw
  by_cases h' : min ax bx ≤ cx ∧ cx ≤ max ax bx
  · simp [h']
  · simp [h']
def opp (p q : Int) : Bool := decide (p < 0 ∧ q > 0 ∨ p > 0 ∧ q < 0)
def sid (ax ay bx by_ cx cy dx dy : Int) : Bool := opp (crs ax ay bx by_ cx cy) (crs ax ay bx by_ dx dy)
theorem specSides {ax ay bx by_ cx cy dx dy : Int} (h1 : inb ax) (h2 : inb ay) (h3 : inb bx) (h4 : inb by_) (h5 : inb cx) (h6 : inb cy) (h7 : inb dx) (h8 : inb dy) : spec_l13Sides.f ax ay bx by_ cx cy dx dy = some (sid ax ay bx by_ cx cy dx dy) := by
  unfold spec_l13Sides.f
  rw [specCross h1 h2 h3 h4 h5 h6, specCross h1 h2 h3 h4 h7 h8]
  simp only [Option.bind_some]
  unfold sid opp
  generalize crs ax ay bx by_ cx cy = p
  generalize crs ax ay bx by_ dx dy = q
  by_cases h : p < 0
  · by_cases h' : q > 0
    · simp [h, h']
    · have : ¬ p > 0 := by omega
      simp [h, h', this]
  · by_cases h' : p > 0
    · simp [h, h']
    · simp [h, h']
def mt (ax ay bx by_ cx cy dx dy : Int) : Bool := (onb ax ay bx by_ cx cy || onb ax ay bx by_ dx dy || onb cx cy dx dy ax ay || onb cx cy dx dy bx by_) || (sid ax ay bx by_ cx cy dx dy && sid cx cy dx dy ax ay bx by_)
theorem specMeet {ax ay bx by_ cx cy dx dy : Int} (h1 : inb ax) (h2 : inb ay) (h3 : inb bx) (h4 : inb by_) (h5 : inb cx) (h6 : inb cy) (h7 : inb dx) (h8 : inb dy) : Ev (fun k => spec_l13Meet.f k ax ay bx by_ cx cy dx dy) (mt ax ay bx by_ cx cy dx dy) := by
  have hj : ∀ t, Ev (fun k => spec_l13Meet.j0 k t ax ay bx by_ cx cy dx dy) (t || (sid ax ay bx by_ cx cy dx dy && sid cx cy dx dy ax ay bx by_)) := by
    intro t
    refine ev_end (fun k => ?_)
    simp only [spec_l13Meet.j0, specSides h1 h2 h3 h4 h5 h6 h7 h8, specSides h5 h6 h7 h8 h1 h2 h3 h4, Option.bind_some]
    cases t <;> cases sid ax ay bx by_ cx cy dx dy <;> simp
  unfold spec_l13Meet.f
  rw [specOn h1 h2 h3 h4 h5 h6, specOn h1 h2 h3 h4 h7 h8, specOn h5 h6 h7 h8 h1 h2, specOn h5 h6 h7 h8 h3 h4]
  simp only [Option.bind_some]
  unfold mt
  cases onb ax ay bx by_ cx cy
  · cases onb ax ay bx by_ dx dy
    · cases onb cx cy dx dy ax ay
      · simpa using hj (onb cx cy dx dy bx by_)
      · simpa using hj true
    · simpa using hj true
  · simpa using hj true
def sg (p : Int) : Int := if p > 0 then 1 else if p < 0 then -1 else 0
theorem implSign (p : Int) : impl_sign.f p = some (sg p) := by unfold impl_sign.f sg; split; rfl; split <;> rfl
theorem sg_opp (p q : Int) : decide (wrap64 (sg p * sg q) < 0) = opp p q := by
  have h1 : sg p = 1 ∧ p > 0 ∨ sg p = -1 ∧ p < 0 ∨ sg p = 0 ∧ p = 0 := by unfold sg; split; (left; omega); split <;> omega
  have h2 : sg q = 1 ∧ q > 0 ∨ sg q = -1 ∧ q < 0 ∨ sg q = 0 ∧ q = 0 := by unfold sg; split; (left; omega); split <;> omega
  unfold opp
  rw [Bool.eq_iff_iff]
  simp only [decide_eq_true_eq]
  rcases h1 with ⟨e1, h1⟩ | ⟨e1, h1⟩ | ⟨e1, h1⟩ <;> rcases h2 with ⟨e2, h2⟩ | ⟨e2, h2⟩ | ⟨e2, h2⟩ <;> rw [e1, e2] <;> (unfold wrap64) <;> omega
theorem implMeet {ax ay bx by_ cx cy dx dy : Int} (h1 : inb ax) (h2 : inb ay) (h3 : inb bx) (h4 : inb by_) (h5 : inb cx) (h6 : inb cy) (h7 : inb dx) (h8 : inb dy) : Ev (fun k => impl_edgesMeet.f k ax ay bx by_ cx cy dx dy) (mt ax ay bx by_ cx cy dx dy) := by
  have hj : ∀ (p q r s : Int) (t : Bool), Ev (fun k => impl_edgesMeet.j0 k p q r s t ax ay bx by_ cx cy dx dy) (t || ((decide (p = 0) && btw ax ay bx by_ cx cy) || (decide (q = 0) && btw ax ay bx by_ dx dy) || (decide (r = 0) && btw cx cy dx dy ax ay) || (decide (s = 0) && btw cx cy dx dy bx by_))) := by
    intro p q r s t
    refine ev_end (fun k => ?_)
    simp only [impl_edgesMeet.j0, implBetween, Option.bind_some]
    cases t
    · generalize btw ax ay bx by_ cx cy = b1
      generalize btw ax ay bx by_ dx dy = b2
      generalize btw cx cy dx dy ax ay = b3
      generalize btw cx cy dx dy bx by_ = b4
      by_cases hp : p = 0 <;> by_cases hq : q = 0 <;> by_cases hr : r = 0 <;> by_cases hs : s = 0 <;> simp only [hp, hq, hr, hs, if_true, if_false, decide_true, decide_false, Bool.true_and, Bool.false_and, Bool.false_or, Bool.or_false, Bool.false_eq_true] <;> cases b1 <;> cases b2 <;> cases b3 <;> simp
    · simp
  unfold impl_edgesMeet.f
  rw [implTurn h1 h2 h3 h4 h5 h6, implTurn h1 h2 h3 h4 h7 h8, implTurn h5 h6 h7 h8 h1 h2, implTurn h5 h6 h7 h8 h3 h4]
  simp only [Option.bind_some, implSign]
  unfold mt onb sid
  generalize crs ax ay bx by_ cx cy = p at *
  generalize crs ax ay bx by_ dx dy = q at *
  generalize crs cx cy dx dy ax ay = r at *
  generalize crs cx cy dx dy bx by_ = s at *
  have e1 := sg_opp p q
  have e2 := sg_opp r s
  by_cases hc : wrap64 (sg p * sg q) < 0
  · rw [decide_eq_true hc] at e1
    simp only [hc, if_true, ← e1, Bool.true_and]
    have := hj p q r s (decide (wrap64 (sg r * sg s) < 0))
    rw [e2] at this
    rw [← e2, e2, Bool.or_comm]
    exact this
  · rw [decide_eq_false hc] at e1
    simp only [hc, if_false, ← e1, Bool.false_and, Bool.or_false]
    simpa using hj p q r s false
/-! ### valid sails -/
def X (l : List S47) (i : Nat) : Int := (l.getD i z47).f0
def Y (l : List S47) (i : Nat) : Int := (l.getD i z47).f1
theorem rdX (l : List S47) (i : Nat) : (rd_T47 l (i : Int)).f0 = X l i := by simp [rd_T47, X]
theorem rdY (l : List S47) (i : Nat) : (rd_T47 l (i : Int)).f1 = Y l i := by simp [rd_T47, Y]
def inbox (l : List S47) : Prop := ∀ i, i < l.length → inb (X l i) ∧ inb (Y l i)
def nx (l : List S47) (i c : Nat) : Nat := (i + c) % l.length
theorem nx_lt (l : List S47) (i c : Nat) (h : 0 < l.length) : nx l i c < l.length := Nat.mod_lt _ h
def cr (l : List S47) (i : Nat) : Int := crs (X l i) (Y l i) (X l (nx l i 1)) (Y l (nx l i 1)) (X l (nx l i 2)) (Y l (nx l i 2))
def mtl (l : List S47) (i k : Nat) : Bool := mt (X l i) (Y l i) (X l (nx l i 1)) (Y l (nx l i 1)) (X l k) (Y l k) (X l (nx l k 1)) (Y l (nx l k 1))
def T (l : List S47) : Nat → Int
  | 0 => 0
  | i + 1 => wrap64 (T l i + wrap64 (wrap64 (X l i * Y l (nx l i 1)) - wrap64 (X l (nx l i 1) * Y l i)))
def tw (l : List S47) : Int := T l l.length
def V (l : List S47) : Prop := (3 ≤ l.length ∧ l.length ≤ 8) ∧ inbox l ∧ (∀ i, i < l.length → cr l i ≠ 0) ∧ (∀ i k, i + 2 ≤ k → k < l.length → (0 < i ∨ k < l.length - 1) → mtl l i k = false) ∧ 0 < tw l
open Classical in
noncomputable def Vb (l : List S47) : Bool := decide (V l)
theorem Vb_true {l : List S47} (h : V l) : Vb l = true := by unfold Vb; simp [h]
theorem Vb_false {l : List S47} (h : ¬ V l) : Vb l = false := by unfold Vb; simp [h]
theorem V_of {l : List S47} (h : Vb l = true) : V l := by unfold Vb at h; simpa using h
theorem specTwice (l : List S47) (hn : l.length < 9223372036854775000) : Ev (fun k => spec_l13Twice.f k l) (tw l) := by
  unfold spec_l13Twice.f
  refine loop_all (fun k i => spec_l13Twice.l0 k l (T l i) (i : Int)) l.length (tw l) (fun i hi k => ?_) (ev_end fun k => ?_)
  · show spec_l13Twice.l0 (k + 1) _ _ _ = spec_l13Twice.l0 k _ _ _
    simp only [spec_l13Twice.l0]
    have e : Int.tmod (wrap64 ((i : Int) + 1)) (l.length : Int) = ((nx l i 1 : Nat) : Int) := succ_mod i l.length (by omega) 1 (by omega)
    have hlt := nx_lt l i 1 (by omega)
    rw [e, if_pos (by omega), if_neg (by omega), if_pos (by omega), if_pos (by omega), if_pos (by omega), succ_cast i (by omega)]
    simp only [rdX, rdY]
    rfl
  · show spec_l13Twice.l0 (k + 1) _ _ _ = _
    simp only [spec_l13Twice.l0]
    rw [if_neg (by omega)]
    rfl
theorem implTwice (l : List S47) (hn : l.length < 9223372036854775000) : Ev (fun k => impl_twiceSail.f k l) (tw l) := by
  unfold impl_twiceSail.f
  refine loop_all (fun k i => impl_twiceSail.l0 k l (T l i) l (l.length : Int) (i : Int)) l.length (tw l) (fun i hi k => ?_) (ev_end fun k => ?_)
  · show impl_twiceSail.l0 (k + 1) _ _ _ _ _ = impl_twiceSail.l0 k _ _ _ _ _
    simp only [impl_twiceSail.l0]
    have e : Int.tmod (wrap64 ((i : Int) + 1)) (l.length : Int) = ((nx l i 1 : Nat) : Int) := succ_mod i l.length (by omega) 1 (by omega)
    have hlt := nx_lt l i 1 (by omega)
    rw [e, if_pos (by omega), if_pos (by omega), if_pos (by omega), if_neg (by omega), if_pos (by omega), if_pos (by omega), succ_cast i (by omega)]
    simp only [rdX, rdY]
    rfl
  · show impl_twiceSail.l0 (k + 1) _ _ _ _ _ = _
    simp only [impl_twiceSail.l0]
    rw [if_neg (by omega)]
    rfl
theorem specV1 (l : List S47) (h8 : 3 ≤ l.length ∧ l.length ≤ 8) (hb : inbox l) : Ev (fun k => spec_l13Ok.l1 k l (l.length : Int) 0) (Vb l) := by
  refine loop_up' (fun k i => spec_l13Ok.l1 k l (l.length : Int) (i : Int)) l.length (Vb l) (fun i => ∀ j, j < i → cr l j ≠ 0 ∧ ∀ q, j + 2 ≤ q → q < l.length → (0 < j ∨ q < l.length - 1) → mtl l j q = false) (fun i hi hI => ?_) (fun hI => ?_) _ 0 rfl (by omega) (fun j hj => by omega)
  · have e1 : Int.tmod (wrap64 ((i : Int) + 1)) (l.length : Int) = ((nx l i 1 : Nat) : Int) := succ_mod i l.length (by omega) 1 (by omega)
    have e2 : Int.tmod (wrap64 ((i : Int) + 2)) (l.length : Int) = ((nx l i 2 : Nat) : Int) := succ_mod i l.length (by omega) 2 (by omega)
    have hl1 := nx_lt l i 1 (by omega)
    have hl2 := nx_lt l i 2 (by omega)
    have w2 : wrap64 ((i : Int) + 2) = ((i + 2 : Nat) : Int) := by rw [wrap_in (by omega) (by omega)]; omega
    have b0 := hb i hi
    have b1 := hb _ hl1
    have b2 := hb _ hl2
    have one : ∀ k, spec_l13Ok.l1 (k + 1) l (l.length : Int) (i : Int) = if cr l i = 0 then some false else spec_l13Ok.l2 k l (l.length : Int) (i : Int) ((i + 2 : Nat) : Int) (X l i) (Y l i) (X l (nx l i 1)) (Y l (nx l i 1)) := by
      intro k
      simp only [spec_l13Ok.l1]
      rw [e1, e2, w2, if_pos (by omega), if_pos (by omega), if_pos (by omega), if_neg (by omega), if_pos (by omega), if_pos (by omega), if_pos (by omega), if_pos (by omega)]
      simp only [rdX, rdY]
      rw [specCross b0.1 b0.2 b1.1 b1.2 b2.1 b2.2]
      rfl
    by_cases hc : cr l i = 0
    · refine .inr (ev_eq (ev_end (fun k => by show spec_l13Ok.l1 (k + 1) _ _ _ = _; rw [one, if_pos hc])) (Vb_false (fun hV => hV.2.2.1 i hi hc)).symm)
    · -- the inner loop
      by_cases hall : ∀ q, i + 2 ≤ q → q < l.length → (0 < i ∨ q < l.length - 1) → mtl l i q = false
      · refine .inl ⟨fun j hj => ?_, fun hnext => ?_⟩
        · by_cases hji : j = i
          · subst hji; exact ⟨hc, hall⟩
          · exact hI j (by omega)
        · refine ev_step (fun k => by show spec_l13Ok.l1 (k + 1) _ _ _ = _; rw [one, if_neg hc]) ?_
          have fin : Ev (fun k => spec_l13Ok.l1 k l (l.length : Int) ((i + 1 : Nat) : Int)) (Vb l) := hnext
          have stop : ∀ q : Nat, l.length ≤ q → Ev (fun k => spec_l13Ok.l2 k l (l.length : Int) (i : Int) (q : Int) (X l i) (Y l i) (X l (nx l i 1)) (Y l (nx l i 1))) (Vb l) := by
            intro q hq
            refine ev_step (fun k => ?_) fin
            simp only [spec_l13Ok.l2]
            rw [if_neg (by omega), succ_cast i (by omega)]
          by_cases h2 : i + 2 ≤ l.length
          · refine loop_up' (fun k q => spec_l13Ok.l2 k l (l.length : Int) (i : Int) (q : Int) (X l i) (Y l i) (X l (nx l i 1)) (Y l (nx l i 1))) l.length (Vb l) (fun q => i + 2 ≤ q) (fun q hq hIq => ?_) (fun _ => stop _ (by omega)) _ (i + 2) rfl h2 (by omega)
            refine .inl ⟨by omega, fun hn2 => ?_⟩
            have hn3 : Ev (fun k => spec_l13Ok.l2 k l (l.length : Int) (i : Int) ((q + 1 : Nat) : Int) (X l i) (Y l i) (X l (nx l i 1)) (Y l (nx l i 1))) (Vb l) := hn2
            have e3 : Int.tmod (wrap64 ((q : Int) + 1)) (l.length : Int) = ((nx l q 1 : Nat) : Int) := succ_mod q l.length (by omega) 1 (by omega)
            have hl3 := nx_lt l q 1 (by omega)
            have bq := hb q hq
            have bq1 := hb _ hl3
            have meet : (0 < i ∨ q < l.length - 1) → Ev (fun k => (spec_l13Meet.f k (X l i) (Y l i) (X l (nx l i 1)) (Y l (nx l i 1)) (X l q) (Y l q) (X l (nx l q 1)) (Y l (nx l q 1))).bind fun t => (if t = true then (some false) else (spec_l13Ok.l2 k l (l.length : Int) (i : Int) ((q + 1 : Nat) : Int) (X l i) (Y l i) (X l (nx l i 1)) (Y l (nx l i 1))))) (Vb l) := by
              intro hcond
              have hm := specMeet b0.1 b0.2 b1.1 b1.2 bq.1 bq.2 bq1.1 bq1.2
              have hf : mt (X l i) (Y l i) (X l (nx l i 1)) (Y l (nx l i 1)) (X l q) (Y l q) (X l (nx l q 1)) (Y l (nx l q 1)) = false := hall q hIq hq hcond
              rw [hf] at hm
              exact ev_bind hm (ev_if_neg (by simp) hn3)
            by_cases hi0 : 0 < i
            · refine ev_step (fun k => ?_) (meet (.inl hi0))
              simp only [spec_l13Ok.l2]
              rw [e3, if_pos (by omega), if_pos (by omega), if_pos (by omega), if_pos (by omega), if_neg (by omega), if_pos (by omega), if_pos (by omega), succ_cast q (by omega)]
              simp only [rdX, rdY]
            · by_cases hq1 : q < l.length - 1
              · refine ev_step (fun k => ?_) (meet (.inr hq1))
                simp only [spec_l13Ok.l2]
                rw [e3, if_pos (by omega), if_neg (by omega), wrap_in (x := (l.length : Int) - 1) (by omega) (by omega), if_pos (by omega), if_pos (by omega), if_pos (by omega), if_neg (by omega), if_pos (by omega), if_pos (by omega), succ_cast q (by omega)]
                simp only [rdX, rdY]
              · refine ev_step (fun k => ?_) hn3
                simp only [spec_l13Ok.l2]
                rw [if_pos (by omega), if_neg (by omega), wrap_in (x := (l.length : Int) - 1) (by omega) (by omega), if_neg (by omega), succ_cast q (by omega)]
          · exact stop (i + 2) (by omega)
      · -- some edge is met
        have hV : Vb l = false := Vb_false (fun hV => hall (fun q h1 h2 h3 => hV.2.2.2.1 i q h1 h2 h3))
        refine .inr ?_
        refine ev_step (fun k => by show spec_l13Ok.l1 (k + 1) _ _ _ = _; rw [one, if_neg hc]) ?_
        have h2 : i + 2 ≤ l.length := by
          rcases Nat.lt_or_ge l.length (i + 2) with h | h
          · exact absurd (fun q h1 h2 _ => by omega) hall
          · exact h
        refine loop_up' (fun k q => spec_l13Ok.l2 k l (l.length : Int) (i : Int) (q : Int) (X l i) (Y l i) (X l (nx l i 1)) (Y l (nx l i 1))) l.length (Vb l) (fun q => i + 2 ≤ q ∧ ∀ p, i + 2 ≤ p → p < q → (0 < i ∨ p < l.length - 1) → mtl l i p = false) (fun q hq hIq => ?_) (fun hIn => absurd (fun q h1 h2 h3 => hIn.2 q h1 h2 h3) hall) _ (i + 2) rfl h2 ⟨by omega, fun p _ _ => by omega⟩
        have e3 : Int.tmod (wrap64 ((q : Int) + 1)) (l.length : Int) = ((nx l q 1 : Nat) : Int) := succ_mod q l.length (by omega) 1 (by omega)
        have hl3 := nx_lt l q 1 (by omega)
        have bq := hb q hq
        have bq1 := hb _ hl3
        have hm := specMeet b0.1 b0.2 b1.1 b1.2 bq.1 bq.2 bq1.1 bq1.2
        have hinc : (∀ hcond : (0 < i ∨ q < l.length - 1), mtl l i q = false) → (i + 2 ≤ q + 1 ∧ ∀ p, i + 2 ≤ p → p < q + 1 → (0 < i ∨ p < l.length - 1) → mtl l i p = false) := fun h => ⟨by omega, fun p h1 h2 h3 => by
          by_cases hpq : p = q
          · subst hpq; exact h h3
          · exact hIq.2 p h1 (by omega) h3⟩
        have form : (0 < i ∨ q < l.length - 1) → ∀ k, spec_l13Ok.l2 (k + 1) l (l.length : Int) (i : Int) (q : Int) (X l i) (Y l i) (X l (nx l i 1)) (Y l (nx l i 1)) = (spec_l13Meet.f k (X l i) (Y l i) (X l (nx l i 1)) (Y l (nx l i 1)) (X l q) (Y l q) (X l (nx l q 1)) (Y l (nx l q 1))).bind fun t => (if t = true then (some false) else (spec_l13Ok.l2 k l (l.length : Int) (i : Int) ((q + 1 : Nat) : Int) (X l i) (Y l i) (X l (nx l i 1)) (Y l (nx l i 1)))) := by
          intro hcond k
          by_cases hi0 : 0 < i
          · simp only [spec_l13Ok.l2]
            rw [e3, if_pos (by omega), if_pos (by omega), if_pos (by omega), if_pos (by omega), if_neg (by omega), if_pos (by omega), if_pos (by omega), succ_cast q (by omega)]
            simp only [rdX, rdY]
          · have hq1 : q < l.length - 1 := by omega
            simp only [spec_l13Ok.l2]
            rw [e3, if_pos (by omega), if_neg (by omega), wrap_in (x := (l.length : Int) - 1) (by omega) (by omega), if_pos (by omega), if_pos (by omega), if_pos (by omega), if_neg (by omega), if_pos (by omega), if_pos (by omega), succ_cast q (by omega)]
            simp only [rdX, rdY]
        by_cases hcond : 0 < i ∨ q < l.length - 1
        · cases hmv : mtl l i q with
          | true =>
            refine .inr (ev_eq (ev_step (fun k => form hcond k) (ev_bind hm ?_)) hV.symm)
            have : mt (X l i) (Y l i) (X l (nx l i 1)) (Y l (nx l i 1)) (X l q) (Y l q) (X l (nx l q 1)) (Y l (nx l q 1)) = true := hmv
            exact ev_if_pos this (ev_now fun _ => rfl)
          | false =>
            refine .inl ⟨hinc (fun _ => hmv), fun hn2 => ev_step (fun k => form hcond k) (ev_bind hm ?_)⟩
            have : ¬ mt (X l i) (Y l i) (X l (nx l i 1)) (Y l (nx l i 1)) (X l q) (Y l q) (X l (nx l q 1)) (Y l (nx l q 1)) = true := by
              have h5 : mt (X l i) (Y l i) (X l (nx l i 1)) (Y l (nx l i 1)) (X l q) (Y l q) (X l (nx l q 1)) (Y l (nx l q 1)) = false := hmv
              rw [h5]; simp
            exact ev_if_neg this hn2
        · refine .inl ⟨hinc (fun h => absurd h hcond), fun hn2 => ev_step (fun k => ?_) hn2⟩
          show spec_l13Ok.l2 (k + 1) l (l.length : Int) (i : Int) (q : Int) _ _ _ _ = _
          simp only [spec_l13Ok.l2]
          rw [if_pos (by omega), if_neg (by omega), wrap_in (x := (l.length : Int) - 1) (by omega) (by omega), if_neg (by omega), succ_cast q (by omega)]
  · refine ev_step (f := fun k => (spec_l13Twice.f k l).bind fun t154 => some (decide (t154 > 0))) (fun k => ?_) (ev_eq (ev_bind (specTwice l (by omega)) (ev_now fun _ => rfl)) ?_)
    · show spec_l13Ok.l1 (k + 1) _ _ _ = _
      simp only [spec_l13Ok.l1]
      rw [if_neg (by omega)]
    · have hall : V l ↔ 0 < tw l := ⟨fun h => h.2.2.2.2, fun h => ⟨h8, hb, fun i hi => (hI i hi).1, fun i k h1 h2 h3 => (hI i (by omega)).2 k h1 h2 h3, h⟩⟩
      by_cases h : 0 < tw l
      · rw [Vb_true (hall.2 h)]; exact decide_eq_true h
      · rw [Vb_false (fun hv => h (hall.1 hv))]; exact decide_eq_false h
theorem specV (l : List S47) (hn : l.length < 9223372036854775000) : Ev (fun k => spec_l13Ok.f k l) (Vb l) := by
  unfold spec_l13Ok.f
  rw [specIn]
  by_cases h8 : (3 : Int) ≤ (l.length : Int) ∧ (l.length : Int) ≤ 8
  · simp only [h8, and_self, decide_true, Option.bind_some, if_true]
    refine loop_up (fun k i => spec_l13Ok.l0 k l (l.length : Int) (i : Int)) l.length (Vb l) (fun i => ∀ j, j < i → inb (X l j) ∧ inb (Y l j)) (fun i hi hI => ?_) (fun hI => ?_) _ 0 rfl (by omega) (fun j hj => by omega)
    · by_cases h : inb (X l i) ∧ inb (Y l i)
      · refine .inl ⟨fun k => ?_, fun j hj => ?_⟩
        · show spec_l13Ok.l0 (k + 1) _ _ _ = spec_l13Ok.l0 k _ _ _
          have h1 := h.1
          have h2 := h.2
          unfold inb at h1 h2
          simp only [spec_l13Ok.l0, rdX, rdY, specIn]
          rw [if_pos (by omega), if_pos (by omega), if_pos (by omega), succ_cast i (by omega)]
          simp only [h1, h2, and_self, decide_true, Option.bind_some, if_true]
        · by_cases hji : j = i
          · subst hji; exact h
          · exact hI j (by omega)
      · refine .inr (ev_eq (ev_end (fun k => ?_)) (Vb_false (fun hV => h (hV.2.1 i hi))).symm)
        show spec_l13Ok.l0 (k + 1) _ _ _ = _
        simp only [spec_l13Ok.l0, rdX, rdY, specIn]
        rw [if_pos (by omega), if_pos (by omega), if_pos (by omega)]
        by_cases h1 : 0 ≤ X l i ∧ X l i ≤ 2000
        · have h2 : ¬ (0 ≤ Y l i ∧ Y l i ≤ 2000) := fun h2 => h ⟨h1, h2⟩
          simp only [h1, h2, and_self, decide_true, decide_false, Option.bind_some, if_true, if_false, Bool.false_eq_true]
        · simp only [h1, decide_false, Option.bind_some, if_false, Bool.false_eq_true]
    · refine ev_step (fun k => ?_) (specV1 l (by omega) (fun i hi => hI i hi))
      show spec_l13Ok.l0 (k + 1) _ _ _ = _
      simp only [spec_l13Ok.l0]
      rw [if_neg (by omega)]
  · simp only [h8, decide_false, Option.bind_some, if_false, Bool.false_eq_true]
    exact ev_eq (ev_now fun _ => rfl) (Vb_false (fun hV => h8 (by have := hV.1; omega))).symm

theorem implV2 (l : List S47) (h8 : 3 ≤ l.length ∧ l.length ≤ 8) (hb : inbox l) (hcr : ∀ i, i < l.length → cr l i ≠ 0) : Ev (fun k => impl_ValidSail.l2 k l (l.length : Int) (l.length : Int) 0) (Vb l) := by
  refine loop_up' (fun k i => impl_ValidSail.l2 k l (l.length : Int) (l.length : Int) (i : Int)) l.length (Vb l) (fun i => ∀ j, j < i → ∀ q, j + 2 ≤ q → q < l.length → (0 < j ∨ q < l.length - 1) → mtl l j q = false) (fun i hi hI => ?_) (fun hI => ?_) _ 0 rfl (by omega) (fun j hj => by omega)
  · have w2 : wrap64 ((i : Int) + 2) = ((i + 2 : Nat) : Int) := by rw [wrap_in (by omega) (by omega)]; omega
    have w1 : wrap64 ((i : Int) + 1) = ((i + 1 : Nat) : Int) := succ_cast i (by omega)
    have hl1 := nx_lt l i 1 (by omega)
    have b0 := hb i hi
    have b1 := hb _ hl1
    have one : ∀ k, impl_ValidSail.l2 (k + 1) l (l.length : Int) (l.length : Int) (i : Int) = impl_ValidSail.l3 k l (l.length : Int) (i : Int) ((i + 2 : Nat) : Int) (l.length : Int) (i : Int) := by
      intro k
      simp only [impl_ValidSail.l2]
      rw [w2, if_pos (by omega)]
    have skip : ∀ q : Nat, i + 2 ≤ q → q < l.length → ¬ (0 < i ∨ q < l.length - 1) → ∀ k, impl_ValidSail.l3 (k + 1) l (l.length : Int) (i : Int) (q : Int) (l.length : Int) (i : Int) = impl_ValidSail.l3 k l (l.length : Int) (i : Int) ((q + 1 : Nat) : Int) (l.length : Int) (i : Int) := by
      intro q hq1 hq hc k
      have e3 : Int.tmod (wrap64 ((q : Int) + 1)) (l.length : Int) = ((nx l q 1 : Nat) : Int) := succ_mod q l.length (by omega) 1 (by omega)
      have h0 : nx l q 1 = i := by
        have : q + 1 = l.length := by omega
        unfold nx
        rw [this, Nat.mod_self]; omega
      simp only [impl_ValidSail.l3]
      rw [e3, if_pos (by omega), if_neg (by omega), if_pos (by omega), succ_cast q (by omega)]
    have form : ∀ q : Nat, i + 2 ≤ q → q < l.length → (0 < i ∨ q < l.length - 1) → ∀ k, impl_ValidSail.l3 (k + 1) l (l.length : Int) (i : Int) (q : Int) (l.length : Int) (i : Int) =
        (impl_edgesMeet.f k (X l i) (Y l i) (X l (nx l i 1)) (Y l (nx l i 1)) (X l q) (Y l q) (X l (nx l q 1)) (Y l (nx l q 1))).bind fun t => (if t = true then (some false) else (impl_ValidSail.l3 k l (l.length : Int) (i : Int) ((q + 1 : Nat) : Int) (l.length : Int) (i : Int))) := by
      intro q hq1 hq hc k
      have e3 : Int.tmod (wrap64 ((q : Int) + 1)) (l.length : Int) = ((nx l q 1 : Nat) : Int) := succ_mod q l.length (by omega) 1 (by omega)
      have hl3 := nx_lt l q 1 (by omega)
      have h0 : nx l q 1 ≠ i := by
        unfold nx
        by_cases hq2 : q + 1 < l.length
        · rw [Nat.mod_eq_of_lt hq2]; omega
        · have : q + 1 = l.length := by omega
          rw [this, Nat.mod_self]; omega
      have h1 : nx l i 1 = i + 1 := Nat.mod_eq_of_lt (by omega)
      simp only [impl_ValidSail.l3]
      rw [e3, w1, if_pos (by omega), if_neg (by omega), if_neg (by omega), if_pos (by omega), if_pos (by omega), if_pos (by omega), if_pos (by omega), if_pos (by omega), if_pos (by omega), if_pos (by omega), if_pos (by omega), succ_cast q (by omega)]
      simp only [rdX, rdY]
      rw [h1]
    by_cases hall : ∀ q, i + 2 ≤ q → q < l.length → (0 < i ∨ q < l.length - 1) → mtl l i q = false
    · refine .inl ⟨fun j hj => ?_, fun hnext => ?_⟩
      · by_cases hji : j = i
        · subst hji; exact hall
        · exact hI j (by omega)
      · refine ev_step one ?_
        have fin : Ev (fun k => impl_ValidSail.l2 k l (l.length : Int) (l.length : Int) ((i + 1 : Nat) : Int)) (Vb l) := hnext
        have stop : ∀ q : Nat, l.length ≤ q → Ev (fun k => impl_ValidSail.l3 k l (l.length : Int) (i : Int) (q : Int) (l.length : Int) (i : Int)) (Vb l) := by
          intro q hq
          refine ev_step (fun k => ?_) fin
          simp only [impl_ValidSail.l3]
          rw [if_neg (by omega), w1]
        by_cases h2 : i + 2 ≤ l.length
        · refine loop_up' (fun k q => impl_ValidSail.l3 k l (l.length : Int) (i : Int) (q : Int) (l.length : Int) (i : Int)) l.length (Vb l) (fun q => i + 2 ≤ q) (fun q hq hIq => ?_) (fun _ => stop _ (by omega)) _ (i + 2) rfl h2 (by omega)
          refine .inl ⟨by omega, fun hn2 => ?_⟩
          have bq := hb q hq
          have bq1 := hb _ (nx_lt l q 1 (by omega))
          by_cases hcond : 0 < i ∨ q < l.length - 1
          · have hm := implMeet b0.1 b0.2 b1.1 b1.2 bq.1 bq.2 bq1.1 bq1.2
            have hf : mt (X l i) (Y l i) (X l (nx l i 1)) (Y l (nx l i 1)) (X l q) (Y l q) (X l (nx l q 1)) (Y l (nx l q 1)) = false := hall q hIq hq hcond
            rw [hf] at hm
            exact ev_step (form q hIq hq hcond) (ev_bind hm (ev_if_neg (by simp) hn2))
          · exact ev_step (skip q hIq hq hcond) hn2
        · exact stop (i + 2) (by omega)
    · have hV : Vb l = false := Vb_false (fun hV => hall (fun q h1 h2 h3 => hV.2.2.2.1 i q h1 h2 h3))
      refine .inr (ev_step one ?_)
      have h2 : i + 2 ≤ l.length := by
        rcases Nat.lt_or_ge l.length (i + 2) with h | h
        · exact absurd (fun q h1 h2 _ => by omega) hall
        · exact h
      refine loop_up' (fun k q => impl_ValidSail.l3 k l (l.length : Int) (i : Int) (q : Int) (l.length : Int) (i : Int)) l.length (Vb l) (fun q => i + 2 ≤ q ∧ ∀ p, i + 2 ≤ p → p < q → (0 < i ∨ p < l.length - 1) → mtl l i p = false) (fun q hq hIq => ?_) (fun hIn => absurd (fun q h1 h2 h3 => hIn.2 q h1 h2 h3) hall) _ (i + 2) rfl h2 ⟨by omega, fun p _ _ => by omega⟩
      have bq := hb q hq
      have bq1 := hb _ (nx_lt l q 1 (by omega))
      have hm := implMeet b0.1 b0.2 b1.1 b1.2 bq.1 bq.2 bq1.1 bq1.2
      have hinc : (∀ hcond : (0 < i ∨ q < l.length - 1), mtl l i q = false) → (i + 2 ≤ q + 1 ∧ ∀ p, i + 2 ≤ p → p < q + 1 → (0 < i ∨ p < l.length - 1) → mtl l i p = false) := fun h => ⟨by omega, fun p h1 h2 h3 => by
        by_cases hpq : p = q
        · subst hpq; exact h h3
        · exact hIq.2 p h1 (by omega) h3⟩
      by_cases hcond : 0 < i ∨ q < l.length - 1
      · cases hmv : mtl l i q with
        | true =>
          refine .inr (ev_eq (ev_step (form q hIq.1 hq hcond) (ev_bind hm ?_)) hV.symm)
          have : mt (X l i) (Y l i) (X l (nx l i 1)) (Y l (nx l i 1)) (X l q) (Y l q) (X l (nx l q 1)) (Y l (nx l q 1)) = true := hmv
          exact ev_if_pos this (ev_now fun _ => rfl)
        | false =>
          refine .inl ⟨hinc (fun _ => hmv), fun hn2 => ev_step (form q hIq.1 hq hcond) (ev_bind hm ?_)⟩
          have : ¬ mt (X l i) (Y l i) (X l (nx l i 1)) (Y l (nx l i 1)) (X l q) (Y l q) (X l (nx l q 1)) (Y l (nx l q 1)) = true := by
            have h5 : mt (X l i) (Y l i) (X l (nx l i 1)) (Y l (nx l i 1)) (X l q) (Y l q) (X l (nx l q 1)) (Y l (nx l q 1)) = false := hmv
            rw [h5]; simp
          exact ev_if_neg this hn2
      · exact .inl ⟨hinc (fun h => absurd h hcond), fun hn2 => ev_step (skip q hIq.1 hq hcond) hn2⟩
  · refine ev_step (f := fun k => (impl_twiceSail.f k l).bind fun t => some (decide (t > 0))) (fun k => ?_) (ev_eq (ev_bind (implTwice l (by omega)) (ev_now fun _ => rfl)) ?_)
    · show impl_ValidSail.l2 (k + 1) _ _ _ _ = _
      simp only [impl_ValidSail.l2]
      rw [if_neg (by omega)]
    · have hall : V l ↔ 0 < tw l := ⟨fun h => h.2.2.2.2, fun h => ⟨h8, hb, hcr, fun i k h1 h2 h3 => hI i (by omega) k h1 h2 h3, h⟩⟩
      by_cases h : 0 < tw l
      · rw [Vb_true (hall.2 h)]; exact decide_eq_true h
      · rw [Vb_false (fun hv => h (hall.1 hv))]; exact decide_eq_false h
theorem implV (l : List S47) (hn : l.length < 9223372036854775000) : Ev (fun k => impl_ValidSail.f k l) (Vb l) := by
  unfold impl_ValidSail.f
  by_cases h3 : (l.length : Int) < 3
  · exact ev_if_pos h3 (ev_eq (ev_end fun k => by simp only [impl_ValidSail.j0, if_true]) (Vb_false (fun hV => by have := hV.1; omega)).symm)
  · refine ev_if_neg h3 ?_
    by_cases h8 : (l.length : Int) > 8
    · simp only [h8, decide_true]
      exact ev_eq (ev_end fun k => by simp only [impl_ValidSail.j0, if_true]) (Vb_false (fun hV => by have := hV.1; omega)).symm
    · simp only [h8, decide_false]
      refine ev_step (f := fun k => impl_ValidSail.l0 k l (l.length : Int) l (l.length : Int) 0) (fun k => by simp only [impl_ValidSail.j0, if_false, Bool.false_eq_true]) ?_
      refine loop_up (fun k i => impl_ValidSail.l0 k l (l.length : Int) l (l.length : Int) (i : Int)) l.length (Vb l) (fun i => ∀ j, j < i → inb (X l j) ∧ inb (Y l j)) (fun i hi hI => ?_) (fun hI => ?_) _ 0 rfl (by omega) (fun j hj => by omega)
      · by_cases h : inb (X l i) ∧ inb (Y l i)
        · refine .inl ⟨fun k => ?_, fun j hj => ?_⟩
          · show impl_ValidSail.l0 (k + 1) _ _ _ _ _ = impl_ValidSail.l0 k _ _ _ _ _
            have h1 := h.1
            have h2 := h.2
            unfold inb at h1 h2
            simp only [impl_ValidSail.l0, rdX, rdY, implIn]
            rw [if_pos (by omega), if_pos (by omega), if_pos (by omega), succ_cast i (by omega)]
            simp only [h1, h2, and_self, decide_true, Option.bind_some, if_true]
          · by_cases hji : j = i
            · subst hji; exact h
            · exact hI j (by omega)
        · refine .inr (ev_eq (ev_end (fun k => ?_)) (Vb_false (fun hV => h (hV.2.1 i hi))).symm)
          show impl_ValidSail.l0 (k + 1) _ _ _ _ _ = _
          simp only [impl_ValidSail.l0, rdX, rdY, implIn]
          rw [if_pos (by omega), if_pos (by omega), if_pos (by omega)]
          by_cases h1 : 0 ≤ X l i ∧ X l i ≤ 2000
          · have h2 : ¬ (0 ≤ Y l i ∧ Y l i ≤ 2000) := fun h2 => h ⟨h1, h2⟩
            simp only [h1, h2, and_self, decide_true, decide_false, Option.bind_some, if_true, if_false, Bool.false_eq_true]
          · simp only [h1, decide_false, Option.bind_some, if_false, Bool.false_eq_true]
      · have hb : inbox l := fun i hi => hI i hi
        refine ev_step (f := fun k => impl_ValidSail.l1 k l (l.length : Int) (l.length : Int) 0) (fun k => ?_) ?_
        · show impl_ValidSail.l0 (k + 1) _ _ _ _ _ = _
          simp only [impl_ValidSail.l0]
          rw [if_neg (by omega)]
        · refine loop_up (fun k i => impl_ValidSail.l1 k l (l.length : Int) (l.length : Int) (i : Int)) l.length (Vb l) (fun i => ∀ j, j < i → cr l j ≠ 0) (fun i hi hI => ?_) (fun hI => ?_) _ 0 rfl (by omega) (fun j hj => by omega)
          · have e1 : Int.tmod (wrap64 ((i : Int) + 1)) (l.length : Int) = ((nx l i 1 : Nat) : Int) := succ_mod i l.length (by omega) 1 (by omega)
            have e2 : Int.tmod (wrap64 ((i : Int) + 2)) (l.length : Int) = ((nx l i 2 : Nat) : Int) := succ_mod i l.length (by omega) 2 (by omega)
            have hl1 := nx_lt l i 1 (by omega)
            have hl2 := nx_lt l i 2 (by omega)
            have b0 := hb i hi
            have b1 := hb _ hl1
            have b2 := hb _ hl2
            have one : ∀ k, impl_ValidSail.l1 (k + 1) l (l.length : Int) (l.length : Int) (i : Int) = if cr l i = 0 then some false else impl_ValidSail.l1 k l (l.length : Int) (l.length : Int) ((i + 1 : Nat) : Int) := by
              intro k
              simp only [impl_ValidSail.l1]
              rw [e1, e2, if_pos (by omega), if_pos (by omega), if_pos (by omega), if_neg (by omega), if_pos (by omega), if_pos (by omega), if_pos (by omega), if_pos (by omega), succ_cast i (by omega)]
              simp only [rdX, rdY]
              rw [implTurn b0.1 b0.2 b1.1 b1.2 b2.1 b2.2]
              rfl
            by_cases hc : cr l i = 0
            · exact .inr (ev_eq (ev_end (fun k => by show impl_ValidSail.l1 (k + 1) _ _ _ _ = _; rw [one, if_pos hc])) (Vb_false (fun hV => hV.2.2.1 i hi hc)).symm)
            · refine .inl ⟨fun k => by show impl_ValidSail.l1 (k + 1) _ _ _ _ = _; rw [one, if_neg hc], fun j hj => ?_⟩
              by_cases hji : j = i
              · subst hji; exact hc
              · exact hI j (by omega)
          · refine ev_step (fun k => ?_) (implV2 l (by omega) hb (fun i hi => hI i hi))
            show impl_ValidSail.l1 (k + 1) _ _ _ _ = _
            simp only [impl_ValidSail.l1]
            rw [if_neg (by omega)]
theorem make {n d : Int} (h0 : -9223372036854775807 ≤ n) (h1 : n ≤ 9223372036854775807) (h2 : 0 < d) (h3 : d ≤ 9223372036854775807) : Ev (fun k => spec_l01Make.f k n d) (lowest n d) :=
  make_ev spec_l00Gcd.l0 (fun _ _ _ => rfl) spec_l01Make.f (fun _ _ _ => rfl) h0 h1 h2 h3
theorem frac {n d : Int} (h0 : -9223372036854775807 ≤ n) (h1 : n ≤ 9223372036854775807) (h2 : 0 < d) (h3 : d ≤ 9223372036854775807) : Ev (fun k => impl_fraction.f k n d) (lowest n d) := by
  have := fraction_ev impl_gcd.l0 impl_gcd.j0 impl_gcd.f impl_fraction.f (fun _ _ _ => by simp only [impl_gcd.l0]) (fun _ _ _ => by simp only [impl_gcd.j0]) (fun _ _ _ => rfl) (fun _ _ _ => rfl) (n := n) (d := d) h0 h1 (by omega) (by omega) h3
  rwa [if_neg (by omega)] at this
/-! ### the parts of a text between bytes -/
def bs (l : List UInt8) : ByteArray := ⟨l.toArray⟩
theorem bs_size (l : List UInt8) : (bs l).size = l.length := by simp [bs, ByteArray.size]
theorem bs_app (a b : List UInt8) : bs a ++ bs b = bs (a ++ b) := by
  apply ByteArray.ext
  rw [ByteArray.data_append]
  simp [bs]
theorem bs_list (l : List UInt8) : (bs l).data.toList = l := by simp [bs]
theorem bs_of (b : ByteArray) : bs b.data.toList = b := by
  apply ByteArray.ext
  simp [bs]
theorem bs_inj {a b : List UInt8} (h : bs a = bs b) : a = b := by rw [← bs_list a, ← bs_list b, h]
theorem bs_tl (l : List UInt8) : (bs l).toList = l := by rw [Lib.toList_data, bs_list]
theorem bs_cut (l : List UInt8) (a b : Nat) : (bs l).extract a b = bs ((l.take b).drop a) := by
  apply ByteArray.ext
  apply Array.toList_inj.1
  rw [Lib.extract_data, bs_list, bs_list, List.drop_take]
theorem bs_bt (l : List UInt8) (i : Nat) (h : i < l.length) : bt (bs l) (i : Int) = ((l[i]'h).toNat : Int) := by
  have h1 : (i : Int).toNat < (bs l).size := by rw [bs_size]; omega
  rw [← bt_at (bs l) (i : Int) h1]
  rfl
def spA (c : UInt8) : List UInt8 → List UInt8 → List (List UInt8)
  | acc, [] => [acc]
  | acc, b :: l => if b = c then acc :: spA c [] l else spA c (acc ++ [b]) l
theorem spA_ne (c : UInt8) : ∀ (l acc : List UInt8), spA c acc l ≠ []
  | [], acc => by simp [spA]
  | b :: l, acc => by
    unfold spA
    split
    · simp
    · exact spA_ne c l _
theorem spA_acc (c : UInt8) : ∀ (l acc : List UInt8), spA c acc l = (acc ++ (spA c [] l).headD []) :: (spA c [] l).tail
  | [], acc => by simp [spA]
  | b :: l, acc => by
    unfold spA
    split
    · simp
    · rw [spA_acc c l (acc ++ [b]), spA_acc c l ([] ++ [b])]
      simp
theorem spA_len (c : UInt8) : ∀ (l acc : List UInt8), (spA c acc l).length ≤ l.length + 1
  | [], acc => by simp [spA]
  | b :: l, acc => by
    unfold spA
    split
    · have := spA_len c l []
      simp only [List.length_cons]; omega
    · have := spA_len c l (acc ++ [b])
      simp only [List.length_cons]; omega
theorem spA_mem (c : UInt8) : ∀ (l acc w : List UInt8), w ∈ spA c acc l → w.length ≤ acc.length + l.length
  | [], acc, w => by
    intro h
    simp only [spA, List.mem_singleton] at h
    subst h
    simp
  | b :: l, acc, w => by
    intro h
    unfold spA at h
    split at h
    · rcases List.mem_cons.1 h with h | h
      · subst h; omega
      · have := spA_mem c l [] w h
        simp only [List.length_cons, List.length_nil] at *; omega
    · have := spA_mem c l _ w h
      simp only [List.length_cons, List.length_append, List.length_nil] at *; omega
theorem splitS (c : UInt8) (s : List UInt8) (hs : s.length ≤ 1048576) : Ev (fun k => spec_l01Split.f k (bs s) (c.toNat : Int)) ((spA c [] s).map bs) := by
  unfold spec_l01Split.f
  have key : ∀ (m i fr : Nat) (xs : List (List UInt8)), s.length - i = m → i ≤ s.length → fr ≤ i → xs.length ≤ i → Ev (fun k => spec_l01Split.l0 k (bs s) (c.toNat : Int) (xs.map bs) (fr : Int) (i : Int)) ((xs ++ spA c ((s.take i).drop fr) (s.drop i)).map bs) := by
    intro m
    induction m with
    | zero =>
      intro i fr xs h1 h2 h3 h4
      obtain rfl : i = s.length := by omega
      refine ev_end fun k => ?_
      simp only [spec_l01Split.l0]
      rw [bs_size, if_neg (by omega), if_pos (by omega), if_pos (by omega), if_pos (by rw [List.length_map]; omega)]
      rw [show ((fr : Int)).toNat = fr from by omega, bs_cut]
      simp [spA]
    | succ m ih =>
      intro i fr xs h1 h2 h3 h4
      have hi : i < s.length := by omega
      have hb := bs_bt s i hi
      have hd : s.drop i = s[i] :: s.drop (i + 1) := List.drop_eq_getElem_cons hi
      by_cases e : s[i] = c
      · have hrec := ih (i + 1) (i + 1) (xs ++ [(s.take i).drop fr]) (by omega) (by omega) (by omega) (by simp; omega)
        refine ev_step (f := fun k => spec_l01Split.l0 k (bs s) (c.toNat : Int) ((xs ++ [(s.take i).drop fr]).map bs) ((i + 1 : Nat) : Int) ((i + 1 : Nat) : Int)) (fun k => ?_) ?_
        · simp only [spec_l01Split.l0]
          rw [bs_size, if_pos (by omega), if_pos (by omega), hb, e, if_pos rfl, if_pos (by omega), if_pos (by omega), if_pos (by omega), if_pos (by rw [List.length_map]; omega), succ_cast i (by omega)]
          rw [show ((fr : Int)).toNat = fr from by omega, show ((i : Int)).toNat = i from by omega, bs_cut, List.map_append]
          rfl
        · refine ev_eq hrec ?_
          congr 1
          rw [hd, spA, if_pos e, List.append_assoc, List.drop_eq_nil_of_le (i := i + 1) (by rw [List.length_take]; omega)]
          rfl
      · have hrec := ih (i + 1) fr xs (by omega) (by omega) (by omega) (by omega)
        refine ev_step (f := fun k => spec_l01Split.l0 k (bs s) (c.toNat : Int) (xs.map bs) (fr : Int) ((i + 1 : Nat) : Int)) (fun k => ?_) ?_
        · simp only [spec_l01Split.l0]
          rw [bs_size, if_pos (by omega), if_pos (by omega), hb, if_neg (fun h => e (UInt8.toNat_inj.1 (by omega))), succ_cast i (by omega)]
        · refine ev_eq hrec ?_
          congr 1
          rw [hd, spA, if_neg e]
          congr 2
          rw [List.take_succ_eq_append_getElem hi, List.drop_append_of_le_length (by rw [List.length_take]; omega)]
  have := key s.length 0 0 [] (by omega) (by omega) (by omega) (by simp)
  simpa using this
theorem index_cons (b c : UInt8) (l : List UInt8) : Lib.index (b :: l) [c] = if b = c then 0 else if Lib.index l [c] = -1 then -1 else Lib.index l [c] + 1 := by
  rw [Lib.index_one, Lib.index_one, Lib.indexByte]
  by_cases h : b = c
  · rw [if_pos h, if_pos (beq_iff_eq.2 h)]
  · rw [if_neg h, if_neg (fun e => h (beq_iff_eq.1 e))]
    by_cases h2 : Lib.indexByte l c = -1
    · rw [if_pos h2, if_pos (beq_iff_eq.2 h2)]
    · rw [if_neg h2, if_neg (fun e => h2 (beq_iff_eq.1 e))]
theorem splitK_sp (c : UInt8) : ∀ (s : List UInt8) (n : Nat), s.count c ≤ n → Lib.splitK [c] 0 n s = spA c [] s
  | [], n, _ => by
    cases n with
    | zero => rfl
    | succ n => rfl
  | b :: l, n, h => by
    by_cases e : b = c
    · subst e
      rw [List.count_cons_self] at h
      cases n with
      | zero => omega
      | succ n =>
        have ih := splitK_sp b l n (by omega)
        have hx : Lib.index (b :: l) [b] = 0 := by rw [index_cons, if_pos rfl]
        unfold Lib.splitK spA
        rw [hx, if_pos rfl, if_neg (by decide)]
        congr 1
    · rw [List.count_cons_of_ne (by simpa using e)] at h
      have ih := splitK_sp c l n h
      rw [spA, if_neg e, List.nil_append, spA_acc c l [b], ← ih]
      cases n with
      | zero => rfl
      | succ n =>
        have hx := index_cons b c l
        rw [if_neg e] at hx
        by_cases e2 : Lib.index l [c] = -1
        · rw [if_pos e2] at hx
          unfold Lib.splitK
          rw [hx, e2, if_pos (by decide), if_pos (by decide)]
          rfl
        · rw [if_neg e2] at hx
          have hge := Lib.index_ge l [c]
          obtain ⟨j, hj⟩ : ∃ j : Nat, Lib.index l [c] = j := ⟨(Lib.index l [c]).toNat, by omega⟩
          unfold Lib.splitK
          rw [hx, hj, if_neg (fun q => by have := beq_iff_eq.1 q; omega), if_neg (fun q => by have := beq_iff_eq.1 q; omega)]
          rw [show ((j : Int) + 1).toNat = j + 1 from by omega, show ((j : Int)).toNat = j from by omega]
          simp only [List.headD_cons, List.tail_cons, Nat.add_zero, List.take_succ_cons, List.singleton_append, List.length_singleton]
          rw [show j + 1 + 1 = (j + 1) + 1 from rfl, List.drop_succ_cons]
theorem splitI (c : UInt8) (s : List UInt8) (hs : s.length ≤ 1048576) : Ev (fun k => strings_Split.f k (bs s) (bs [c])) ((spA c [] s).map bs) := by
  refine ev_now fun k => ?_
  unfold strings_Split.f
  rw [bs_size, bs_size, if_pos ⟨by omega, by simp⟩]
  congr 1
  have h := Lib.splitB_data (bs [c]) 0 (Lib.countB (bs s) (bs [c])) (bs s)
  rw [bs_list, bs_list, splitK_sp c s _ (by unfold Lib.countB; rw [bs_list, bs_list, Lib.count_one]; exact Nat.le_refl _)] at h
  rw [← h, List.map_map]
  refine (List.map_id'' (fun b => ?_) _).symm
  exact bs_of b
theorem cutE (c : UInt8) : ∀ s : List UInt8, (spA c [] s = [s] ∧ Lib.cut s [c] = (s, [], false) ∧ c ∉ s) ∨ (∃ w t, spA c [] s = w :: spA c [] t ∧ Lib.cut s [c] = (w, t, true) ∧ w.length + t.length ≤ s.length)
  | [] => Or.inl ⟨rfl, rfl, by simp⟩
  | b :: l => by
    by_cases e : b = c
    · subst e
      refine Or.inr ⟨[], l, ?_, ?_, ?_⟩
      · rw [spA, if_pos rfl]
      · unfold Lib.cut
        rw [index_cons, if_pos rfl, if_pos (by decide)]
        rfl
      · simp
    · have hx := index_cons b c l
      rw [if_neg e] at hx
      have hge := Lib.index_ge l [c]
      rcases cutE c l with ⟨h1, h2, h3⟩ | ⟨w, t, h1, h2, h3⟩
      · refine Or.inl ⟨?_, ?_, ?_⟩
        · rw [spA, if_neg e, List.nil_append, spA_acc, h1]; rfl
        · have : Lib.index l [c] = -1 := by
            by_cases q : 0 ≤ Lib.index l [c]
            · unfold Lib.cut at h2
              rw [if_pos q] at h2
              simp at h2
            · omega
          unfold Lib.cut
          rw [hx, if_pos this, if_neg (by decide)]
        · intro h
          rcases List.mem_cons.1 h with h | h
          · exact e h.symm
          · exact h3 h
      · refine Or.inr ⟨b :: w, t, ?_, ?_, ?_⟩
        · rw [spA, if_neg e, List.nil_append, spA_acc, h1]; rfl
        · have q : 0 ≤ Lib.index l [c] := by
            by_cases q : 0 ≤ Lib.index l [c]
            · exact q
            · unfold Lib.cut at h2
              rw [if_neg q] at h2
              simp at h2
          obtain ⟨j, hj⟩ : ∃ j : Nat, Lib.index l [c] = j := ⟨(Lib.index l [c]).toNat, by omega⟩
          unfold Lib.cut at h2 ⊢
          rw [hj, if_pos (by omega)] at h2
          rw [hx, hj, if_neg (show ¬ (j : Int) = -1 by omega), if_pos (by omega)]
          simp only [Prod.mk.injEq] at h2 ⊢
          rw [show ((j : Int) + 1).toNat = j + 1 from by omega]
          rw [show ((j : Int)).toNat = j from by omega] at h2
          refine ⟨?_, ?_, trivial⟩
          · rw [List.take_succ_cons, h2.1]
          · rw [show j + 1 + [c].length = (j + [c].length) + 1 from by omega, List.drop_succ_cons, h2.2.1]
        · simp only [List.length_cons]; omega
theorem spA_in (c : UInt8) (t : List UInt8) (h : c ∈ t) : 2 ≤ (spA c [] t).length := by
  rcases cutE c t with ⟨_, _, h3⟩ | ⟨w, r, h1, _, _⟩
  · exact absurd h h3
  · rw [h1, List.length_cons]
    have := List.length_pos_iff.2 (spA_ne c r [])
    omega
theorem cut_in (c : UInt8) (t : List UInt8) {a b : List UInt8} (h : Lib.cut t [c] = (a, b, true)) : c ∈ t := by
  by_cases h2 : c ∈ t
  · exact h2
  · rcases cutE c t with ⟨_, h4, _⟩ | ⟨w, r, h4, _, _⟩
    · rw [h4] at h
      simp at h
    · have h5 := splitK_sp c t 0 (by rw [List.count_eq_zero.2 h2]; exact Nat.le_refl _)
      rw [h4] at h5
      have h6 := congrArg List.length h5
      have h7 := List.length_pos_iff.2 (spA_ne c r [])
      simp only [Lib.splitK, List.length_cons, List.length_nil] at h6
      omega
/-! ### numbers in decimal -/
def nums (xs : List Int) : List UInt8 := xs.map (fun n => UInt8.ofNat n.toNat)
def mns (x0 : Int) (l : List UInt8) : List UInt8 := if x0 < 0 then 45 :: l else l
theorem dec_step (x0 : Int) : ∀ (m u : Nat) (z : Int) (xs : List Int), u < 10 ^ m → 1 ≤ u → u < 1000000000000000000 → xs.length + m ≤ 100000 → (z = (u : Int) ∨ z = -(u : Int)) → Ev (fun k => spec_l01Dec.l0 k x0 xs z) (bs (mns x0 (Lib.decDigits u ++ nums xs))) := by
  intro m
  induction m with
  | zero => intro u z xs h1 h2; simp at h1; omega
  | succ m ih =>
    intro u z xs h1 h2 h3 h4 hz
    rw [Nat.pow_succ] at h1
    have e1 : Int.tmod z 10 = ((u % 10 : Nat) : Int) ∨ Int.tmod z 10 = -((u % 10 : Nat) : Int) := by
      rcases hz with rfl | rfl
      · left; rw [Int.tmod_eq_emod_of_nonneg (by omega)]; omega
      · right; rw [Int.neg_tmod, Int.tmod_eq_emod_of_nonneg (by omega)]; omega
    have e2 : Int.tdiv z 10 = ((u / 10 : Nat) : Int) ∨ Int.tdiv z 10 = -((u / 10 : Nat) : Int) := by
      rcases hz with rfl | rfl
      · left; rw [Int.tdiv_eq_ediv_of_nonneg (by omega)]; omega
      · right; rw [Int.neg_tdiv, Int.tdiv_eq_ediv_of_nonneg (by omega)]; omega
    have e3 : wrap64 (48 + ((u % 10 : Nat) : Int)) % 256 = ((48 + u % 10 : Nat) : Int) := by rw [wrap_in (by omega) (by omega)]; omega
    have e4 : wrap64 (Int.tdiv z 10) = Int.tdiv z 10 := wrap_in (by omega) (by omega)
    have hs : ∀ k, spec_l01Dec.l0 (k + 1) x0 xs z = spec_l01Dec.l0 k x0 (((48 + u % 10 : Nat) : Int) :: xs) (Int.tdiv z 10) := by
      intro k
      simp only [spec_l01Dec.l0]
      rw [if_neg (by omega), e4]
      by_cases hn : Int.tmod z 10 < 0
      · have e5 : wrap64 (-(Int.tmod z 10)) = ((u % 10 : Nat) : Int) := by rw [wrap_in (by omega) (by omega)]; omega
        rw [if_pos hn, e5, e3]
        simp only [Option.bind_some]
        rw [if_pos (by simp; omega)]
        rfl
      · have e5 : Int.tmod z 10 = ((u % 10 : Nat) : Int) := by omega
        rw [if_neg hn, e5, e3]
        simp only [Option.bind_some]
        rw [if_pos (by simp; omega)]
        rfl
    have e5 : nums (((48 + u % 10 : Nat) : Int) :: xs) = UInt8.ofNat (48 + u % 10) :: nums xs := by simp only [nums, List.map_cons, Int.toNat_natCast]
    refine ev_step hs ?_
    by_cases c : u < 10
    · have ez : Int.tdiv z 10 = 0 := by omega
      rw [ez]
      refine ev_end fun k => ?_
      have e6 : u % 10 = u := by omega
      have e7 : Lib.decDigits u ++ nums xs = nums (((48 + u % 10 : Nat) : Int) :: xs) := by rw [e5, e6, Lib.decDigits, dif_pos c]; rfl
      simp only [spec_l01Dec.l0]
      rw [if_pos trivial, if_neg (by simp; omega), e7]
      by_cases hx : x0 < 0
      · have e8 : (strOfNums (((48 + u % 10 : Nat) : Int) :: xs)) = bs (nums (((48 + u % 10 : Nat) : Int) :: xs)) := rfl
        rw [if_pos hx, mns, if_pos hx, e8, if_pos (by rw [bs_size]; simp [nums]; omega)]
        exact congrArg some (bs_app [45] _)
      · rw [if_neg hx, mns, if_neg hx]
        rfl
    · have := ih (u / 10) (Int.tdiv z 10) (((48 + u % 10 : Nat) : Int) :: xs) (by omega) (by omega) (by omega) (by simp; omega) e2
      rw [e5] at this
      rw [Lib.decDigits, dif_neg c, List.append_assoc]
      exact this
theorem decS (n : Int) (h0 : -1000000000000000000 < n) (h1 : n < 1000000000000000000) : Ev (fun k => spec_l01Dec.f k n) (bs (Lib.itoa n)) := by
  unfold spec_l01Dec.f
  by_cases c : n = 0
  · subst c
    refine ev_end fun k => ?_
    simp only [spec_l01Dec.l0]
    rw [if_pos trivial, if_pos (by simp)]
    unfold Lib.itoa
    rw [if_neg (by omega), Lib.decDigits, dif_pos (by simp)]
    rfl
  · have := dec_step n 18 n.natAbs n [] (by omega) (by omega) (by omega) (by simp) (by omega)
    refine ev_eq this ?_
    congr 1
    unfold mns Lib.itoa
    split
    · simp [nums]
    · rw [show n.natAbs = n.toNat from by omega]; simp [nums]
theorem decI (n : Int) (h0 : -1000000000000000000 < n) (h1 : n < 1000000000000000000) : Ev (fun k => impl_Decimal.f k n) (bs (Lib.itoa n)) := by
  refine ev_now fun k => ?_
  unfold impl_Decimal.f
  rw [if_pos (by omega)]
  rfl
/-! ### numbers read -/
def digs : List UInt8 → Nat → Option Nat
  | [], n => some n
  | b :: l, n => if 48 ≤ b.toNat ∧ b.toNat ≤ 57 then digs l (10 * n + (b.toNat - 48)) else none
def bare (s : List UInt8) : List UInt8 := if s.head? = some 45 then s.tail else s
def fin (s t : List UInt8) (n : Nat) : Int × Bool := if t.length < s.length then (if Lib.itoa (-(n : Int)) = s then (-(n : Int), true) else (0, false)) else (if Lib.itoa (n : Int) = s then ((n : Int), true) else (0, false))
def numV (s : List UInt8) : Int × Bool := if (bare s).length < 1 ∨ 18 < (bare s).length then (0, false) else match digs (bare s) 0 with
  | none => (0, false)
  | some n => fin s (bare s) n
theorem digs_mem : ∀ (l : List UInt8) (n r : Nat), digs l n = some r → ∀ b, b ∈ l → 48 ≤ b.toNat ∧ b.toNat ≤ 57
  | [], _, _, _, b, hb => by simp at hb
  | a :: l, n, r, h, b, hb => by
    unfold digs at h
    split at h
    · rcases List.mem_cons.1 hb with e | e
      · subst e; assumption
      · exact digs_mem l _ r h b e
    · simp at h
theorem numV_no (s : List UInt8) (c : UInt8) (hc : c.toNat = 44) (h : c ∈ s) : numV s = (0, false) := by
  have hm : c ∈ bare s := by
    unfold bare
    split
    · cases s with
      | nil => simp at h
      | cons b l =>
        rename_i hb
        rcases List.mem_cons.1 h with e | e
        · subst e
          simp only [List.head?_cons, Option.some.injEq] at hb
          rw [hb] at hc
          exact absurd hc (by decide)
        · exact e
    · exact h
  unfold numV
  split
  · rfl
  · split
    · rfl
    · rename_i n hn
      have := digs_mem _ _ _ hn c hm
      omega
theorem fin_ev (s t : List UInt8) (n : Nat) (hn : n < 1000000000000000000) (D : Nat → Int → Option ByteArray) (hD : ∀ z : Int, -1000000000000000000 < z → z < 1000000000000000000 → Ev (fun k => D k z) (bs (Lib.itoa z))) :
    Ev (fun k => if ((bs t).size : Int) < ((bs s).size : Int) then ((D k (wrap64 (-(n : Int)))).bind fun t182 => (if t182.toList = (bs s).toList then (some (wrap64 (-(n : Int)), true)) else (some (0, false)))) else ((D k (n : Int)).bind fun t183 => (if t183.toList = (bs s).toList then (some ((n : Int), true)) else (some (0, false))))) (fin s t n) := by
  unfold fin
  rw [bs_size, bs_size, wrap_in (by omega) (by omega)]
  by_cases c : t.length < s.length
  · rw [if_pos c]
    refine ev_if_pos (by omega) (ev_bind (hD _ (by omega) (by omega)) (ev_now fun k => ?_))
    rw [bs_tl, bs_tl]
    split <;> rfl
  · rw [if_neg c]
    refine ev_if_neg (by omega) (ev_bind (hD _ (by omega) (by omega)) (ev_now fun k => ?_))
    rw [bs_tl, bs_tl]
    split <;> rfl
def finO (s t : List UInt8) : Option Nat → Int × Bool
  | none => (0, false)
  | some n => fin s t n
theorem loop_num (s t : List UInt8) (ht : t.length ≤ 18) (L : Nat → Int → Int → Option (Int × Bool))
    (hend : ∀ n : Nat, n < 1000000000000000000 → Ev (fun k => L k (n : Int) (t.length : Int)) (fin s t n))
    (hbad : ∀ (n i : Nat) (h : i < t.length), ¬ (48 ≤ (t[i]'h).toNat ∧ (t[i]'h).toNat ≤ 57) → ∀ k, L (k + 1) (n : Int) (i : Int) = some (0, false))
    (hgo : ∀ (n i : Nat) (h : i < t.length), (48 ≤ (t[i]'h).toNat ∧ (t[i]'h).toNat ≤ 57) → n < 100000000000000000 → ∀ k, L (k + 1) (n : Int) (i : Int) = L k ((10 * n + ((t[i]'h).toNat - 48) : Nat) : Int) ((i + 1 : Nat) : Int)) :
    Ev (fun k => L k 0 0) (finO s t (digs t 0)) := by
  have key : ∀ (m i n : Nat), t.length - i = m → i ≤ t.length → n < 10 ^ i → Ev (fun k => L k (n : Int) (i : Int)) (finO s t (digs (t.drop i) n)) := by
    intro m
    induction m with
    | zero =>
      intro i n h1 h2 h3
      obtain rfl : i = t.length := by omega
      have hp : (10 : Nat) ^ t.length ≤ 10 ^ 18 := Nat.pow_le_pow_right (by decide) ht
      rw [List.drop_length]
      exact hend n (by omega)
    | succ m ih =>
      intro i n h1 h2 h3
      have hi : i < t.length := by omega
      have hp : (10 : Nat) ^ i ≤ 10 ^ 17 := Nat.pow_le_pow_right (by decide) (by omega)
      have hd : t.drop i = t[i] :: t.drop (i + 1) := List.drop_eq_getElem_cons hi
      rw [hd]
      unfold digs
      by_cases c : 48 ≤ t[i].toNat ∧ t[i].toNat ≤ 57
      · rw [if_pos c]
        exact ev_step (hgo n i hi c (by omega)) (ih (i + 1) _ (by omega) (by omega) (by rw [Nat.pow_succ]; omega))
      · rw [if_neg c]
        exact ev_end (hbad n i hi c)
  have := key t.length 0 0 (by omega) (by omega) (by simp)
  simpa using this
theorem numS_l (s t : List UInt8) (ht : t.length ≤ 18) : Ev (fun k => spec_l01Number.l0 k (bs s) (bs t) 0 0) (finO s t (digs t 0)) := by
  refine loop_num s t ht (fun k n i => spec_l01Number.l0 k (bs s) (bs t) n i) (fun n hn => ?_) (fun n i h c k => ?_) (fun n i h c hn k => ?_)
  · refine ev_step (fun k => ?_) (fin_ev s t n hn spec_l01Dec.f decS)
    simp only [spec_l01Number.l0]
    rw [if_neg (by rw [bs_size]; omega)]
  · simp only [spec_l01Number.l0]
    rw [if_pos (by rw [bs_size]; omega), if_pos (by omega), bs_bt t i h]
    unfold spec_l01Digit.f
    by_cases c1 : 48 ≤ (t[i]'h).toNat
    · rw [if_pos (by omega)]
      simp only [Option.bind_some]
      rw [if_neg (by simp; omega)]
    · rw [if_neg (by omega)]
      simp only [Option.bind_some]
      rw [if_neg (by simp)]
  · simp only [spec_l01Number.l0]
    rw [if_pos (by rw [bs_size]; omega), if_pos (by omega), bs_bt t i h]
    unfold spec_l01Digit.f
    rw [if_pos (by omega)]
    simp only [Option.bind_some]
    rw [if_pos (by simp; omega), succ_cast i (by omega)]
    have h2 : wrap64 (wrap64 (10 * (n : Int)) + (((t[i]'h).toNat : Int) - 48) % 256) = ((10 * n + ((t[i]'h).toNat - 48) : Nat) : Int) := by
      rw [wrap_in (x := 10 * (n : Int)) (by omega) (by omega), wrap_in (by omega) (by omega)]; omega
    rw [h2]
theorem numI_l (s t : List UInt8) (ht : t.length ≤ 18) : Ev (fun k => impl_ReadDecimal.l0 k (bs s) (bs t) 0 0) (finO s t (digs t 0)) := by
  refine loop_num s t ht (fun k n i => impl_ReadDecimal.l0 k (bs s) (bs t) n i) (fun n hn => ?_) (fun n i h c k => ?_) (fun n i h c hn k => ?_)
  · refine ev_step (fun k => ?_) (fin_ev s t n hn impl_Decimal.f decI)
    simp only [impl_ReadDecimal.l0]
    rw [if_neg (by rw [bs_size]; omega)]
  · simp only [impl_ReadDecimal.l0]
    rw [if_pos (by rw [bs_size]; omega), if_pos (by omega), bs_bt t i h]
    by_cases c1 : 48 ≤ (t[i]'h).toNat
    · rw [if_neg (by omega), if_pos (by omega)]
    · rw [if_pos (by omega)]
  · simp only [impl_ReadDecimal.l0]
    rw [if_pos (by rw [bs_size]; omega), if_pos (by omega), bs_bt t i h, if_neg (by omega), if_neg (by omega), succ_cast i (by omega)]
    have h2 : wrap64 (wrap64 (10 * (n : Int)) + (((t[i]'h).toNat : Int) - 48) % 256) = ((10 * n + ((t[i]'h).toNat - 48) : Nat) : Int) := by
      rw [wrap_in (x := 10 * (n : Int)) (by omega) (by omega), wrap_in (by omega) (by omega)]; omega
    rw [h2]
theorem numV_fin (s : List UInt8) : numV s = if (bare s).length < 1 ∨ 18 < (bare s).length then (0, false) else finO s (bare s) (digs (bare s) 0) := by
  unfold numV
  split
  · rfl
  · split
    · rename_i h; rw [h]; rfl
    · rename_i n h; rw [h]; rfl
theorem numS_1 (s : List UInt8) : Ev (fun k => spec_l01Number.j1 k (bs s) (bs (bare s))) (numV s) := by
  rw [numV_fin]
  have h2 : ∀ b : Bool, Ev (fun k => spec_l01Number.j2 k (bs s) (bs (bare s)) b) (if b = true then (0, false) else if (bare s).length ≤ 18 then finO s (bare s) (digs (bare s) 0) else (0, true)) → True := fun _ _ => trivial
  by_cases c1 : (bare s).length < 1
  · rw [if_pos (Or.inl c1)]
    refine ev_step (f := fun k => spec_l01Number.j2 k (bs s) (bs (bare s)) true) (fun k => ?_) (ev_end fun k => ?_)
    · simp only [spec_l01Number.j1]
      rw [bs_size, if_pos (by omega)]
    · simp only [spec_l01Number.j2, if_true]
  · by_cases c2 : 18 < (bare s).length
    · rw [if_pos (Or.inr c2)]
      refine ev_step (f := fun k => spec_l01Number.j2 k (bs s) (bs (bare s)) true) (fun k => ?_) (ev_end fun k => ?_)
      · simp only [spec_l01Number.j1]
        rw [bs_size, if_neg (by omega), decide_eq_true (by omega)]
      · simp only [spec_l01Number.j2, if_true]
    · rw [if_neg (by omega)]
      refine ev_step (f := fun k => spec_l01Number.j2 k (bs s) (bs (bare s)) false) (fun k => ?_) (ev_step (fun k => ?_) (numS_l s (bare s) (by omega)))
      · simp only [spec_l01Number.j1]
        rw [bs_size, if_neg (by omega), decide_eq_false (by omega)]
      · simp only [spec_l01Number.j2]
        rw [if_neg (by simp)]
theorem numS (s : List UInt8) : Ev (fun k => spec_l01Number.f k (bs s)) (numV s) := by
  unfold spec_l01Number.f
  have h1 := numS_1 s
  cases s with
  | nil =>
    refine ev_if_pos (bs_tl _) (ev_step (fun k => ?_) h1)
    simp only [spec_l01Number.j0]
    rw [if_neg (by simp)]
    rfl
  | cons b l =>
    refine ev_if_neg (by rw [bs_tl]; simp) (ev_if_pos (by rw [bs_size, List.length_cons]; omega) ?_)
    have hb : bt (bs (b :: l)) 0 = (b.toNat : Int) := bs_bt (b :: l) 0 (by simp)
    rw [hb]
    by_cases c : b = 45
    · subst c
      refine ev_step (fun k => ?_) h1
      simp only [spec_l01Number.j0]
      rw [if_pos (by decide), if_pos (by rw [bs_size]; simp; omega), bs_cut, bs_size]
      simp [bare]
    · refine ev_step (fun k => ?_) h1
      simp only [spec_l01Number.j0]
      rw [if_neg (fun e => c (UInt8.toNat_inj.1 (by have := beq_iff_eq.1 e; have e2 : (45 : UInt8).toNat = 45 := rfl; omega)))]
      unfold bare
      rw [if_neg (by simpa using c)]
theorem trimE (s : List UInt8) : strings_TrimPrefix.f (bs s) (bs [45]) = some (bs (bare s)) := by
  unfold strings_TrimPrefix.f stringslite_TrimPrefix.f stringslite_HasPrefix.f
  rw [bs_size, bs_size, bs_cut, bs_cut, bs_tl, bs_tl]
  cases s with
  | nil =>
    rw [if_neg (by simp)]
    rfl
  | cons b l =>
    have hl : (b :: l).length = l.length + 1 := rfl
    have h1 : ([45] : List UInt8).length = 1 := rfl
    rw [h1, if_pos (by omega), if_pos (by omega), if_pos (by omega)]
    simp only [Option.bind_some]
    by_cases c : b = 45
    · subst c
      rw [if_pos (by rfl), if_pos (by omega), if_pos (by omega)]
      simp [bare]
    · rw [if_neg (by simpa using c)]
      simp only [Option.bind_some]
      unfold bare
      rw [if_neg (by simpa using c)]
theorem numI (s : List UInt8) : Ev (fun k => impl_ReadDecimal.f k (bs s)) (numV s) := by
  unfold impl_ReadDecimal.f
  rw [show (⟨#[45]⟩ : ByteArray) = bs [45] from rfl, trimE, numV_fin]
  refine ev_some ?_
  rw [bs_size]
  by_cases c1 : (bare s).length < 1
  · rw [if_pos (Or.inl c1)]
    refine ev_if_pos (by omega) (ev_end fun k => ?_)
    simp only [impl_ReadDecimal.j0, if_true]
  · refine ev_if_neg (by omega) ?_
    by_cases c2 : 18 < (bare s).length
    · rw [if_pos (Or.inr c2), decide_eq_true (by omega)]
      refine ev_end fun k => ?_
      simp only [impl_ReadDecimal.j0, if_true]
    · rw [if_neg (by omega), decide_eq_false (by omega)]
      refine ev_step (fun k => ?_) (numI_l s (bare s) (by omega))
      simp only [impl_ReadDecimal.j0]
      rw [if_neg (by simp)]
/-! ### the text of a sail read -/
def wordV (w : List UInt8) : Option S47 := match spA 44 [] w with
  | [a, b] => if (numV a).2 = true then (if (numV b).2 = true then some ⟨(numV a).1, (numV b).1⟩ else none) else none
  | _ => none
noncomputable def rdV : List (List UInt8) → List S47 → List S47 × Bool
  | [], out => if Vb out = true then (out, true) else ([], false)
  | w :: r, out => match wordV w with
    | none => ([], false)
    | some p => rdV r (out ++ [p])
noncomputable def rdO (r : List (List UInt8)) (out : List S47) : Option S47 → List S47 × Bool
  | none => ([], false)
  | some p => rdV r (out ++ [p])
theorem rdV_cons (w : List UInt8) (r : List (List UInt8)) (out : List S47) : rdV (w :: r) out = rdO r out (wordV w) := by
  rw [rdV]
  cases wordV w <;> rfl
theorem rdV_le : ∀ (r : List (List UInt8)) (out : List S47), (rdV r out).1.length ≤ 8
  | [], out => by
    unfold rdV
    split
    · rename_i h; exact (V_of h).1.2
    · simp
  | w :: r, out => by
    rw [rdV_cons]
    cases wordV w with
    | none => simp [rdO]
    | some p => exact rdV_le r _
theorem rd_bs (ws : List (List UInt8)) (i : Nat) (h : i < ws.length) : rdOf ByteArray.empty (ws.map bs) (i : Int) = bs ws[i] := by
  unfold rdOf
  rw [getD_nat, List.getD_eq_getElem?_getD, List.getElem?_map, List.getElem?_eq_getElem h]
  rfl
theorem wordS (w : List UInt8) (hw : w.length ≤ 1048576) (r : List (List UInt8)) (out : List S47) (ho : out.length ≤ 1048577) (F : Nat → List S47 → Option (List S47 × Bool)) (hF : ∀ p, wordV w = some p → Ev (fun k => F k (out ++ [p])) (rdV r (out ++ [p]))) :
    Ev (fun k => (spec_l01Split.f k (bs w) 44).bind fun t192 => (if (t192.length : Int) = 2 then (if 0 < (t192.length : Int) then ((spec_l01Number.f k (rdOf ByteArray.empty t192 0)).bind fun bt196 => (if 1 < (t192.length : Int) then ((spec_l01Number.f k (rdOf ByteArray.empty t192 1)).bind fun bt199 => (if bt196.2 = true then (if bt199.2 = true then (if out.length < 8796093022208 then (F k (out ++ [(⟨bt196.1, bt199.1⟩ : S47)])) else (none)) else (some (([] : List (S47)), false))) else (some (([] : List (S47)), false)))) else (none))) else (none)) else (some (([] : List (S47)), false)))) (rdO r out (wordV w)) := by
  refine ev_bind (splitS 44 w hw) ?_
  rw [List.length_map]
  have hWd : wordV w = match spA 44 [] w with
    | [a, b] => if (numV a).2 = true then (if (numV b).2 = true then some ⟨(numV a).1, (numV b).1⟩ else none) else none
    | _ => none := rfl
  generalize spA 44 [] w = v at hWd
  match v, hWd with
  | [], hWd => rw [hWd]; exact ev_if_neg (by simp) (ev_now fun _ => rfl)
  | [a], hWd => rw [hWd]; exact ev_if_neg (by simp) (ev_now fun _ => rfl)
  | [a, b], hWd =>
    have hWd : wordV w = if (numV a).2 = true then (if (numV b).2 = true then some ⟨(numV a).1, (numV b).1⟩ else none) else none := hWd
    refine ev_if_pos (by simp) (ev_if_pos (by simp) (ev_bind (numS a) (ev_if_pos (by simp) (ev_bind (numS b) ?_))))
    by_cases h1 : (numV a).2 = true
    · refine ev_if_pos h1 ?_
      rw [if_pos h1] at hWd
      by_cases h2 : (numV b).2 = true
      · rw [if_pos h2] at hWd
        refine ev_if_pos h2 (ev_if_pos (by omega) ?_)
        rw [hWd]
        exact hF _ hWd
      · rw [if_neg h2] at hWd
        rw [hWd]
        exact ev_if_neg h2 (ev_now fun _ => rfl)
    · rw [if_neg h1] at hWd
      rw [hWd]
      exact ev_if_neg h1 (ev_now fun _ => rfl)
  | a :: b :: c :: d, hWd =>
    rw [hWd]
    exact ev_if_neg (by simp only [List.length_cons]; omega) (ev_now fun _ => rfl)
theorem readS (s : List UInt8) (hs : s.length ≤ 1048576) : Ev (fun k => spec_ReadSail.f k (bs s)) (rdV (spA 32 [] s) []) := by
  unfold spec_ReadSail.f
  have hlen := spA_len 32 s []
  have hmem := spA_mem 32 s []
  refine ev_bind (splitS 32 s hs) ?_
  generalize spA 32 [] s = ws at *
  have key : ∀ (m i : Nat) (out : List S47), ws.length - i = m → i ≤ ws.length → out.length ≤ i → Ev (fun k => spec_ReadSail.l0 k (ws.map bs) out (i : Int)) (rdV (ws.drop i) out) := by
    intro m
    induction m with
    | zero =>
      intro i out h1 h2 h3
      obtain rfl : i = ws.length := by omega
      rw [List.drop_length, rdV]
      have sV := specV out (by omega)
      refine ev_step (f := fun k => (spec_l13Ok.f k out).bind fun t190 => (if t190 = true then (some (out, true)) else (some (([] : List (S47)), false)))) (fun k => ?_) (ev_bind sV (ev_now fun k => ?_))
      · simp only [spec_ReadSail.l0]
        rw [List.length_map, if_neg (by omega)]
      · split <;> rfl
    | succ m ih =>
      intro i out h1 h2 h3
      have hi : i < ws.length := by omega
      have hd : ws.drop i = ws[i] :: ws.drop (i + 1) := List.drop_eq_getElem_cons hi
      rw [hd, rdV_cons]
      have hw : ws[i].length ≤ 1048576 := by have := hmem ws[i] (List.getElem_mem hi); simp only [List.length_nil] at this; omega
      refine ev_step (fun k => ?_) (wordS ws[i] hw (ws.drop (i + 1)) out (by omega) (fun k o => spec_ReadSail.l0 k (ws.map bs) o ((i + 1 : Nat) : Int)) (fun p _ => ih (i + 1) (out ++ [p]) (by omega) (by omega) (by simp; omega)))
      simp only [spec_ReadSail.l0]
      rw [List.length_map, if_pos (by omega), if_pos (by omega), rd_bs ws i hi, succ_cast i (by omega)]
  exact key ws.length 0 [] (by omega) (by omega) (by simp)
theorem wordI (w : List UInt8) (hw : w.length ≤ 1048576) (r : List (List UInt8)) (out : List S47) (ho : out.length ≤ 1048577) (F : Nat → List S47 → Option (List S47 × Bool)) (hF : ∀ p, wordV w = some p → Ev (fun k => F k (out ++ [p])) (rdV r (out ++ [p]))) :
    Ev (fun k => (strings_Cut.f k (bs w) (⟨#[44]⟩ : ByteArray)).bind fun bt270 => ((impl_ReadDecimal.f k bt270.1).bind fun bt273 => ((impl_ReadDecimal.f k bt270.2.1).bind fun bt275 => (if bt270.2.2 = true then (if bt273.2 = true then (if bt275.2 = true then (if out.length < 8796093022208 then (F k (out ++ [(⟨bt273.1, bt275.1⟩ : S47)])) else (none)) else (some (([] : List (S47)), false))) else (some (([] : List (S47)), false))) else (some (([] : List (S47)), false)))))) (rdO r out (wordV w)) := by
  have hc : Ev (fun k => strings_Cut.f k (bs w) (⟨#[44]⟩ : ByteArray)) (bs (Lib.cut w [44]).1, bs (Lib.cut w [44]).2.1, (Lib.cut w [44]).2.2) := by
    refine ev_now fun k => ?_
    unfold strings_Cut.f
    rw [bs_size, if_pos (by omega), bs_list]
    rfl
  refine ev_bind hc (ev_bind (numI _) (ev_bind (numI _) ?_))
  have hWd : wordV w = match spA 44 [] w with
    | [a, b] => if (numV a).2 = true then (if (numV b).2 = true then some ⟨(numV a).1, (numV b).1⟩ else none) else none
    | _ => none := rfl
  rcases cutE 44 w with ⟨h1, h2, h3⟩ | ⟨a, t, h1, h2, h3⟩
  · rw [h1] at hWd
    rw [h2, hWd]
    exact ev_if_neg Bool.false_ne_true (ev_now fun _ => rfl)
  · rw [h1] at hWd
    rw [h2]
    refine ev_if_pos rfl ?_
    show Ev (fun k => if (numV a).2 = true then (if (numV t).2 = true then (if out.length < 8796093022208 then (F k (out ++ [(⟨(numV a).1, (numV t).1⟩ : S47)])) else (none)) else (some (([] : List (S47)), false))) else (some (([] : List (S47)), false))) _
    by_cases hin : (44 : UInt8) ∈ t
    · have hn := numV_no t 44 rfl hin
      have h4 := spA_in 44 t hin
      have hWn : wordV w = none := by
        rw [hWd]
        generalize spA 44 [] t = v at h4
        match v, h4 with
        | [], h4 => simp at h4
        | [b], h4 => simp at h4
        | b :: c :: d, _ => rfl
      rw [hWn, hn]
      by_cases q : (numV a).2 = true
      · exact ev_if_pos q (ev_if_neg Bool.false_ne_true (ev_now fun _ => rfl))
      · exact ev_if_neg q (ev_now fun _ => rfl)
    · have h4 : spA 44 [] t = [t] := by
        rcases cutE 44 t with ⟨h5, _, _⟩ | ⟨a', t', h5, h6, h7⟩
        · exact h5
        · exact absurd (cut_in 44 t h6) hin
      rw [h4] at hWd
      have hWd : wordV w = if (numV a).2 = true then (if (numV t).2 = true then some ⟨(numV a).1, (numV t).1⟩ else none) else none := hWd
      by_cases q1 : (numV a).2 = true
      · refine ev_if_pos q1 ?_
        rw [if_pos q1] at hWd
        by_cases q2 : (numV t).2 = true
        · rw [if_pos q2] at hWd
          refine ev_if_pos q2 (ev_if_pos (by omega) ?_)
          rw [hWd]
          exact hF _ hWd
        · rw [if_neg q2] at hWd
          rw [hWd]
          exact ev_if_neg q2 (ev_now fun _ => rfl)
      · rw [if_neg q1] at hWd
        rw [hWd]
        exact ev_if_neg q1 (ev_now fun _ => rfl)
theorem readI (s : List UInt8) (hs : s.length ≤ 1048576) : Ev (fun k => impl_ReadSail.f k (bs s)) (rdV (spA 32 [] s) []) := by
  unfold impl_ReadSail.f
  have hlen := spA_len 32 s []
  have hmem := spA_mem 32 s []
  refine ev_bind (splitI 32 s hs) ?_
  generalize spA 32 [] s = ws at *
  rw [List.length_map]
  have key : ∀ (m i : Nat) (out : List S47), ws.length - i = m → i ≤ ws.length → out.length ≤ i → Ev (fun k => impl_ReadSail.l0 k out (ws.map bs) (ws.length : Int) (i : Int)) (rdV (ws.drop i) out) := by
    intro m
    induction m with
    | zero =>
      intro i out h1 h2 h3
      obtain rfl : i = ws.length := by omega
      rw [List.drop_length, rdV]
      have sV := implV out (by omega)
      refine ev_step (f := fun k => (impl_ValidSail.f k out).bind fun t190 => (if t190 = true then (some (out, true)) else (some (([] : List (S47)), false)))) (fun k => ?_) (ev_bind sV (ev_now fun k => ?_))
      · simp only [impl_ReadSail.l0]
        rw [if_neg (by omega)]
      · split <;> rfl
    | succ m ih =>
      intro i out h1 h2 h3
      have hi : i < ws.length := by omega
      have hd : ws.drop i = ws[i] :: ws.drop (i + 1) := List.drop_eq_getElem_cons hi
      rw [hd, rdV_cons]
      have hw : ws[i].length ≤ 1048576 := by have := hmem ws[i] (List.getElem_mem hi); simp only [List.length_nil] at this; omega
      refine ev_step (fun k => ?_) (wordI ws[i] hw (ws.drop (i + 1)) out (by omega) (fun k o => impl_ReadSail.l0 k o (ws.map bs) (ws.length : Int) ((i + 1 : Nat) : Int)) (fun p _ => ih (i + 1) (out ++ [p]) (by omega) (by omega) (by simp; omega)))
      simp only [impl_ReadSail.l0]
      rw [List.length_map, if_pos (by omega), if_pos (by omega), if_pos (by omega), rd_bs ws i hi, succ_cast i (by omega)]
  exact key ws.length 0 [] (by omega) (by omega) (by simp)
/-! ### the text of a sail -/
theorem decE (n : Int) (h0 : 0 ≤ n) (h1 : n ≤ 2000) : Ev (fun k => spec_l01Dec.f k n) (bs (Lib.itoa n)) ∧ Ev (fun k => impl_Decimal.f k n) (bs (Lib.itoa n)) := ⟨decS n (by omega) (by omega), decI n (by omega) (by omega)⟩
def Wd (s : S47) : List UInt8 := Lib.itoa s.f0 ++ [44] ++ Lib.itoa s.f1
def JN (l : List S47) (i : Nat) : List UInt8 := Lib.join ((l.take i).map Wd) [32]
theorem itoa_le (n : Int) (h0 : 0 ≤ n) (h1 : n ≤ 2000) : (Lib.itoa n).length ≤ 21 := Lib.itoa_length_le n (by omega) (by omega)
theorem join_snoc (xs : List (List UInt8)) (y sep : List UInt8) : Lib.join (xs ++ [y]) sep = if xs = [] then y else Lib.join xs sep ++ sep ++ y := by
  cases xs with
  | nil => rw [if_pos rfl, List.nil_append, Lib.join_one]
  | cons x r =>
    rw [if_neg (by simp), List.cons_append, Lib.join_cons, Lib.join_cons]
    unfold Lib.joinTail
    simp
theorem take_one (l : List S47) (i : Nat) (hi : i < l.length) : l.take (i + 1) = l.take i ++ [l.getD i z47] := by
  rw [List.take_succ_eq_append_getElem hi, List.getD_eq_getElem?_getD, List.getElem?_eq_getElem hi]
  rfl
theorem JN_next (l : List S47) (i : Nat) (hi : i < l.length) : JN l (i + 1) = if i = 0 then Wd (l.getD i z47) else JN l i ++ [32] ++ Wd (l.getD i z47) := by
  unfold JN
  rw [take_one l i hi, List.map_append, List.map_cons, List.map_nil, join_snoc]
  by_cases c : i = 0
  · subst c; rw [if_pos rfl, if_pos (by simp)]
  · rw [if_neg c, if_neg]
    intro h
    have h2 : ((l.take i).map Wd).length = 0 := by rw [h]; rfl
    rw [List.length_map, List.length_take] at h2
    omega
theorem textS (l : List S47) (h8 : l.length ≤ 8) (hb : ∀ i, i < l.length → (0 ≤ (l.getD i z47).f0 ∧ (l.getD i z47).f0 ≤ 2000) ∧ 0 ≤ (l.getD i z47).f1 ∧ (l.getD i z47).f1 ≤ 2000) :
    Ev (fun k => spec_l13Text.f k l) (bs (JN l l.length)) := by
  unfold spec_l13Text.f
  have key : ∀ (m i : Nat), l.length - i = m → i ≤ l.length → (JN l i).length ≤ 44 * i → Ev (fun k => spec_l13Text.l0 k l (bs (JN l i)) (i : Int)) (bs (JN l l.length)) := by
    intro m
    induction m with
    | zero =>
      intro i h1 h2 h3
      obtain rfl : i = l.length := by omega
      refine ev_end fun k => ?_
      simp only [spec_l13Text.l0]
      rw [if_neg (by omega)]
    | succ m ih =>
      intro i h1 h2 h3
      have hi : i < l.length := by omega
      obtain ⟨⟨a0, a1⟩, b0, b1⟩ := hb i hi
      have d1 := (decE _ a0 a1).1
      have d2 := (decE _ b0 b1).1
      have s1 := itoa_le _ a0 a1
      have s2 := itoa_le _ b0 b1
      have er : rd_T47 l (i : Int) = l.getD i z47 := by simp only [rd_T47, Int.toNat_natCast]
      have hw : (Wd (l.getD i z47)).length = (Lib.itoa (l.getD i z47).f0).length + 1 + (Lib.itoa (l.getD i z47).f1).length := by simp only [Wd, List.length_append, List.length_cons, List.length_nil]
      have hn := JN_next l i hi
      have hl : (JN l (i + 1)).length ≤ 44 * (i + 1) := by
        rw [hn]
        split
        · omega
        · simp only [List.length_append, List.length_cons, List.length_nil]; omega
      have hrec := ih (i + 1) (by omega) (by omega) hl
      have z1 : (bs (Lib.itoa (l.getD i z47).f0)).size = (Lib.itoa (l.getD i z47).f0).length := bs_size _
      have z2 : (bs (Lib.itoa (l.getD i z47).f1)).size = (Lib.itoa (l.getD i z47).f1).length := bs_size _
      have z3 : (bs (JN l i)).size = (JN l i).length := bs_size _
      have g44 : bs (Lib.itoa (l.getD i z47).f0) ++ (⟨#[44]⟩ : ByteArray) = bs (Lib.itoa (l.getD i z47).f0 ++ [44]) := bs_app _ [44]
      have gw : bs (Lib.itoa (l.getD i z47).f0 ++ [44]) ++ bs (Lib.itoa (l.getD i z47).f1) = bs (Wd (l.getD i z47)) := bs_app _ _
      have z4 : (bs (Lib.itoa (l.getD i z47).f0 ++ [44])).size = (Lib.itoa (l.getD i z47).f0).length + 1 := by rw [bs_size, List.length_append]; rfl
      have z5 : (bs (Wd (l.getD i z47))).size = (Wd (l.getD i z47)).length := bs_size _
      refine ev_step (f := fun k => if (i : Int) > 0 then (if (bs (JN l i)).size + 1 ≤ 9223372036854775807 then (if 0 ≤ (i : Int) then ((spec_l01Dec.f k (l.getD i z47).f0).bind fun t168 => (if t168.size + 1 ≤ 9223372036854775807 then ((spec_l01Dec.f k (l.getD i z47).f1).bind fun t170 => (if (t168 ++ (⟨#[44]⟩ : ByteArray)).size + t170.size ≤ 9223372036854775807 then (if (bs (JN l i) ++ (⟨#[32]⟩ : ByteArray)).size + ((t168 ++ (⟨#[44]⟩ : ByteArray)) ++ t170).size ≤ 9223372036854775807 then (spec_l13Text.l0 k l ((bs (JN l i) ++ (⟨#[32]⟩ : ByteArray)) ++ ((t168 ++ (⟨#[44]⟩ : ByteArray)) ++ t170)) ((i + 1 : Nat) : Int)) else (none)) else (none))) else (none))) else (none)) else (none)) else (if 0 ≤ (i : Int) then ((spec_l01Dec.f k (l.getD i z47).f0).bind fun t172 => (if t172.size + 1 ≤ 9223372036854775807 then ((spec_l01Dec.f k (l.getD i z47).f1).bind fun t174 => (if (t172 ++ (⟨#[44]⟩ : ByteArray)).size + t174.size ≤ 9223372036854775807 then (if (bs (JN l i)).size + ((t172 ++ (⟨#[44]⟩ : ByteArray)) ++ t174).size ≤ 9223372036854775807 then (spec_l13Text.l0 k l (bs (JN l i) ++ ((t172 ++ (⟨#[44]⟩ : ByteArray)) ++ t174)) ((i + 1 : Nat) : Int)) else (none)) else (none))) else (none))) else (none))) (fun k => ?_) ?_
      · simp only [spec_l13Text.l0]
        rw [if_pos (by omega), er, succ_cast i (by omega)]
      · by_cases c : i = 0
        · refine ev_if_neg (by omega) (ev_if_pos (by omega) (ev_bind d1 (ev_if_pos (by omega) (ev_bind d2 ?_))))
          rw [g44, gw]
          refine ev_if_pos (by omega) (ev_if_pos (by omega) ?_)
          rw [bs_app]
          subst c
          rw [hn, if_pos rfl] at hrec
          exact hrec
        · refine ev_if_pos (by omega) (ev_if_pos (by omega) (ev_if_pos (by omega) (ev_bind d1 (ev_if_pos (by omega) (ev_bind d2 ?_)))))
          have g32 : bs (JN l i) ++ (⟨#[32]⟩ : ByteArray) = bs (JN l i ++ [32]) := bs_app _ [32]
          have z6 : (bs (JN l i ++ [32])).size = (JN l i).length + 1 := by rw [bs_size, List.length_append]; rfl
          rw [g44, gw, g32]
          refine ev_if_pos (by omega) (ev_if_pos (by omega) ?_)
          rw [bs_app]
          rw [hn, if_neg c] at hrec
          exact hrec
  exact key l.length 0 (by omega) (by omega) (by show (Lib.join [] _).length ≤ _; rw [Lib.join_nil]; simp)
theorem JN_le (l : List S47) (hb : ∀ i, i < l.length → (0 ≤ (l.getD i z47).f0 ∧ (l.getD i z47).f0 ≤ 2000) ∧ 0 ≤ (l.getD i z47).f1 ∧ (l.getD i z47).f1 ≤ 2000) : ∀ i, i ≤ l.length → (JN l i).length ≤ 44 * i
  | 0, _ => by show (Lib.join [] _).length ≤ _; rw [Lib.join_nil]; simp
  | i + 1, hi => by
    have ih := JN_le l hb i (by omega)
    obtain ⟨⟨a0, a1⟩, b0, b1⟩ := hb i (by omega)
    have s1 := itoa_le _ a0 a1
    have s2 := itoa_le _ b0 b1
    rw [JN_next l i (by omega)]
    have hw : (Wd (l.getD i z47)).length = (Lib.itoa (l.getD i z47).f0).length + 1 + (Lib.itoa (l.getD i z47).f1).length := by simp only [Wd, List.length_append, List.length_cons, List.length_nil]
    split
    · omega
    · simp only [List.length_append, List.length_cons, List.length_nil]; omega
theorem textI (l : List S47) (h8 : l.length ≤ 8) (hb : ∀ i, i < l.length → (0 ≤ (l.getD i z47).f0 ∧ (l.getD i z47).f0 ≤ 2000) ∧ 0 ≤ (l.getD i z47).f1 ∧ (l.getD i z47).f1 ≤ 2000) :
    Ev (fun k => impl_SailText.l0 k [] l (l.length : Int) 0) (bs (JN l l.length)) := by
  have key : ∀ (m i : Nat), l.length - i = m → i ≤ l.length → Ev (fun k => impl_SailText.l0 k ((l.take i).map (fun s => bs (Wd s))) l (l.length : Int) (i : Int)) (bs (JN l l.length)) := by
    intro m
    induction m with
    | zero =>
      intro i h1 h2
      obtain rfl : i = l.length := by omega
      have hj := JN_le l hb l.length (Nat.le_refl _)
      refine ev_end fun k => ?_
      simp only [impl_SailText.l0]
      rw [if_neg (by omega)]
      have e : ((l.take l.length).map (fun s => bs (Wd s))).map (fun b => b.data.toList) = (l.take l.length).map Wd := by
        rw [List.map_map]
        refine List.map_congr_left (fun s _ => ?_)
        exact bs_list _
      unfold strings_Join.f
      rw [e]
      rw [if_pos ⟨by simp; omega, by show (JN l l.length).length ≤ _; omega⟩]
      rfl
    | succ m ih =>
      intro i h1 h2
      have hi : i < l.length := by omega
      obtain ⟨⟨a0, a1⟩, b0, b1⟩ := hb i hi
      have d1 := (decE _ a0 a1).2
      have d2 := (decE _ b0 b1).2
      have s1 := itoa_le _ a0 a1
      have s2 := itoa_le _ b0 b1
      have er : rd_T47 l (i : Int) = l.getD i z47 := by simp only [rd_T47, Int.toNat_natCast]
      have z1 : (bs (Lib.itoa (l.getD i z47).f0)).size = (Lib.itoa (l.getD i z47).f0).length := bs_size _
      have z2 : (bs (Lib.itoa (l.getD i z47).f1)).size = (Lib.itoa (l.getD i z47).f1).length := bs_size _
      have g44 : bs (Lib.itoa (l.getD i z47).f0) ++ (⟨#[44]⟩ : ByteArray) = bs (Lib.itoa (l.getD i z47).f0 ++ [44]) := bs_app _ [44]
      have gw : bs (Lib.itoa (l.getD i z47).f0 ++ [44]) ++ bs (Lib.itoa (l.getD i z47).f1) = bs (Wd (l.getD i z47)) := bs_app _ _
      have z4 : (bs (Lib.itoa (l.getD i z47).f0 ++ [44])).size = (Lib.itoa (l.getD i z47).f0).length + 1 := by rw [bs_size, List.length_append]; rfl
      have hrec := ih (i + 1) (by omega) (by omega)
      rw [take_one l i hi, List.map_append, List.map_cons, List.map_nil] at hrec
      refine ev_step (f := fun k => (impl_Decimal.f k (l.getD i z47).f0).bind fun t246 => (if t246.size + 1 ≤ 9223372036854775807 then ((impl_Decimal.f k (l.getD i z47).f1).bind fun t247 => (if (t246 ++ (⟨#[44]⟩ : ByteArray)).size + t247.size ≤ 9223372036854775807 then (if ((l.take i).map (fun s => bs (Wd s))).length < 8796093022208 then (impl_SailText.l0 k ((l.take i).map (fun s => bs (Wd s)) ++ [(t246 ++ (⟨#[44]⟩ : ByteArray)) ++ t247]) l (l.length : Int) ((i + 1 : Nat) : Int)) else (none)) else (none))) else (none))) (fun k => ?_) (ev_bind d1 (ev_if_pos (by omega) (ev_bind d2 ?_)))
      · simp only [impl_SailText.l0]
        rw [if_pos (by omega), if_pos (by omega), if_pos (by omega), er, succ_cast i (by omega)]
      · rw [g44, gw]
        exact ev_if_pos (by omega) (ev_if_pos (by rw [List.length_map, List.length_take]; omega) hrec)
  exact key l.length 0 (by omega) (by omega)
/-! ### the text of a sail is read back -/
theorem digs_app : ∀ (a b : List UInt8) (n : Nat), digs (a ++ b) n = (digs a n).bind (digs b)
  | [], b, n => rfl
  | x :: a, b, n => by
    rw [List.cons_append]
    unfold digs
    split
    · exact digs_app a b _
    · rfl
theorem of_dig {x : Nat} (h : x < 10) : (UInt8.ofNat (48 + x)).toNat = 48 + x := by
  rw [UInt8.toNat_ofNat']
  omega
theorem digs_dec : ∀ (m u : Nat), u < 10 ^ (m + 1) → digs (Lib.decDigits u) 0 = some u ∧ 1 ≤ (Lib.decDigits u).length ∧ (Lib.decDigits u).length ≤ m + 1
  | 0, u, h => by
    rw [Lib.decDigits, dif_pos (by omega)]
    unfold digs
    rw [of_dig (by omega), if_pos (by omega)]
    unfold digs
    exact ⟨by congr 1; omega, by simp, by simp⟩
  | m + 1, u, h => by
    rw [Lib.decDigits]
    split
    · rename_i h1
      unfold digs
      rw [of_dig h1, if_pos (by omega)]
      unfold digs
      exact ⟨by congr 1; omega, by simp, by simp⟩
    · rename_i h1
      obtain ⟨e, l0, l1⟩ := digs_dec m (u / 10) (by rw [Nat.pow_succ] at h; omega)
      rw [digs_app, e, Option.bind_some, List.length_append]
      unfold digs
      rw [of_dig (by omega), if_pos (by omega)]
      unfold digs
      exact ⟨by congr 1; omega, by simp, by simp; omega⟩
theorem dec_range (u : Nat) (h : u < 10000) : ∀ b, b ∈ Lib.decDigits u → 48 ≤ b.toNat ∧ b.toNat ≤ 57 := digs_mem _ _ _ (digs_dec 3 u h).1
theorem itoa_nat (u : Nat) : Lib.itoa (u : Int) = Lib.decDigits u := by unfold Lib.itoa; rw [if_neg (by omega)]; simp
theorem num_back (u : Nat) (h : u < 10000) : numV (Lib.decDigits u) = ((u : Int), true) := by
  obtain ⟨e, l0, l1⟩ := digs_dec 3 u h
  have hb : bare (Lib.decDigits u) = Lib.decDigits u := by
    unfold bare
    rw [if_neg]
    intro hh
    have hm : (45 : UInt8) ∈ Lib.decDigits u := List.mem_of_mem_head? hh
    have := (dec_range u h _ hm).1
    simp at this
  unfold numV
  rw [hb, if_neg (by omega), e]
  show fin _ _ u = _
  unfold fin
  rw [if_neg (by omega), if_pos (itoa_nat u)]
theorem spA_cons (c b : UInt8) (acc l : List UInt8) : spA c acc (b :: l) = if b = c then acc :: spA c [] l else spA c (acc ++ [b]) l := rfl
theorem spA_free (c : UInt8) : ∀ (l acc : List UInt8), (∀ b, b ∈ l → b ≠ c) → spA c acc l = [acc ++ l]
  | [], acc, _ => by simp [spA]
  | b :: l, acc, h => by
    unfold spA
    rw [if_neg (h b (List.mem_cons_self ..)), spA_free c l _ (fun x hx => h x (List.mem_cons_of_mem _ hx))]
    simp
theorem spA_at (c : UInt8) : ∀ (l acc r : List UInt8), (∀ b, b ∈ l → b ≠ c) → spA c acc (l ++ c :: r) = (acc ++ l) :: spA c [] r
  | [], acc, r, _ => by rw [List.nil_append, spA_cons, if_pos rfl, List.append_nil]
  | b :: l, acc, r, h => by
    rw [List.cons_append, spA_cons, if_neg (h b (List.mem_cons_self ..)), spA_at c l _ r (fun x hx => h x (List.mem_cons_of_mem _ hx))]
    simp
/-- a corner whose numbers are drawn ones -/
def okS (s : S47) : Prop := (0 ≤ s.f0 ∧ s.f0 ≤ 2000) ∧ 0 ≤ s.f1 ∧ s.f1 ≤ 2000
theorem itoa_free (n : Int) (h : 0 ≤ n ∧ n ≤ 2000) (c : UInt8) (hc : c.toNat < 48) : ∀ b, b ∈ Lib.itoa n → b ≠ c := by
  obtain ⟨u, rfl⟩ := Int.eq_ofNat_of_zero_le h.1
  intro b hb e
  rw [itoa_nat] at hb
  have := (dec_range u (by omega) b hb).1
  rw [e] at this
  omega
theorem word_back (s : S47) (h : okS s) : wordV (Wd s) = some s := by
  obtain ⟨h0, h1⟩ := h
  unfold wordV Wd
  rw [List.append_assoc, List.singleton_append, spA_at 44 _ _ _ (itoa_free _ h0 44 (by decide)), spA_free 44 _ _ (itoa_free _ h1 44 (by decide))]
  obtain ⟨u, hu⟩ := Int.eq_ofNat_of_zero_le h0.1
  obtain ⟨v, hv⟩ := Int.eq_ofNat_of_zero_le h1.1
  obtain ⟨x, y⟩ := s
  simp only at hu hv h0 h1
  subst hu
  subst hv
  simp only [List.nil_append]
  rw [itoa_nat, itoa_nat, num_back u (by omega), num_back v (by omega)]
  rfl
theorem Wd_free (s : S47) (h : okS s) : ∀ b, b ∈ Wd s → b ≠ 32 := by
  intro b hb
  unfold Wd at hb
  rcases List.mem_append.1 hb with hb | hb
  · rcases List.mem_append.1 hb with hb | hb
    · exact itoa_free _ h.1 32 (by decide) b hb
    · rw [List.mem_singleton] at hb; rw [hb]; decide
  · exact itoa_free _ h.2 32 (by decide) b hb
theorem sp_join : ∀ (l : List S47), l ≠ [] → (∀ s, s ∈ l → okS s) → spA 32 [] (Lib.join (l.map Wd) [32]) = l.map Wd
  | [], h, _ => absurd rfl h
  | [s], _, h => by
    rw [List.map_cons, List.map_nil, Lib.join_one, spA_free 32 _ _ (Wd_free s (h s (List.mem_cons_self ..)))]
    rfl
  | s :: t :: r, _, h => by
    have ih := sp_join (t :: r) (by simp) (fun x hx => h x (List.mem_cons_of_mem _ hx))
    have e : Lib.join ((s :: t :: r).map Wd) [32] = Wd s ++ 32 :: Lib.join ((t :: r).map Wd) [32] := by
      rw [List.map_cons, List.map_cons, Lib.join_cons, Lib.join_cons]
      unfold Lib.joinTail
      simp
    rw [e, spA_at 32 _ _ _ (Wd_free s (h s (List.mem_cons_self ..))), ih]
    rfl
theorem rd_back : ∀ (l out : List S47), (∀ s, s ∈ l → okS s) → Vb (out ++ l) = true → rdV (l.map Wd) out = (out ++ l, true)
  | [], out, _, hV => by
    rw [List.append_nil] at hV ⊢
    show (if Vb out = true then (out, true) else ([], false)) = _
    rw [if_pos hV]
  | s :: r, out, h, hV => by
    rw [List.map_cons, rdV_cons, word_back s (h s (List.mem_cons_self ..))]
    show rdV (r.map Wd) (out ++ [s]) = _
    rw [rd_back r (out ++ [s]) (fun x hx => h x (List.mem_cons_of_mem _ hx)) (by rw [List.append_assoc]; exact hV), List.append_assoc]
    rfl
theorem read_back {l : List S47} (hV : Vb l = true) (V1 : V l) : rdV (spA 32 [] (JN l l.length)) [] = (l, true) := by
  have hok : ∀ s, s ∈ l → okS s := by
    intro s hs
    obtain ⟨i, hi, rfl⟩ := List.getElem_of_mem hs
    have b := V1.2.1 i hi
    unfold X Y inb at b
    rw [List.getD_eq_getElem?_getD, List.getElem?_eq_getElem hi] at b
    exact b
  unfold JN
  rw [List.take_length, sp_join l (by intro e; have := V1.1; rw [e] at this; simp at this) hok, rd_back l [] hok (by rw [List.nil_append]; exact hV)]
  rfl
/-! ### the centre -/
def cx (l : List S47) (i : Nat) : Int := wrap64 (wrap64 (X l i * Y l (nx l i 1)) - wrap64 (X l (nx l i 1) * Y l i))
def MX (l : List S47) : Nat → Int
  | 0 => 0
  | i + 1 => wrap64 (MX l i + wrap64 (wrap64 (X l i + X l (nx l i 1)) * cx l i))
def MY (l : List S47) : Nat → Int
  | 0 => 0
  | i + 1 => wrap64 (MY l i + wrap64 (wrap64 (Y l i + Y l (nx l i 1)) * cx l i))
theorem cx_bound (l : List S47) (hb : inbox l) (i : Nat) (hi : i < l.length) : cx l i = X l i * Y l (nx l i 1) - X l (nx l i 1) * Y l i ∧ -8000000 ≤ cx l i ∧ cx l i ≤ 8000000 := by
  have b0 := hb i hi
  have b1 := hb _ (nx_lt l i 1 (by omega))
  unfold inb at b0 b1
  have m1 := mul_bound (a := X l i) (b := Y l (nx l i 1)) (A := 2000) (B := 2000) (by omega) (by omega) (by omega) (by omega)
  have m2 := mul_bound (a := X l (nx l i 1)) (b := Y l i) (A := 2000) (B := 2000) (by omega) (by omega) (by omega) (by omega)
  unfold cx
  rw [wrap_in (x := X l i * _) (by omega) (by omega), wrap_in (x := X l (nx l i 1) * _) (by omega) (by omega), wrap_in (by omega) (by omega)]
  omega
theorem T_bound (l : List S47) (h8 : l.length ≤ 8) (hb : inbox l) : ∀ i, i ≤ l.length → -8000000 * i ≤ T l i ∧ T l i ≤ 8000000 * i := by
  intro i
  induction i with
  | zero => intro _; simp [T]
  | succ i ih =>
    intro hi
    have := ih (by omega)
    have hc := cx_bound l hb i (by omega)
    unfold cx at hc
    simp only [T]
    rw [wrap_in (x := T l i + _) (by omega) (by omega)]
    omega
theorem MX_bound (l : List S47) (h8 : l.length ≤ 8) (hb : inbox l) : ∀ i, i ≤ l.length → -32000000000 * i ≤ MX l i ∧ MX l i ≤ 32000000000 * i := by
  intro i
  induction i with
  | zero => intro _; simp [MX]
  | succ i ih =>
    intro hi
    have := ih (by omega)
    have hc := cx_bound l hb i (by omega)
    have b0 := hb i (by omega)
    have b1 := hb _ (nx_lt l i 1 (by omega))
    unfold inb at b0 b1
    have m1 := mul_bound (a := X l i + X l (nx l i 1)) (b := cx l i) (A := 4000) (B := 8000000) (by omega) (by omega) (by omega) (by omega)
    simp only [MX]
    rw [wrap_in (x := X l i + _) (by omega) (by omega), wrap_in (x := (X l i + _) * _) (by omega) (by omega), wrap_in (x := MX l i + _) (by omega) (by omega)]
    omega
theorem MY_bound (l : List S47) (h8 : l.length ≤ 8) (hb : inbox l) : ∀ i, i ≤ l.length → -32000000000 * i ≤ MY l i ∧ MY l i ≤ 32000000000 * i := by
  intro i
  induction i with
  | zero => intro _; simp [MY]
  | succ i ih =>
    intro hi
    have := ih (by omega)
    have hc := cx_bound l hb i (by omega)
    have b0 := hb i (by omega)
    have b1 := hb _ (nx_lt l i 1 (by omega))
    unfold inb at b0 b1
    have m1 := mul_bound (a := Y l i + Y l (nx l i 1)) (b := cx l i) (A := 4000) (B := 8000000) (by omega) (by omega) (by omega) (by omega)
    simp only [MY]
    rw [wrap_in (x := Y l i + _) (by omega) (by omega), wrap_in (x := (Y l i + _) * _) (by omega) (by omega), wrap_in (x := MY l i + _) (by omega) (by omega)]
    omega
theorem specMoments (l : List S47) (hn : l.length < 9223372036854775000) : Ev (fun k => spec_l13Moments.f k l) (MX l l.length, MY l l.length) := by
  unfold spec_l13Moments.f
  refine loop_all (fun k i => spec_l13Moments.l0 k l (MX l i) (MY l i) (i : Int)) l.length _ (fun i hi k => ?_) (ev_end fun k => ?_)
  · show spec_l13Moments.l0 (k + 1) _ _ _ _ = spec_l13Moments.l0 k _ _ _ _
    simp only [spec_l13Moments.l0]
    have e : Int.tmod (wrap64 ((i : Int) + 1)) (l.length : Int) = ((nx l i 1 : Nat) : Int) := succ_mod i l.length (by omega) 1 (by omega)
    have hlt := nx_lt l i 1 (by omega)
    rw [e, if_pos (by omega), if_pos (by omega), if_neg (by omega), if_pos (by omega), if_pos (by omega), succ_cast i (by omega)]
    simp only [rdX, rdY]
    rfl
  · show spec_l13Moments.l0 (k + 1) _ _ _ _ = _
    simp only [spec_l13Moments.l0]
    rw [if_neg (by omega)]
def cval (l : List S47) : Int × Int × Int × Int × Int := ((lowest (MX l l.length) (3 * tw l)).1, (lowest (MX l l.length) (3 * tw l)).2, (lowest (MY l l.length) (3 * tw l)).1, (lowest (MY l l.length) (3 * tw l)).2, 0)
theorem specCentre (l : List S47) (hn : l.length < 9223372036854775000) : Ev (fun k => spec_CentreOf.f k l) (if Vb l = true then cval l else (0, 0, 0, 0, 1)) := by
  unfold spec_CentreOf.f
  refine ev_bind (specV l hn) ?_
  cases hV : Vb l
  · exact ev_now fun _ => rfl
  · have hv := V_of hV
    have b1 := T_bound l hv.1.2 hv.2.1 l.length (Nat.le_refl _)
    have b2 := MX_bound l hv.1.2 hv.2.1 l.length (Nat.le_refl _)
    have b3 := MY_bound l hv.1.2 hv.2.1 l.length (Nat.le_refl _)
    have b4 := hv.2.2.2.2
    have h8 := hv.1
    have ht : tw l ≤ 64000000 := by unfold tw; omega
    refine ev_if_pos rfl (ev_bind (specMoments l hn) (ev_bind (specTwice l hn) ?_))
    rw [wrap_in (x := 3 * tw l) (by omega) (by omega)]
    exact ev_bind (make (by omega) (by omega) (by omega) (by omega)) (ev_bind (make (by omega) (by omega) (by omega) (by omega)) (ev_now fun _ => rfl))
theorem implCentre (l : List S47) (hn : l.length < 9223372036854775000) : Ev (fun k => impl_CentreOf.f k l) (if Vb l = true then cval l else (0, 0, 0, 0, 1)) := by
  unfold impl_CentreOf.f
  refine ev_bind (implV l hn) ?_
  cases hV : Vb l
  · exact ev_now fun _ => rfl
  · have hv := V_of hV
    have b1 := T_bound l hv.1.2 hv.2.1 l.length (Nat.le_refl _)
    have b2 := MX_bound l hv.1.2 hv.2.1 l.length (Nat.le_refl _)
    have b3 := MY_bound l hv.1.2 hv.2.1 l.length (Nat.le_refl _)
    have b4 := hv.2.2.2.2
    have h8 := hv.1
    have ht : tw l ≤ 64000000 := by unfold tw; omega
    refine ev_if_pos rfl ?_
    refine loop_all (fun k i => impl_CentreOf.l0 k l (MX l i) (MY l i) l (l.length : Int) (i : Int)) l.length _ (fun i hi k => ?_) ?_
    · show impl_CentreOf.l0 (k + 1) _ _ _ _ _ _ = impl_CentreOf.l0 k _ _ _ _ _ _
      simp only [impl_CentreOf.l0]
      have e : Int.tmod (wrap64 ((i : Int) + 1)) (l.length : Int) = ((nx l i 1 : Nat) : Int) := succ_mod i l.length (by omega) 1 (by omega)
      have hlt := nx_lt l i 1 (by omega)
      rw [e, if_pos (by omega), if_pos (by omega), if_pos (by omega), if_neg (by omega), if_pos (by omega), if_pos (by omega), succ_cast i (by omega)]
      simp only [rdX, rdY]
      rfl
    · refine ev_step (f := fun k => (impl_twiceSail.f k l).bind fun t247 => ((impl_fraction.f k (MX l l.length) (wrap64 (3 * t247))).bind fun bt248 => ((impl_fraction.f k (MY l l.length) (wrap64 (3 * t247))).bind fun bt250 => (some (bt248.1, bt248.2, bt250.1, bt250.2, 0))))) (fun k => ?_) (ev_bind (implTwice l hn) ?_)
      · show impl_CentreOf.l0 (k + 1) _ _ _ _ _ _ = _
        simp only [impl_CentreOf.l0]
        rw [if_neg (by omega)]
      · rw [wrap_in (x := 3 * tw l) (by omega) (by omega)]
        exact ev_bind (frac (by omega) (by omega) (by omega) (by omega)) (ev_bind (frac (by omega) (by omega) (by omega) (by omega)) (ev_now fun _ => rfl))
/-! ### a sail that is moved -/
def mv (a b : Int) (x : S47) : S47 := ⟨wrap64 (x.f0 + a), wrap64 (x.f1 + b)⟩
theorem snoc_map {α β : Type} (l : List α) (z : α) (f : α → β) (i : Nat) (hi : i < l.length) : (l.take i).map f ++ [f (l.getD i z)] = (l.take (i + 1)).map f := by
  rw [List.take_succ_eq_append_getElem hi, List.map_append]
  simp [List.getD_eq_getElem?_getD, List.getElem?_eq_getElem hi]
open Classical in
noncomputable def mval (l : List S47) (a b : Int) : List S47 × Int := if V l then (if (-2000 ≤ a ∧ a ≤ 2000) ∧ (-2000 ≤ b ∧ b ≤ 2000) then (if V (l.map (mv a b)) then (l.map (mv a b), 0) else ([], 5)) else ([], 2)) else ([], 1)
theorem specMove (l : List S47) (a b : Int) (hn : l.length ≤ 1048576) : Ev (fun k => spec_MoveSail.f k l a b) (mval l a b) := by
  unfold spec_MoveSail.f mval
  refine ev_bind (specV l (by omega)) ?_
  by_cases hV : V l
  · rw [Vb_true hV, if_pos hV, specIn, specIn]
    refine ev_if_pos rfl (ev_some ?_)
    by_cases h1 : -2000 ≤ a ∧ a ≤ 2000
    · refine ev_if_pos (by simp [h1]) (ev_some ?_)
      by_cases h2 : -2000 ≤ b ∧ b ≤ 2000
      · rw [if_pos ⟨h1, h2⟩]
        simp only [h2, and_self, decide_true, Bool.not_true]
        refine ev_step (f := fun k => spec_MoveSail.l0 k l a b [] 0) (fun k => by simp only [spec_MoveSail.j0, Bool.false_eq_true, if_false]) ?_
        refine loop_all (fun k i => spec_MoveSail.l0 k l a b ((l.take i).map (mv a b)) (i : Int)) l.length _ (fun i hi k => ?_) ?_
        · show spec_MoveSail.l0 (k + 1) _ _ _ _ _ = spec_MoveSail.l0 k _ _ _ _ _
          simp only [spec_MoveSail.l0]
          rw [if_pos (by omega), if_pos (by omega), if_pos (by simp; omega), succ_cast i (by omega), ← snoc_map l z47 (mv a b) i hi]
          simp only [mv, rd_T47, getD_nat]
        · refine ev_step (f := fun k => (spec_l13Ok.f k (l.map (mv a b))).bind fun t178 => (if t178 = true then (some (l.map (mv a b), 0)) else (some (([] : List (S47)), 5)))) (fun k => ?_) (ev_bind (specV _ (by simp; omega)) ?_)
          · show spec_MoveSail.l0 (k + 1) _ _ _ _ _ = _
            simp only [spec_MoveSail.l0]
            rw [if_neg (by omega), List.take_length]
          · by_cases h3 : V (l.map (mv a b))
            · rw [Vb_true h3, if_pos h3]; exact ev_now fun _ => rfl
            · rw [Vb_false h3, if_neg h3]; exact ev_now fun _ => rfl
      · rw [if_neg (fun h => h2 h.2)]
        simp only [h2, decide_false, Bool.not_false]
        exact ev_end fun k => by simp only [spec_MoveSail.j0, if_true]
    · rw [if_neg (fun h => h1 h.1)]
      refine ev_if_neg (by simp [h1]) ?_
      exact ev_end fun k => by simp only [spec_MoveSail.j0, if_true]
  · rw [Vb_false hV, if_neg hV]
    exact ev_if_neg (by simp) (ev_now fun _ => rfl)
theorem implMove (l : List S47) (a b : Int) (hn : l.length ≤ 1048576) : Ev (fun k => impl_MoveSail.f k l a b) (mval l a b) := by
  unfold impl_MoveSail.f mval
  refine ev_bind (implV l (by omega)) ?_
  by_cases hV : V l
  · rw [Vb_true hV, if_pos hV, implIn, implIn]
    refine ev_if_pos rfl (ev_some ?_)
    by_cases h1 : -2000 ≤ a ∧ a ≤ 2000
    · refine ev_if_pos (by simp [h1]) (ev_some ?_)
      by_cases h2 : -2000 ≤ b ∧ b ≤ 2000
      · rw [if_pos ⟨h1, h2⟩]
        simp only [h2, and_self, decide_true, Bool.not_true]
        refine ev_step (f := fun k => impl_MoveSail.l0 k a b [] l (l.length : Int) 0) (fun k => by simp only [impl_MoveSail.j0, Bool.false_eq_true, if_false]) ?_
        refine loop_all (fun k i => impl_MoveSail.l0 k a b ((l.take i).map (mv a b)) l (l.length : Int) (i : Int)) l.length _ (fun i hi k => ?_) ?_
        · show impl_MoveSail.l0 (k + 1) _ _ _ _ _ _ = impl_MoveSail.l0 k _ _ _ _ _ _
          simp only [impl_MoveSail.l0]
          rw [if_pos (by omega), if_pos (by omega), if_pos (by omega), if_pos (by simp; omega), succ_cast i (by omega), ← snoc_map l z47 (mv a b) i hi]
          simp only [mv, rd_T47, getD_nat]
        · refine ev_step (f := fun k => (impl_ValidSail.f k (l.map (mv a b))).bind fun t178 => (if t178 = true then (some (l.map (mv a b), 0)) else (some (([] : List (S47)), 5)))) (fun k => ?_) (ev_bind (implV _ (by simp; omega)) ?_)
          · show impl_MoveSail.l0 (k + 1) _ _ _ _ _ _ = _
            simp only [impl_MoveSail.l0]
            rw [if_neg (by omega), List.take_length]
          · by_cases h3 : V (l.map (mv a b))
            · rw [Vb_true h3, if_pos h3]; exact ev_now fun _ => rfl
            · rw [Vb_false h3, if_neg h3]; exact ev_now fun _ => rfl
      · rw [if_neg (fun h => h2 h.2)]
        simp only [h2, decide_false, Bool.not_false]
        exact ev_end fun k => by simp only [impl_MoveSail.j0, if_true]
    · rw [if_neg (fun h => h1 h.1)]
      refine ev_if_neg (by simp [h1]) ?_
      exact ev_end fun k => by simp only [impl_MoveSail.j0, if_true]
  · rw [Vb_false hV, if_neg hV]
    exact ev_if_neg (by simp) (ev_now fun _ => rfl)
theorem mval_len (l : List S47) (a b : Int) : (mval l a b).1.length ≤ l.length := by
  unfold mval; repeat (first | split | simp)
/-! ### drawn sails -/
def oct8 : List S47 := [⟨300, 0⟩, ⟨500, 10⟩, ⟨600, 200⟩, ⟨590, 500⟩, ⟨450, 700⟩, ⟨200, 690⟩, ⟨50, 500⟩, ⟨20, 150⟩]
/-- What a drawn sail is: of at most four corners, or the one of eight, or of nine. -/
def Shape (l : List S47) : Prop := (2 ≤ l.length ∧ l.length ≤ 4) ∨ l = oct8 ∨ l.length = 9
theorem shape_len {l : List S47} (h : Shape l) : 2 ≤ l.length ∧ l.length ≤ 9 := by
  rcases h with h | h | h
  · omega
  · rw [h]; decide
  · omega
theorem among_ok {l L : List Int} (h : bytes l) (a s : Int) (h0 : 0 ≤ a) (h1 : a ≤ 1000000000) (hL : 0 < L.length) : ∃ v a' s', spec_l00Src_among.f l a s L = some (v, a', s') ∧ a ≤ a' ∧ a' ≤ a + 2 := by
  obtain ⟨v, a', s', e, b1, b2, b3, b4⟩ := pick_ok h a s (L.length : Int) h0 h1
  unfold spec_l00Src_among.f
  rw [e]
  simp only [Option.bind_some]
  rw [if_pos b1, if_pos (by omega)]
  exact ⟨_, _, _, rfl, b3, b4⟩
theorem one_ok {l : List Int} (h : bytes l) (a s n : Int) (h0 : 0 ≤ a) (h1 : a ≤ 1000000000) : ∃ v a' s', spec_l00Src_one.f l a s n = some (v, a', s') ∧ a ≤ a' ∧ a' ≤ a + 2 := by
  obtain ⟨v, a', s', e, b1, b2, b3, b4⟩ := pick_ok h a s n h0 h1
  unfold spec_l00Src_one.f
  rw [e]
  exact ⟨_, _, _, rfl, b3, b4⟩
theorem draw_ok {l : List Int} (h : bytes l) (a s : Int) (h0 : 0 ≤ a) (h1 : a ≤ 1000000) : ∃ L a' s', spec_l13Draw.f l a s = some (L, a', s') ∧ (3 ≤ L.length ∧ L.length ≤ 4) ∧ a ≤ a' ∧ a' ≤ a + 14 := by
  unfold spec_l13Draw.f
  obtain ⟨v1, a1, s1, e1, _, _, c1, d1⟩ := pick_ok h a s 40 h0 (by omega)
  rw [e1]; simp only [Option.bind_some]
  obtain ⟨v2, a2, s2, e2, _, _, c2, d2⟩ := pick_ok h a1 s1 40 (by omega) (by omega)
  rw [e2]; simp only [Option.bind_some]
  obtain ⟨v3, a3, s3, e3, _, _, c3, d3⟩ := pick_ok h a2 s2 60 (by omega) (by omega)
  rw [e3]; simp only [Option.bind_some]
  obtain ⟨v4, a4, s4, e4, _, _, c4, d4⟩ := pick_ok h a3 s3 60 (by omega) (by omega)
  rw [e4]; simp only [Option.bind_some]
  obtain ⟨v5, a5, s5, e5, _, _, c5, d5⟩ := pick_ok h a4 s4 4 (by omega) (by omega)
  rw [e5]; simp only [Option.bind_some]
  by_cases k0 : v5 = 0
  · rw [if_pos k0]
    obtain ⟨v6, a6, s6, e6, _, _, c6, d6⟩ := pick_ok h a5 s5 10 (by omega) (by omega)
    rw [e6]; simp only [Option.bind_some]
    obtain ⟨v7, a7, s7, e7, _, _, c7, d7⟩ := pick_ok h a6 s6 (wrap64 (20 + wrap64 (5 * v3))) (by omega) (by omega)
    rw [e7]
    exact ⟨_, _, _, rfl, ⟨by simp, by simp⟩, by (try dsimp only); omega, by (try dsimp only); omega⟩
  rw [if_neg k0]
  by_cases k1 : v5 = 1
  · rw [if_pos k1]
    obtain ⟨v6, a6, s6, e6, _, _, c6, d6⟩ := pick_ok h a5 s5 10 (by omega) (by omega)
    rw [e6]
    exact ⟨_, _, _, rfl, ⟨by simp, by simp⟩, by (try dsimp only); omega, by (try dsimp only); omega⟩
  rw [if_neg k1]
  by_cases k2 : v5 = 2
  · rw [if_pos k2]
    obtain ⟨v6, a6, s6, e6, _, _, c6, d6⟩ := pick_ok h a5 s5 (wrap64 (Int.tdiv (wrap64 (20 + wrap64 (5 * v3))) 3)) (by omega) (by omega)
    rw [e6]
    exact ⟨_, _, _, rfl, ⟨by simp, by simp⟩, by (try dsimp only); omega, by (try dsimp only); omega⟩
  rw [if_neg k2]
  exact ⟨_, _, _, rfl, ⟨by simp, by simp⟩, by (try dsimp only); omega, by (try dsimp only); omega⟩
theorem bent_ok {l : List Int} (h : bytes l) (a s : Int) (h0 : 0 ≤ a) (h1 : a ≤ 100000) : ∃ L a' s', spec_l13Bent.f l a s = some (L, a', s') ∧ Shape L ∧ a ≤ a' ∧ a' ≤ a + 100 := by
  unfold spec_l13Bent.f
  obtain ⟨L, a1, s1, e1, hL, c1, d1⟩ := draw_ok h a s h0 (by omega)
  rw [e1]; simp only [Option.bind_some]
  obtain ⟨v2, a2, s2, e2, p2, q2, c2, d2⟩ := pick_ok h a1 s1 (L.length : Int) (by omega) (by omega)
  rw [e2]; simp only [Option.bind_some]
  rw [if_pos p2, if_pos (show v2 < (L.length : Int) by omega)]
  obtain ⟨v3, a3, s3, e3, _, _, c3, d3⟩ := pick_ok h a2 s2 24 (by omega) (by omega)
  rw [e3]; simp only [Option.bind_some]
  by_cases k0 : v3 = 0
  · rw [if_pos k0]
    obtain ⟨v4, a4, s4, e4, c4, d4⟩ := among_ok (L := [(-1), 0, 2000, 2001, (-9223372036854775808)]) h a3 s3 (by omega) (by omega) (by decide)
    rw [e4]
    exact ⟨_, _, _, rfl, .inl (by rw [List.length_set]; omega), by (try dsimp only); omega, by (try dsimp only); omega⟩
  rw [if_neg k0]
  by_cases k1 : v3 = 1
  · rw [if_pos k1]
    obtain ⟨v4, a4, s4, e4, c4, d4⟩ := among_ok (L := [(-1), 0, 2000, 2001]) h a3 s3 (by omega) (by omega) (by decide)
    rw [e4]
    exact ⟨_, _, _, rfl, .inl (by rw [List.length_set]; omega), by (try dsimp only); omega, by (try dsimp only); omega⟩
  rw [if_neg k1]
  by_cases k2 : v3 = 2
  · rw [if_pos k2, if_pos (show 2 ≤ (L.length : Int) by omega)]
    exact ⟨_, _, _, rfl, .inl (by rw [List.length_take, show (2 : Int).toNat = 2 from rfl]; omega), by (try dsimp only); omega, by (try dsimp only); omega⟩
  rw [if_neg k2]
  by_cases k3 : v3 = 3
  · rw [if_pos k3]
    obtain ⟨v4, a4, s4, e4, c4, d4⟩ := one_ok h a3 s3 2 (by omega) (by omega)
    rw [e4]; simp only [Option.bind_some]
    cases v4
    · rw [if_neg Bool.false_ne_true]
      exact ⟨_, _, _, rfl, .inr (.inl rfl), by (try dsimp only); omega, by (try dsimp only); omega⟩
    · rw [if_pos rfl, if_pos (by decide)]
      exact ⟨_, _, _, rfl, .inr (.inr rfl), by (try dsimp only); omega, by (try dsimp only); omega⟩
  rw [if_neg k3]
  by_cases k4 : v3 = 4
  · rw [if_pos k4, if_pos (show 0 < (L.length : Int) by omega), if_pos (show 1 < (L.length : Int) by omega)]
    exact ⟨_, _, _, rfl, .inl (by rw [List.length_set, List.length_set]; omega), by (try dsimp only); omega, by (try dsimp only); omega⟩
  rw [if_neg k4]
  exact ⟨_, _, _, rfl, .inl (by omega), by (try dsimp only); omega, by (try dsimp only); omega⟩
/-! ### sums without bounds; a sail that is moved; the centre -/
theorem T_next (l : List S47) (h8 : l.length ≤ 8) (hb : inbox l) (i : Nat) (hi : i < l.length) : T l (i + 1) = T l i + (X l i * Y l (nx l i 1) - X l (nx l i 1) * Y l i) := by
  have b := T_bound l h8 hb i (by omega)
  obtain ⟨e, c1, c2⟩ := cx_bound l hb i hi
  have : T l (i + 1) = wrap64 (T l i + cx l i) := rfl
  rw [this, wrap_in (by omega) (by omega), e]
theorem MX_next (l : List S47) (h8 : l.length ≤ 8) (hb : inbox l) (i : Nat) (hi : i < l.length) : MX l (i + 1) = MX l i + (X l i + X l (nx l i 1)) * (X l i * Y l (nx l i 1) - X l (nx l i 1) * Y l i) := by
  have b := MX_bound l h8 hb i (by omega)
  obtain ⟨e, c1, c2⟩ := cx_bound l hb i hi
  have b0 := (hb i hi).1
  have b1 := (hb _ (nx_lt l i 1 (by omega))).1
  unfold inb at b0 b1
  have m1 := mul_bound (a := X l i + X l (nx l i 1)) (b := cx l i) (A := 4000) (B := 8000000) (by omega) (by omega) (by omega) (by omega)
  have : MX l (i + 1) = wrap64 (MX l i + wrap64 (wrap64 (X l i + X l (nx l i 1)) * cx l i)) := rfl
  rw [this, wrap_in (x := X l i + X l (nx l i 1)) (by omega) (by omega), wrap_in (x := (X l i + X l (nx l i 1)) * cx l i) (by omega) (by omega), wrap_in (by omega) (by omega), e]
theorem MY_next (l : List S47) (h8 : l.length ≤ 8) (hb : inbox l) (i : Nat) (hi : i < l.length) : MY l (i + 1) = MY l i + (Y l i + Y l (nx l i 1)) * (X l i * Y l (nx l i 1) - X l (nx l i 1) * Y l i) := by
  have b := MY_bound l h8 hb i (by omega)
  obtain ⟨e, c1, c2⟩ := cx_bound l hb i hi
  have b0 := (hb i hi).2
  have b1 := (hb _ (nx_lt l i 1 (by omega))).2
  unfold inb at b0 b1
  have m1 := mul_bound (a := Y l i + Y l (nx l i 1)) (b := cx l i) (A := 4000) (B := 8000000) (by omega) (by omega) (by omega) (by omega)
  have : MY l (i + 1) = wrap64 (MY l i + wrap64 (wrap64 (Y l i + Y l (nx l i 1)) * cx l i)) := rfl
  rw [this, wrap_in (x := Y l i + Y l (nx l i 1)) (by omega) (by omega), wrap_in (x := (Y l i + Y l (nx l i 1)) * cx l i) (by omega) (by omega), wrap_in (by omega) (by omega), e]
/-- l' is l, moved by a and b -/
def Mvd (l l' : List S47) (a b : Int) : Prop := l'.length = l.length ∧ ∀ i, i < l.length → X l' i = X l i + a ∧ Y l' i = Y l i + b
theorem mvd_of {l : List S47} {a b : Int} (hb : inbox l) (ha : -2000 ≤ a ∧ a ≤ 2000) (hb' : -2000 ≤ b ∧ b ≤ 2000) : Mvd l (l.map (mv a b)) a b := by
  refine ⟨List.length_map .., fun i hi => ?_⟩
  have b0 := hb i hi
  unfold inb at b0
  have e : (l.map (mv a b)).getD i z47 = mv a b (l.getD i z47) := by
    rw [List.getD_eq_getElem?_getD, List.getElem?_map, List.getD_eq_getElem?_getD, List.getElem?_eq_getElem hi]; rfl
  have c0 := b0.1
  have c1 := b0.2
  unfold X Y at *
  rw [e]
  unfold mv
  exact ⟨wrap_in (by omega) (by omega), wrap_in (by omega) (by omega)⟩
theorem nx_mod {l : List S47} {k : Nat} (hk : k < l.length) : nx l k 1 = (k + 1) % l.length := rfl
theorem mod_self {n k : Nat} (hk : k < n) : k % n = k := Nat.mod_eq_of_lt hk
theorem moved {l l' : List S47} {a b : Int} (h8 : l.length ≤ 8) (h0 : 0 < l.length) (hb : inbox l) (hb' : inbox l') (hM : Mvd l l' a b) : ∀ k, k ≤ l.length →
    T l' k = T l k + b * (X l 0 - X l (k % l.length)) + a * (Y l (k % l.length) - Y l 0) ∧
    MX l' k = MX l k + 3 * a * T l k + (b * (X l 0 * X l 0 - X l (k % l.length) * X l (k % l.length)) + a * (X l (k % l.length) * Y l (k % l.length) - X l 0 * Y l 0) + 2 * a * (b * (X l 0 - X l (k % l.length)) + a * (Y l (k % l.length) - Y l 0))) ∧
    MY l' k = MY l k + 3 * b * T l k + (a * (Y l (k % l.length) * Y l (k % l.length) - Y l 0 * Y l 0) + b * (X l 0 * Y l 0 - X l (k % l.length) * Y l (k % l.length)) + 2 * b * (b * (X l 0 - X l (k % l.length)) + a * (Y l (k % l.length) - Y l 0))) := by
  intro k
  induction k with
  | zero =>
    intro _
    rw [Nat.zero_mod]
    refine ⟨?_, ?_, ?_⟩
    · show (0 : Int) = 0 + _ + _
      grind
    · show (0 : Int) = 0 + 3 * a * 0 + _
      grind
    · show (0 : Int) = 0 + 3 * b * 0 + _
      grind
  | succ k ih =>
    intro hk
    obtain ⟨i1, i2, i3⟩ := ih (by omega)
    have hl := hM.1
    have hk' : k < l.length := by omega
    have q0 := hM.2 k hk'
    have hn := nx_lt l k 1 (by omega)
    have q1 := hM.2 _ hn
    have en : nx l' k 1 = nx l k 1 := by unfold nx; rw [hl]
    have t := T_next l h8 hb k hk'
    have t' := T_next l' (by omega) hb' k (by omega)
    have mx := MX_next l h8 hb k hk'
    have mx' := MX_next l' (by omega) hb' k (by omega)
    have my := MY_next l h8 hb k hk'
    have my' := MY_next l' (by omega) hb' k (by omega)
    rw [en, q0.1, q0.2, q1.1, q1.2] at t' mx' my'
    rw [mod_self hk'] at i1 i2 i3
    rw [nx_mod hk'] at t mx my t' mx' my'
    generalize X l ((k + 1) % l.length) = xn at *
    generalize Y l ((k + 1) % l.length) = yn at *
    generalize X l k = xk at *
    generalize Y l k = yk at *
    generalize X l 0 = x0 at *
    generalize Y l 0 = y0 at *
    rw [t, mx, my, t', mx', my', i1, i2, i3]
    refine ⟨?_, ?_, ?_⟩ <;> grind
theorem moved_all {l l' : List S47} {a b : Int} (h8 : l.length ≤ 8) (h0 : 0 < l.length) (hb : inbox l) (hb' : inbox l') (hM : Mvd l l' a b) :
    tw l' = tw l ∧ MX l' l'.length = MX l l.length + a * (3 * tw l) ∧ MY l' l'.length = MY l l.length + b * (3 * tw l) := by
  obtain ⟨i1, i2, i3⟩ := moved h8 h0 hb hb' hM l.length (Nat.le_refl _)
  rw [Nat.mod_self] at i1 i2 i3
  unfold tw
  rw [hM.1]
  refine ⟨?_, ?_, ?_⟩
  · rw [i1]; grind
  · rw [i2]; grind
  · rw [i3]; grind
/-! the centre of a sail of three or four corners lies in its box -/
theorem sums3 {l : List S47} (h : l.length = 3) (hb : inbox l) :
    tw l = crs (X l 0) (Y l 0) (X l 1) (Y l 1) (X l 2) (Y l 2) ∧ MX l l.length = (X l 0 + X l 1 + X l 2) * tw l ∧ MY l l.length = (Y l 0 + Y l 1 + Y l 2) * tw l := by
  have a0 := T_next l (by omega) hb 0 (by omega)
  have a1 := T_next l (by omega) hb 1 (by omega)
  have a2 := T_next l (by omega) hb 2 (by omega)
  have b0 := MX_next l (by omega) hb 0 (by omega)
  have b1 := MX_next l (by omega) hb 1 (by omega)
  have b2 := MX_next l (by omega) hb 2 (by omega)
  have c0 := MY_next l (by omega) hb 0 (by omega)
  have c1 := MY_next l (by omega) hb 1 (by omega)
  have c2 := MY_next l (by omega) hb 2 (by omega)
  have z : T l 0 = 0 := rfl
  have z1 : MX l 0 = 0 := rfl
  have z2 : MY l 0 = 0 := rfl
  simp only [nx, h, Nat.reduceAdd, Nat.reduceMod] at a0 a1 a2 b0 b1 b2 c0 c1 c2
  have e : tw l = T l 3 := by unfold tw; rw [h]
  rw [e, h]
  refine ⟨?_, ?_, ?_⟩
  · rw [a2, a1, a0, z]; unfold crs; grind
  · rw [b2, b1, b0, z1, a2, a1, a0, z]; grind
  · rw [c2, c1, c0, z2, a2, a1, a0, z]; grind
theorem sums4 {l : List S47} (h : l.length = 4) (hb : inbox l) :
    tw l = cr l 0 + cr l 2 ∧ tw l = cr l 1 + cr l 3 ∧
    MX l l.length = (X l 0 + X l 1 + X l 2) * cr l 0 + (X l 0 + X l 2 + X l 3) * cr l 2 ∧ MX l l.length = (X l 1 + X l 2 + X l 3) * cr l 1 + (X l 0 + X l 1 + X l 3) * cr l 3 ∧
    MY l l.length = (Y l 0 + Y l 1 + Y l 2) * cr l 0 + (Y l 0 + Y l 2 + Y l 3) * cr l 2 ∧ MY l l.length = (Y l 1 + Y l 2 + Y l 3) * cr l 1 + (Y l 0 + Y l 1 + Y l 3) * cr l 3 := by
  have a0 := T_next l (by omega) hb 0 (by omega)
  have a1 := T_next l (by omega) hb 1 (by omega)
  have a2 := T_next l (by omega) hb 2 (by omega)
  have a3 := T_next l (by omega) hb 3 (by omega)
  have b0 := MX_next l (by omega) hb 0 (by omega)
  have b1 := MX_next l (by omega) hb 1 (by omega)
  have b2 := MX_next l (by omega) hb 2 (by omega)
  have b3 := MX_next l (by omega) hb 3 (by omega)
  have c0 := MY_next l (by omega) hb 0 (by omega)
  have c1 := MY_next l (by omega) hb 1 (by omega)
  have c2 := MY_next l (by omega) hb 2 (by omega)
  have c3 := MY_next l (by omega) hb 3 (by omega)
  have z : T l 0 = 0 := rfl
  have z1 : MX l 0 = 0 := rfl
  have z2 : MY l 0 = 0 := rfl
  simp only [nx, h, Nat.reduceAdd, Nat.reduceMod] at a0 a1 a2 a3 b0 b1 b2 b3 c0 c1 c2 c3
  have e : tw l = T l 4 := by unfold tw; rw [h]
  rw [e, h]
  simp only [cr, nx, h, Nat.reduceAdd, Nat.reduceMod]
  refine ⟨?_, ?_, ?_, ?_, ?_, ?_⟩
  · rw [a3, a2, a1, a0, z]; unfold crs; grind
  · rw [a3, a2, a1, a0, z]; unfold crs; grind
  · rw [b3, b2, b1, b0, z1]; unfold crs; grind
  · rw [b3, b2, b1, b0, z1]; unfold crs; grind
  · rw [c3, c2, c1, c0, z2]; unfold crs; grind
  · rw [c3, c2, c1, c0, z2]; unfold crs; grind
/-- one of the two diagonals lies within -/
theorem diag4 {l : List S47} (h : l.length = 4) (hV : V l) : (0 < cr l 0 ∧ 0 < cr l 2) ∨ (0 < cr l 1 ∧ 0 < cr l 3) := by
  obtain ⟨_, hb, hc, hm, ht⟩ := hV
  obtain ⟨s1, s2, _⟩ := sums4 h hb
  have n0 := hc 0 (by omega)
  have n1 := hc 1 (by omega)
  have n2 := hc 2 (by omega)
  have n3 := hc 3 (by omega)
  have m1 := hm 0 2 (by omega) (by omega) (by omega)
  have m2 := hm 1 3 (by omega) (by omega) (by omega)
  have e0 : crs (X l 0) (Y l 0) (X l 1) (Y l 1) (X l 2) (Y l 2) = cr l 0 := by simp only [cr, nx, h, Nat.reduceAdd, Nat.reduceMod]
  have e0' : crs (X l 1) (Y l 1) (X l 2) (Y l 2) (X l 0) (Y l 0) = cr l 0 := by simp only [cr, nx, h, Nat.reduceAdd, Nat.reduceMod]; unfold crs; grind
  have e1 : crs (X l 1) (Y l 1) (X l 2) (Y l 2) (X l 3) (Y l 3) = cr l 1 := by simp only [cr, nx, h, Nat.reduceAdd, Nat.reduceMod]
  have e1' : crs (X l 2) (Y l 2) (X l 3) (Y l 3) (X l 1) (Y l 1) = cr l 1 := by simp only [cr, nx, h, Nat.reduceAdd, Nat.reduceMod]; unfold crs; grind
  have e2 : crs (X l 2) (Y l 2) (X l 3) (Y l 3) (X l 0) (Y l 0) = cr l 2 := by simp only [cr, nx, h, Nat.reduceAdd, Nat.reduceMod]
  have e2' : crs (X l 3) (Y l 3) (X l 0) (Y l 0) (X l 2) (Y l 2) = cr l 2 := by simp only [cr, nx, h, Nat.reduceAdd, Nat.reduceMod]; unfold crs; grind
  have e3 : crs (X l 3) (Y l 3) (X l 0) (Y l 0) (X l 1) (Y l 1) = cr l 3 := by simp only [cr, nx, h, Nat.reduceAdd, Nat.reduceMod]
  have e3' : crs (X l 0) (Y l 0) (X l 1) (Y l 1) (X l 3) (Y l 3) = cr l 3 := by simp only [cr, nx, h, Nat.reduceAdd, Nat.reduceMod]; unfold crs; grind
  have k1 : (sid (X l 0) (Y l 0) (X l 1) (Y l 1) (X l 2) (Y l 2) (X l 3) (Y l 3) && sid (X l 2) (Y l 2) (X l 3) (Y l 3) (X l 0) (Y l 0) (X l 1) (Y l 1)) = false := by
    simp only [mtl, nx, h, Nat.reduceAdd, Nat.reduceMod] at m1
    exact (Bool.or_eq_false_iff.1 m1).2
  have k2 : (sid (X l 1) (Y l 1) (X l 2) (Y l 2) (X l 3) (Y l 3) (X l 0) (Y l 0) && sid (X l 3) (Y l 3) (X l 0) (Y l 0) (X l 1) (Y l 1) (X l 2) (Y l 2)) = false := by
    simp only [mtl, nx, h, Nat.reduceAdd, Nat.reduceMod] at m2
    exact (Bool.or_eq_false_iff.1 m2).2
  unfold sid at k1 k2
  rw [e0, e3', e2, e1'] at k1
  rw [e1, e0', e3, e2'] at k2
  clear m1 m2 e0 e0' e1 e1' e2 e2' e3 e3' hm hc
  generalize cr l 0 = c0 at *
  generalize cr l 1 = c1 at *
  generalize cr l 2 = c2 at *
  generalize cr l 3 = c3 at *
  unfold opp at k1 k2
  rw [Bool.and_eq_false_iff, decide_eq_false_iff_not, decide_eq_false_iff_not] at k1 k2
  rw [s1] at ht
  have ht2 : 0 < c1 + c3 := by omega
  clear s1 s2
  omega
theorem pos_of {p q : Int} (hp : 0 < p) (hq : 0 < q) : 0 < p * q := Int.mul_pos hp hq
theorem nn_of {p q : Int} (hp : 0 ≤ p) (hq : 0 < q) : 0 ≤ p * q := Int.mul_nonneg hp (Int.le_of_lt hq)
/-- a triangle with an area has corners of more than one place each way -/
theorem crs_x {ax ay bx by_ cx cy m : Int} (h : crs ax ay bx by_ cx cy ≠ 0) (h1 : m ≤ ax) (h2 : m ≤ bx) (h3 : m ≤ cx) : 3 * m < ax + bx + cx := by
  rcases Int.lt_or_le (3 * m) (ax + bx + cx) with g | g
  · exact g
  · exfalso
    obtain rfl : ax = m := by omega
    obtain rfl : bx = ax := by omega
    obtain rfl : cx = bx := by omega
    apply h; unfold crs; rw [Int.sub_self, Int.zero_mul, Int.mul_zero]; rfl
theorem crs_y {ax ay bx by_ cx cy m : Int} (h : crs ax ay bx by_ cx cy ≠ 0) (h1 : m ≤ ay) (h2 : m ≤ by_) (h3 : m ≤ cy) : 3 * m < ay + by_ + cy := by
  rcases Int.lt_or_le (3 * m) (ay + by_ + cy) with g | g
  · exact g
  · exfalso
    obtain rfl : ay = m := by omega
    obtain rfl : by_ = ay := by omega
    obtain rfl : cy = by_ := by omega
    apply h; unfold crs; rw [Int.sub_self, Int.mul_zero, Int.zero_mul]; rfl
theorem crs_neg (ax ay bx by_ cx cy : Int) : crs (-ax) (-ay) (-bx) (-by_) (-cx) (-cy) = crs ax ay bx by_ cx cy := by unfold crs; grind
theorem crs_xM {ax ay bx by_ cx cy m : Int} (h : crs ax ay bx by_ cx cy ≠ 0) (h1 : ax ≤ m) (h2 : bx ≤ m) (h3 : cx ≤ m) : ax + bx + cx < 3 * m := by
  have := crs_x (m := -m) (by rw [crs_neg]; exact h) (show -m ≤ -ax by omega) (show -m ≤ -bx by omega) (show -m ≤ -cx by omega)
  omega
theorem crs_yM {ax ay bx by_ cx cy m : Int} (h : crs ax ay bx by_ cx cy ≠ 0) (h1 : ay ≤ m) (h2 : by_ ≤ m) (h3 : cy ≤ m) : ay + by_ + cy < 3 * m := by
  have := crs_y (m := -m) (by rw [crs_neg]; exact h) (show -m ≤ -ay by omega) (show -m ≤ -by_ by omega) (show -m ≤ -cy by omega)
  omega
/-- the box: least and greatest places -/
def Box (l : List S47) (m M p P : Int) : Prop := ∀ i, i < l.length → (m ≤ X l i ∧ X l i ≤ M) ∧ (p ≤ Y l i ∧ Y l i ≤ P)
def InBox (l : List S47) (m M p P : Int) : Prop := (m * (3 * tw l) < MX l l.length ∧ MX l l.length < M * (3 * tw l)) ∧ (p * (3 * tw l) < MY l l.length ∧ MY l l.length < P * (3 * tw l)) ∧ tw l ≤ 2 * (M - m) * (P - p)
theorem mix {s t u v m : Int} (h1 : 0 < u) (h2 : 0 < v) (a : 3 * m < s) (b : 3 * m < t) : m * (3 * (u + v)) < s * u + t * v := by
  have p1 := pos_of (show 0 < s - 3 * m by omega) h1
  have p2 := pos_of (show 0 < t - 3 * m by omega) h2
  grind
theorem mixM {s t u v m : Int} (h1 : 0 < u) (h2 : 0 < v) (a : s < 3 * m) (b : t < 3 * m) : s * u + t * v < m * (3 * (u + v)) := by
  have p1 := pos_of (show 0 < 3 * m - s by omega) h1
  have p2 := pos_of (show 0 < 3 * m - t by omega) h2
  grind
theorem area_le {a b c d w h : Int} (h1 : -w ≤ a ∧ a ≤ w) (h2 : -h ≤ b ∧ b ≤ h) (h3 : -h ≤ c ∧ c ≤ h) (h4 : -w ≤ d ∧ d ≤ w) : a * b - c * d ≤ 2 * w * h := by
  have m1 := mul_bound h1.1 h1.2 h2.1 h2.2
  have m2 := mul_bound h3.1 h3.2 h4.1 h4.2
  have e := Int.mul_comm h w
  have e2 : 2 * w * h = w * h + w * h := by grind
  omega
theorem in3 {l : List S47} (h : l.length = 3) (hV : V l) {m M p P : Int} (hB : Box l m M p P) : InBox l m M p P := by
  obtain ⟨_, hb, hc, _, ht⟩ := hV
  obtain ⟨s1, s2, s3⟩ := sums3 h hb
  have n0 := hc 0 (by omega)
  have e0 : crs (X l 0) (Y l 0) (X l 1) (Y l 1) (X l 2) (Y l 2) = cr l 0 := by simp only [cr, nx, h, Nat.reduceAdd, Nat.reduceMod]
  obtain ⟨⟨a1, a2⟩, a3, a4⟩ := hB 0 (by omega)
  obtain ⟨⟨b1, b2⟩, b3, b4⟩ := hB 1 (by omega)
  obtain ⟨⟨c1, c2⟩, c3, c4⟩ := hB 2 (by omega)
  rw [← e0] at n0
  have x1 := crs_x n0 a1 b1 c1
  have x2 := crs_xM n0 a2 b2 c2
  have y1 := crs_y n0 a3 b3 c3
  have y2 := crs_yM n0 a4 b4 c4
  have p1 := pos_of (show 0 < X l 0 + X l 1 + X l 2 - 3 * m by omega) ht
  have p2 := pos_of (show 0 < 3 * M - (X l 0 + X l 1 + X l 2) by omega) ht
  have p3 := pos_of (show 0 < Y l 0 + Y l 1 + Y l 2 - 3 * p by omega) ht
  have p4 := pos_of (show 0 < 3 * P - (Y l 0 + Y l 1 + Y l 2) by omega) ht
  unfold InBox
  rw [s2, s3]
  refine ⟨⟨by grind, by grind⟩, ⟨by grind, by grind⟩, ?_⟩
  rw [s1]
  unfold crs
  exact area_le (by omega) (by omega) (by omega) (by omega)
theorem in4 {l : List S47} (h : l.length = 4) (hV : V l) {m M p P : Int} (hB : Box l m M p P) : InBox l m M p P := by
  have hd := diag4 h hV
  obtain ⟨_, hb, hc, _, ht⟩ := hV
  obtain ⟨s1, s2, s3, s4, s5, s6⟩ := sums4 h hb
  have n0 := hc 0 (by omega)
  have n1 := hc 1 (by omega)
  have n2 := hc 2 (by omega)
  have n3 := hc 3 (by omega)
  have e0 : cr l 0 = crs (X l 0) (Y l 0) (X l 1) (Y l 1) (X l 2) (Y l 2) := by simp only [cr, nx, h, Nat.reduceAdd, Nat.reduceMod]
  have e1 : cr l 1 = crs (X l 1) (Y l 1) (X l 2) (Y l 2) (X l 3) (Y l 3) := by simp only [cr, nx, h, Nat.reduceAdd, Nat.reduceMod]
  have e2 : cr l 2 = crs (X l 0) (Y l 0) (X l 2) (Y l 2) (X l 3) (Y l 3) := by simp only [cr, nx, h, Nat.reduceAdd, Nat.reduceMod]; unfold crs; grind
  have e3 : cr l 3 = crs (X l 0) (Y l 0) (X l 1) (Y l 1) (X l 3) (Y l 3) := by simp only [cr, nx, h, Nat.reduceAdd, Nat.reduceMod]; unfold crs; grind
  obtain ⟨⟨a1, a2⟩, a3, a4⟩ := hB 0 (by omega)
  obtain ⟨⟨b1, b2⟩, b3, b4⟩ := hB 1 (by omega)
  obtain ⟨⟨c1, c2⟩, c3, c4⟩ := hB 2 (by omega)
  obtain ⟨⟨d1, d2⟩, d3, d4⟩ := hB 3 (by omega)
  have ha : tw l ≤ 2 * (M - m) * (P - p) := by
    have e : tw l = (X l 2 - X l 0) * (Y l 3 - Y l 1) - (Y l 2 - Y l 0) * (X l 3 - X l 1) := by rw [s1, e0, e2]; unfold crs; grind
    rw [e]
    exact area_le (by omega) (by omega) (by omega) (by omega)
  rw [e0] at n0
  rw [e1] at n1
  rw [e2] at n2
  rw [e3] at n3
  unfold InBox
  rcases hd with ⟨q1, q2⟩ | ⟨q1, q2⟩
  · rw [s3, s5]
    refine ⟨⟨?_, ?_⟩, ⟨?_, ?_⟩, ha⟩ <;> rw [s1]
    · exact mix q1 q2 (crs_x n0 a1 b1 c1) (crs_x n2 a1 c1 d1)
    · exact mixM q1 q2 (crs_xM n0 a2 b2 c2) (crs_xM n2 a2 c2 d2)
    · exact mix q1 q2 (crs_y n0 a3 b3 c3) (crs_y n2 a3 c3 d3)
    · exact mixM q1 q2 (crs_yM n0 a4 b4 c4) (crs_yM n2 a4 c4 d4)
  · rw [s4, s6]
    refine ⟨⟨?_, ?_⟩, ⟨?_, ?_⟩, ha⟩ <;> rw [s2]
    · exact mix q1 q2 (crs_x n1 b1 c1 d1) (crs_x n3 a1 b1 d1)
    · exact mixM q1 q2 (crs_xM n1 b2 c2 d2) (crs_xM n3 a2 b2 d2)
    · exact mix q1 q2 (crs_y n1 b3 c3 d3) (crs_y n3 a3 b3 d3)
    · exact mixM q1 q2 (crs_yM n1 b4 c4 d4) (crs_yM n3 a4 b4 d4)
def TZ (l : List S47) : Nat → Int
  | 0 => 0
  | i + 1 => TZ l i + (X l i * Y l (nx l i 1) - X l (nx l i 1) * Y l i)
def MXZ (l : List S47) : Nat → Int
  | 0 => 0
  | i + 1 => MXZ l i + (X l i + X l (nx l i 1)) * (X l i * Y l (nx l i 1) - X l (nx l i 1) * Y l i)
def MYZ (l : List S47) : Nat → Int
  | 0 => 0
  | i + 1 => MYZ l i + (Y l i + Y l (nx l i 1)) * (X l i * Y l (nx l i 1) - X l (nx l i 1) * Y l i)
theorem all_Z (l : List S47) (h8 : l.length ≤ 8) (hb : inbox l) : ∀ k, k ≤ l.length → T l k = TZ l k ∧ MX l k = MXZ l k ∧ MY l k = MYZ l k
  | 0, _ => ⟨rfl, rfl, rfl⟩
  | k + 1, h => by
    obtain ⟨e1, e2, e3⟩ := all_Z l h8 hb k (by omega)
    rw [T_next l h8 hb k (by omega), MX_next l h8 hb k (by omega), MY_next l h8 hb k (by omega), e1, e2, e3]
    exact ⟨rfl, rfl, rfl⟩
theorem in8 : InBox oct8 20 600 0 700 := by
  have hb : inbox oct8 := by unfold inbox inb; decide
  obtain ⟨e1, e2, e3⟩ := all_Z oct8 (by decide) hb oct8.length (Nat.le_refl _)
  unfold InBox tw
  rw [e1, e2, e3]
  decide
/-! ### the law: drawn texts and lists -/
theorem same_self (l : List S47) (h : l.length ≤ 1048576) : Ev (fun k => spec_SameSail.f k l l) true := by
  unfold spec_SameSail.f
  refine ev_if_pos rfl (loop_all (fun k i => spec_SameSail.l0 k l l (i : Int)) l.length true (fun i hi k => ?_) (ev_end fun k => ?_))
  · show spec_SameSail.l0 (k + 1) _ _ _ = spec_SameSail.l0 k _ _ _
    simp only [spec_SameSail.l0]
    rw [if_pos (by omega), if_pos (by omega), if_pos (by omega), if_neg (by simp), succ_cast i (by omega)]
  · show spec_SameSail.l0 (k + 1) _ _ _ = _
    simp only [spec_SameSail.l0]
    rw [if_neg (by omega)]
theorem same (a b : List S47) (ha : a.length ≤ 1048576) : ∃ r : Bool, Ev (fun k => spec_SameSail.f k a b) r ∧ Ev (fun k => impl_SameSail.f k a b) r := by
  unfold spec_SameSail.f impl_SameSail.f impl_Spot.f
  by_cases h : (a.length : Int) = (b.length : Int)
  · have key : ∀ (m i : Nat), a.length - i = m → i ≤ a.length → ∃ r : Bool, Ev (fun k => spec_SameSail.l0 k a b (i : Int)) r ∧ Ev (fun k => impl_Spot.l0 k a b (a.length : Int) (i : Int)) r := by
      intro m
      induction m with
      | zero =>
        intro i h1 h2
        obtain rfl : i = a.length := by omega
        refine ⟨true, ev_end fun k => ?_, ev_end fun k => ?_⟩
        · simp only [spec_SameSail.l0]; rw [if_neg (by omega)]
        · simp only [impl_Spot.l0]; rw [if_neg (by omega)]
      | succ m ih =>
        intro i h1 h2
        obtain ⟨r, h3, h4⟩ := ih (i + 1) (by omega) (by omega)
        by_cases hc : (!(((rd_T47 a (i : Int)).f0) == ((rd_T47 b (i : Int)).f0)) || (!(((rd_T47 a (i : Int)).f1) == ((rd_T47 b (i : Int)).f1)))) = true
        · refine ⟨false, ev_end fun k => ?_, ev_end fun k => ?_⟩
          · simp only [spec_SameSail.l0]; rw [if_pos (by omega), if_pos (by omega), if_pos (by omega), if_pos hc]
          · simp only [impl_Spot.l0]; rw [if_pos (by omega), if_pos (by omega), if_pos (by omega), if_pos (by omega), if_pos hc]
        · refine ⟨r, ev_step (fun k => ?_) h3, ev_step (fun k => ?_) h4⟩
          · simp only [spec_SameSail.l0]; rw [if_pos (by omega), if_pos (by omega), if_pos (by omega), if_neg hc, succ_cast i (by omega)]
          · simp only [impl_Spot.l0]; rw [if_pos (by omega), if_pos (by omega), if_pos (by omega), if_pos (by omega), if_neg hc, succ_cast i (by omega)]
    obtain ⟨r, h1, h2⟩ := key a.length 0 (by omega) (by omega)
    exact ⟨r, ev_if_pos h h1, ev_bind (ev_if_pos h h2) (ev_now fun _ => rfl)⟩
  · exact ⟨false, ev_if_neg h (ev_now fun _ => rfl), ev_bind (ev_if_neg h (ev_now fun _ => rfl)) (ev_now fun _ => rfl)⟩
/-- drawn sails lie within the bounds -/
theorem draw_in {l : List Int} (h : bytes l) (a s : Int) (h0 : 0 ≤ a) (h1 : a ≤ 1000000) : ∃ L a' s', spec_l13Draw.f l a s = some (L, a', s') ∧ (3 ≤ L.length ∧ L.length ≤ 4) ∧ (a ≤ a' ∧ a' ≤ a + 14) ∧ ∀ x, x ∈ L → okS x := by
  unfold spec_l13Draw.f
  obtain ⟨v1, a1, s1, e1, p1, q1, c1, d1⟩ := pick_ok h a s 40 h0 (by omega)
  rw [e1]; simp only [Option.bind_some]
  obtain ⟨v2, a2, s2, e2, p2, q2, c2, d2⟩ := pick_ok h a1 s1 40 (by omega) (by omega)
  rw [e2]; simp only [Option.bind_some]
  obtain ⟨v3, a3, s3, e3, p3, q3, c3, d3⟩ := pick_ok h a2 s2 60 (by omega) (by omega)
  rw [e3]; simp only [Option.bind_some]
  obtain ⟨v4, a4, s4, e4, p4, q4, c4, d4⟩ := pick_ok h a3 s3 60 (by omega) (by omega)
  rw [e4]; simp only [Option.bind_some]
  obtain ⟨v5, a5, s5, e5, _, _, c5, d5⟩ := pick_ok h a4 s4 4 (by omega) (by omega)
  rw [e5]; simp only [Option.bind_some]
  have w3 : wrap64 (20 + wrap64 (5 * v3)) = 20 + 5 * v3 := by rw [wrap_in (x := 5 * v3) (by omega) (by omega), wrap_in (by omega) (by omega)]
  have w4 : wrap64 (20 + wrap64 (5 * v4)) = 20 + 5 * v4 := by rw [wrap_in (x := 5 * v4) (by omega) (by omega), wrap_in (by omega) (by omega)]
  rw [w3, w4]
  have two : ∀ x : Int, 0 ≤ x → Int.tdiv x 2 = x / 2 := fun x hx => Int.tdiv_eq_ediv_of_nonneg hx
  have three : ∀ x : Int, 0 ≤ x → Int.tdiv x 3 = x / 3 := fun x hx => Int.tdiv_eq_ediv_of_nonneg hx
  rw [two _ (by omega), two _ (by omega), three _ (by omega)]
  have wx : wrap64 (v1 + (20 + 5 * v3)) = v1 + (20 + 5 * v3) := wrap_in (by omega) (by omega)
  have wy : wrap64 (v2 + (20 + 5 * v4)) = v2 + (20 + 5 * v4) := wrap_in (by omega) (by omega)
  have wh : wrap64 ((20 + 5 * v3) / 2) = (20 + 5 * v3) / 2 := wrap_in (by omega) (by omega)
  have wk : wrap64 ((20 + 5 * v4) / 2) = (20 + 5 * v4) / 2 := wrap_in (by omega) (by omega)
  have wt : wrap64 ((20 + 5 * v3) / 3) = (20 + 5 * v3) / 3 := wrap_in (by omega) (by omega)
  rw [wx, wy, wh, wk, wt]
  by_cases k0 : v5 = 0
  · rw [if_pos k0]
    obtain ⟨v6, a6, s6, e6, p6, q6, c6, d6⟩ := pick_ok h a5 s5 10 (by omega) (by omega)
    rw [e6]; simp only [Option.bind_some]
    obtain ⟨v7, a7, s7, e7, p7, q7, c7, d7⟩ := pick_ok h a6 s6 (20 + 5 * v3) (by omega) (by omega)
    rw [e7]; simp only [Option.bind_some]
    rw [wrap_in (x := v2 + v6) (by omega) (by omega), wrap_in (x := v1 + v7) (by omega) (by omega)]
    refine ⟨_, _, _, rfl, ⟨by simp, by simp⟩, ⟨by omega, by omega⟩, fun x hx => ?_⟩
    simp only [List.mem_cons, List.not_mem_nil, or_false] at hx
    rcases hx with rfl | rfl | rfl <;> (unfold okS; dsimp only; omega)
  rw [if_neg k0]
  by_cases k1 : v5 = 1
  · rw [if_pos k1]
    obtain ⟨v6, a6, s6, e6, p6, q6, c6, d6⟩ := pick_ok h a5 s5 10 (by omega) (by omega)
    rw [e6]; simp only [Option.bind_some]
    rw [wrap_in (x := v1 + (20 + 5 * v3) - v6) (by omega) (by omega), wrap_in (x := v2 + (20 + 5 * v4) + 15) (by omega) (by omega)]
    refine ⟨_, _, _, rfl, ⟨by simp, by simp⟩, ⟨by omega, by omega⟩, fun x hx => ?_⟩
    simp only [List.mem_cons, List.not_mem_nil, or_false] at hx
    rcases hx with rfl | rfl | rfl | rfl <;> (unfold okS; dsimp only; omega)
  rw [if_neg k1]
  by_cases k2 : v5 = 2
  · rw [if_pos k2]
    obtain ⟨v6, a6, s6, e6, p6, q6, c6, d6⟩ := pick_ok h a5 s5 ((20 + 5 * v3) / 3) (by omega) (by omega)
    rw [e6]; simp only [Option.bind_some]
    rw [wrap_in (x := v1 + (20 + 5 * v3) - v6) (by omega) (by omega), wrap_in (x := v1 + v6) (by omega) (by omega)]
    refine ⟨_, _, _, rfl, ⟨by simp, by simp⟩, ⟨by omega, by omega⟩, fun x hx => ?_⟩
    simp only [List.mem_cons, List.not_mem_nil, or_false] at hx
    rcases hx with rfl | rfl | rfl | rfl <;> (unfold okS; dsimp only; omega)
  rw [if_neg k2]
  rw [wrap_in (x := v1 + (20 + 5 * v3) / 2) (by omega) (by omega), wrap_in (x := v1 + (20 + 5 * v3) / 2 + 1) (by omega) (by omega), wrap_in (x := v2 + (20 + 5 * v4) / 2) (by omega) (by omega), wrap_in (x := v1 + 2) (by omega) (by omega)]
  refine ⟨_, _, _, rfl, ⟨by simp, by simp⟩, ⟨by omega, by omega⟩, fun x hx => ?_⟩
  simp only [List.mem_cons, List.not_mem_nil, or_false] at hx
  rcases hx with rfl | rfl | rfl | rfl <;> (unfold okS; dsimp only; omega)
theorem text_ok {l : List Int} {L : List ByteArray} (h : bytes l) (a s : Int) (h0 : 0 ≤ a) (h1 : a ≤ 1000000000) (hL : 0 < L.length) (hz : ∀ b, b ∈ L → b.size ≤ 1) : ∃ b a' s', spec_l00Src_text.f l a s L = some (b, a', s') ∧ b.size ≤ 1 := by
  obtain ⟨v, a', s', e, b1, b2, b3, b4⟩ := pick_ok h a s (L.length : Int) h0 h1
  unfold spec_l00Src_text.f
  rw [e]
  simp only [Option.bind_some]
  rw [if_pos b1, if_pos (by omega)]
  refine ⟨_, _, _, rfl, ?_⟩
  obtain ⟨n, rfl⟩ := Int.eq_ofNat_of_zero_le b1
  unfold rdOf
  rw [getD_nat, List.getD_eq_getElem?_getD, List.getElem?_eq_getElem (by omega)]
  exact hz _ (List.getElem_mem _)
theorem spoil_ok {l : List Int} (h : bytes l) (a s : Int) (h0 : 0 ≤ a) (h1 : a ≤ 1000000) (t : ByteArray) (ht : t.size ≤ 10000) : ∃ b a' s', spec_l01Spoil.f l a s t = some (b, a', s') ∧ b.size ≤ 10001 := by
  unfold spec_l01Spoil.f
  obtain ⟨v1, a1, s1, e1, p1, q1, c1, d1⟩ := pick_ok h a s 5 h0 (by omega)
  rw [e1]; simp only [Option.bind_some]
  by_cases k0 : v1 = 0
  · rw [if_pos k0, wrap_in (x := (t.size : Int) + 1) (by omega) (by omega)]
    obtain ⟨v2, a2, s2, e2, p2, q2, c2, d2⟩ := pick_ok h a1 s1 ((t.size : Int) + 1) (by omega) (by omega)
    rw [e2]; simp only [Option.bind_some]
    rw [if_pos p2, if_pos (show v2 ≤ (t.size : Int) by omega)]
    obtain ⟨b, a3, s3, e3, hb⟩ := text_ok (L := [(⟨#[32]⟩ : ByteArray), (⟨#[48]⟩ : ByteArray), (⟨#[45]⟩ : ByteArray), (⟨#[120]⟩ : ByteArray), (⟨#[49]⟩ : ByteArray), (⟨#[57]⟩ : ByteArray), (⟨#[46]⟩ : ByteArray)]) h a2 s2 (by omega) (by omega) (by decide) (by decide)
    rw [e3]; simp only [Option.bind_some]
    have z1 : (t.extract 0 v2.toNat).size ≤ t.size := by rw [ByteArray.size_extract]; omega
    have z2 : (t.extract v2.toNat t.size).size ≤ t.size - v2.toNat := by rw [ByteArray.size_extract]; omega
    have z3 : (t.extract 0 v2.toNat).size ≤ v2.toNat := by rw [ByteArray.size_extract]; omega
    rw [if_pos (by omega), if_pos (by rw [ByteArray.size_append]; omega)]
    refine ⟨_, _, _, rfl, ?_⟩
    rw [ByteArray.size_append, ByteArray.size_append]
    omega
  rw [if_neg k0]
  by_cases k1 : v1 = 1
  · rw [if_pos k1]
    by_cases hn : t.toList = []
    · rw [if_pos hn]; exact ⟨_, _, _, rfl, by omega⟩
    · rw [if_neg hn]
      have hp : 0 < t.size := by
        rcases Nat.eq_zero_or_pos t.size with e | e
        · exfalso; apply hn
          rw [Lib.toList_data]
          have := Lib.size_eq t
          exact List.length_eq_zero_iff.mp (by omega)
        · exact e
      obtain ⟨v2, a2, s2, e2, p2, q2, c2, d2⟩ := pick_ok h a1 s1 (t.size : Int) (by omega) (by omega)
      rw [e2]; simp only [Option.bind_some]
      have hw : wrap64 (v2 + 1) = v2 + 1 := wrap_in (by omega) (by omega)
      rw [hw, if_pos p2, if_pos (show v2 ≤ (t.size : Int) by omega), if_pos (show 0 ≤ v2 + 1 by omega), if_pos (show v2 + 1 ≤ (t.size : Int) by omega)]
      have z1 : (t.extract 0 v2.toNat).size ≤ t.size := by rw [ByteArray.size_extract]; omega
      have z2 : (t.extract (v2 + 1).toNat t.size).size ≤ t.size - (v2 + 1).toNat := by rw [ByteArray.size_extract]; omega
      have z3 : (t.extract 0 v2.toNat).size ≤ v2.toNat := by rw [ByteArray.size_extract]; omega
      rw [if_pos (by omega)]
      refine ⟨_, _, _, rfl, ?_⟩
      rw [ByteArray.size_append]
      omega
  rw [if_neg k1]
  exact ⟨_, _, _, rfl, by omega⟩
theorem drawM {c : List Int} (bc : bytes c) : ∃ l x y, Ev (fun k => spec_DrawMoveSail.f k c) (l, x, y) ∧ Shape l := by
  obtain ⟨L, a1, s1, e1, hL, c1, d1⟩ := bent_ok bc 0 0 (by omega) (by omega)
  obtain ⟨v2, a2, s2, e2, _, _, c2, d2⟩ := pick_ok bc a1 s1 100 (by omega) (by omega)
  obtain ⟨v3, a3, s3, e3, c3, d3⟩ := one_ok bc a2 s2 10 (by omega) (by omega)
  have j : ∀ x (a s : Int), 0 ≤ a → a ≤ 1000000 → ∃ y, Ev (fun k => spec_DrawMoveSail.j0 k L x c a s) (L, x, y) := by
    intro x a s h0 h1
    obtain ⟨v4, a4, s4, e4, c4, d4⟩ := one_ok bc a s 10 (by omega) (by omega)
    cases v4 with
    | true =>
      obtain ⟨v5, a5, s5, e5, c5, d5⟩ := among_ok (L := [(-2001), (-2000), 2000, 2001, (-9223372036854775808)]) bc a4 s4 (by omega) (by omega) (by decide)
      refine ⟨v5, ev_end fun k => ?_⟩
      simp only [spec_DrawMoveSail.j0]
      rw [e4, Option.bind_some, if_pos rfl, e5]
      rfl
    | false =>
      obtain ⟨v5, a5, s5, e5, _, _, c5, d5⟩ := pick_ok bc a4 s4 100 (by omega) (by omega)
      refine ⟨wrap64 (v5 - 30), ev_end fun k => ?_⟩
      simp only [spec_DrawMoveSail.j0]
      rw [e4, Option.bind_some, if_neg Bool.false_ne_true, e5]
      rfl
  unfold spec_DrawMoveSail.f spec_l00From.f
  cases v3 with
  | true =>
    obtain ⟨v4, a4, s4, e4, c4, d4⟩ := among_ok (L := [(-2001), (-2000), 2000, 2001]) bc a3 s3 (by omega) (by omega) (by decide)
    obtain ⟨y, hy⟩ := j v4 a4 s4 (by omega) (by omega)
    exact ⟨L, v4, y, ev_some (ev_bind (ev_const e1) (ev_bind (ev_const e2) (ev_bind (ev_const e3) (ev_if_pos rfl (ev_bind (ev_const e4) hy))))), hL⟩
  | false =>
    obtain ⟨y, hy⟩ := j (wrap64 (v2 - 40)) a3 s3 (by omega) (by omega)
    exact ⟨L, wrap64 (v2 - 40), y, ev_some (ev_bind (ev_const e1) (ev_bind (ev_const e2) (ev_bind (ev_const e3) (ev_if_neg Bool.false_ne_true hy)))), hL⟩
theorem drawT {c : List Int} (bc : bytes c) : ∃ l, spec_DrawSailText.f c = some l ∧ Shape l := by
  obtain ⟨L, a1, s1, e1, hL, c1, d1⟩ := bent_ok bc 0 0 (by omega) (by omega)
  exact ⟨L, Option.bind_eq_some_iff.2 ⟨(c, 0, 0), rfl, Option.bind_eq_some_iff.2 ⟨(L, a1, s1), e1, rfl⟩⟩, hL⟩
theorem drawR {c : List Int} (bc : bytes c) : ∃ s : List UInt8, Ev (fun k => spec_DrawReadSail.f k c) (bs s) ∧ s.length ≤ 1048576 := by
  obtain ⟨L, a1, s1, e1, hL, ⟨c1, d1⟩, hok⟩ := draw_in bc 0 0 (by omega) (by omega)
  have hb : ∀ i, i < L.length → (0 ≤ (L.getD i z47).f0 ∧ (L.getD i z47).f0 ≤ 2000) ∧ 0 ≤ (L.getD i z47).f1 ∧ (L.getD i z47).f1 ≤ 2000 := by
    intro i hi
    rw [List.getD_eq_getElem?_getD, List.getElem?_eq_getElem hi]
    exact hok _ (List.getElem_mem hi)
  have ht := textS L (by omega) hb
  have hz := JN_le L hb L.length (Nat.le_refl _)
  obtain ⟨v2, a2, s2, e2, c2, d2⟩ := one_ok bc a1 s1 3 (by omega) (by omega)
  unfold spec_DrawReadSail.f spec_l00From.f
  cases v2 with
  | true =>
    obtain ⟨b, a3, s3, e3, hb3⟩ := spoil_ok bc a2 s2 (by omega) (by omega) (bs (JN L L.length)) (by rw [bs_size]; omega)
    refine ⟨b.data.toList, ?_, by have := Lib.size_eq b; omega⟩
    rw [bs_of]
    exact ev_some (ev_bind (ev_const e1) (ev_bind ht (ev_bind (ev_const e2) (ev_if_pos rfl (ev_bind (ev_const e3) (ev_now fun _ => rfl))))))
  | false => exact ⟨JN L L.length, ev_some (ev_bind (ev_const e1) (ev_bind ht (ev_bind (ev_const e2) (ev_if_neg Bool.false_ne_true (ev_now fun _ => rfl))))), by omega⟩
theorem drawS {c : List Int} (bc : bytes c) : ∃ a b, Ev (fun k => spec_DrawSameSail.f k c) (a, b) ∧ a.length ≤ 1048576 := by
  obtain ⟨L, a1, s1, e1, hL, c1, d1⟩ := draw_ok bc 0 0 (by omega) (by omega)
  obtain ⟨v2, a2, s2, e2, c2, d2⟩ := one_ok bc a1 s1 2 (by omega) (by omega)
  have j : ∀ (b : List S47) (a s : Int), 0 ≤ a → a ≤ 1000000 → b.length ≤ 100 → ∃ b', Ev (fun k => spec_DrawSameSail.j0 k L b c a s) (L, b') := by
    intro b a s h0 h1 hb
    obtain ⟨v4, a4, s4, e4, c4, d4⟩ := one_ok bc a s 5 (by omega) (by omega)
    cases v4 with
    | true =>
      refine ⟨b ++ [⟨0, 0⟩], ev_end fun k => ?_⟩
      simp only [spec_DrawSameSail.j0]
      rw [e4, Option.bind_some, if_pos rfl, if_pos (by omega)]
    | false =>
      refine ⟨b, ev_end fun k => ?_⟩
      simp only [spec_DrawSameSail.j0]
      rw [e4, Option.bind_some, if_neg Bool.false_ne_true]
  unfold spec_DrawSameSail.f spec_l00From.f
  cases v2 with
  | true =>
    obtain ⟨v3, a3, s3, e3, _, _, c3, d3⟩ := pick_ok bc a2 s2 2 (by omega) (by omega)
    obtain ⟨b', hb'⟩ := j (([] ++ L).set (0 : Int).toNat ⟨(rd_T47 ([] ++ L) 0).f0, wrap64 (((rd_T47 ([] ++ L) 0).f1) + v3)⟩) a3 s3 (by omega) (by omega) (by rw [List.length_set]; simp; omega)
    exact ⟨L, b', ev_some (ev_bind (ev_const e1) (ev_some (ev_if_pos (by simp; omega) (ev_some (ev_bind (ev_const e2) (ev_if_pos rfl (ev_if_pos (by simp; omega) (ev_bind (ev_const e3) hb')))))))), by omega⟩
  | false =>
    obtain ⟨b', hb'⟩ := j ([] ++ L) a2 s2 (by omega) (by omega) (by simp; omega)
    exact ⟨L, b', ev_some (ev_bind (ev_const e1) (ev_some (ev_if_pos (by simp; omega) (ev_some (ev_bind (ev_const e2) (ev_if_neg Bool.false_ne_true hb')))))), by omega⟩
/-! ### the law: what both answer -/
noncomputable def TwR (l : List S47) : Int × Int := if Vb l = true then (tw l, 0) else (0, 1)
theorem twiceR (l : List S47) (hn : l.length < 9223372036854775000) : Ev (fun k => spec_TwiceSail.f k l) (TwR l) ∧ Ev (fun k => impl_TwiceSail.f k l) (TwR l) := by
  have sV := specV l hn
  have iV := implV l hn
  unfold spec_TwiceSail.f impl_TwiceSail.f TwR
  cases hV : Vb l with
  | false =>
    rw [hV] at sV iV
    exact ⟨ev_bind sV (ev_if_neg Bool.false_ne_true (ev_now fun _ => rfl)), ev_bind iV (ev_if_neg Bool.false_ne_true (ev_now fun _ => rfl))⟩
  | true =>
    rw [hV] at sV iV
    exact ⟨ev_bind sV (ev_if_pos rfl (ev_bind (specTwice l hn) (ev_now fun _ => rfl))), ev_bind iV (ev_if_pos rfl (ev_bind (implTwice l hn) (ev_now fun _ => rfl)))⟩
noncomputable def CR (l : List S47) : Int × Int × Int × Int × Int := if Vb l = true then cval l else (0, 0, 0, 0, 1)
noncomputable def TR (l : List S47) : Bool × Int := if Vb l = true then (((l.length : Int) == 3), 0) else (false, 1)
theorem triR (l : List S47) (hn : l.length < 9223372036854775000) : Ev (fun k => spec_IsTriangle.f k l) (TR l) ∧ Ev (fun k => impl_IsTriangle.f k l) (TR l) := by
  have sV := specV l hn
  have iV := implV l hn
  unfold spec_IsTriangle.f impl_IsTriangle.f TR
  cases hV : Vb l with
  | false =>
    rw [hV] at sV iV
    exact ⟨ev_bind sV (ev_if_neg Bool.false_ne_true (ev_now fun _ => rfl)), ev_bind iV (ev_if_neg Bool.false_ne_true (ev_now fun _ => rfl))⟩
  | true =>
    rw [hV] at sV iV
    exact ⟨ev_bind sV (ev_if_pos rfl (ev_now fun _ => rfl)), ev_bind iV (ev_if_pos rfl (ev_now fun _ => rfl))⟩
/-- a sail's text -/
noncomputable def tx (l : List S47) : List UInt8 := if Vb l = true then JN l l.length else []
theorem bs_nil : bs [] = (⟨#[]⟩ : ByteArray) := rfl
theorem textR (l : List S47) (hn : l.length < 9223372036854775000) : Ev (fun k => spec_SailText.f k l) (bs (tx l)) ∧ Ev (fun k => impl_SailText.f k l) (bs (tx l)) := by
  have sV := specV l hn
  have iV := implV l hn
  unfold spec_SailText.f impl_SailText.f tx
  cases hV : Vb l with
  | false =>
    rw [hV] at sV iV
    exact ⟨ev_bind sV (ev_if_neg Bool.false_ne_true (ev_now fun _ => rfl)), ev_bind iV (ev_if_neg Bool.false_ne_true (ev_now fun _ => rfl))⟩
  | true =>
    rw [hV] at sV iV
    have V1 := V_of hV
    have hb := V1.2.1
    have hbb : ∀ i, i < l.length → (0 ≤ (l.getD i z47).f0 ∧ (l.getD i z47).f0 ≤ 2000) ∧ 0 ≤ (l.getD i z47).f1 ∧ (l.getD i z47).f1 ≤ 2000 := fun i hi => hb i hi
    rw [if_pos rfl]
    exact ⟨ev_bind sV (ev_if_pos rfl (ev_bind (textS _ V1.1.2 hbb) (ev_now fun _ => rfl))), ev_bind iV (ev_if_pos rfl (textI _ V1.1.2 hbb))⟩
theorem tx_len (l : List S47) : (tx l).length ≤ 1048576 := by
  unfold tx
  split
  · rename_i hV
    have V1 := V_of hV
    have hb := V1.2.1
    have h8 := V1.1.2
    have := JN_le l (fun i hi => hb i hi) l.length (Nat.le_refl _)
    omega
  · simp
theorem tx_read (l : List S47) : rdV (spA 32 [] (tx l)) [] = if Vb l = true then (l, true) else ([], false) := by
  unfold tx
  cases hV : Vb l with
  | true => rw [if_pos rfl, if_pos rfl]; exact read_back hV (V_of hV)
  | false =>
    rw [if_neg Bool.false_ne_true, if_neg Bool.false_ne_true]
    rfl
theorem tx_ne {l : List S47} (h : Vb l = true) : tx l ≠ [] := by
  intro e
  have h1 := tx_read l
  rw [e, if_pos h] at h1
  have h2 : rdV (spA 32 [] ([] : List UInt8)) [] = (([] : List S47), false) := rfl
  rw [h2] at h1
  have := congrArg Prod.snd h1
  simp at this
/-! least and greatest -/
def bmin (f : Nat → Int) : Nat → Int
  | 0 => f 0
  | i + 1 => mn (bmin f i) (f i)
def bmax (f : Nat → Int) : Nat → Int
  | 0 => f 0
  | i + 1 => mx (bmax f i) (f i)
theorem bmin_le (f : Nat → Int) : ∀ n i, i < n → bmin f n ≤ f i
  | 0, i, h => by omega
  | n + 1, i, h => by
    have ih := bmin_le f n i
    show mn (bmin f n) (f n) ≤ f i
    rw [mn_min]
    rcases Nat.lt_or_ge i n with g | g
    · have := ih g; omega
    · obtain rfl : i = n := by omega
      omega
theorem bmax_ge (f : Nat → Int) : ∀ n i, i < n → f i ≤ bmax f n
  | 0, i, h => by omega
  | n + 1, i, h => by
    have ih := bmax_ge f n i
    show f i ≤ mx (bmax f n) (f n)
    rw [mx_max]
    rcases Nat.lt_or_ge i n with g | g
    · have := ih g; omega
    · obtain rfl : i = n := by omega
      omega
theorem bmin_in (f : Nat → Int) (A B : Int) : ∀ n, (∀ i, i < n → A ≤ f i ∧ f i ≤ B) → 0 < n → A ≤ bmin f n ∧ bmin f n ≤ B
  | 0, _, h => by omega
  | 1, h, _ => by have := h 0 (by omega); show A ≤ mn (f 0) (f 0) ∧ mn (f 0) (f 0) ≤ B; rw [mn_min]; omega
  | n + 2, h, _ => by
    have ih := bmin_in f A B (n + 1) (fun i hi => h i (by omega)) (by omega)
    have := h (n + 1) (by omega)
    show A ≤ mn (bmin f (n + 1)) (f (n + 1)) ∧ mn (bmin f (n + 1)) (f (n + 1)) ≤ B
    rw [mn_min]; omega
theorem bmax_in (f : Nat → Int) (A B : Int) : ∀ n, (∀ i, i < n → A ≤ f i ∧ f i ≤ B) → 0 < n → A ≤ bmax f n ∧ bmax f n ≤ B
  | 0, _, h => by omega
  | 1, h, _ => by have := h 0 (by omega); show A ≤ mx (f 0) (f 0) ∧ mx (f 0) (f 0) ≤ B; rw [mx_max]; omega
  | n + 2, h, _ => by
    have ih := bmax_in f A B (n + 1) (fun i hi => h i (by omega)) (by omega)
    have := h (n + 1) (by omega)
    show A ≤ mx (bmax f (n + 1)) (f (n + 1)) ∧ mx (bmax f (n + 1)) (f (n + 1)) ≤ B
    rw [mx_max]; omega
theorem in_all {l : List S47} (hS : Shape l) (hV : V l) : InBox l (bmin (X l) l.length) (bmax (X l) l.length) (bmin (Y l) l.length) (bmax (Y l) l.length) := by
  have hB : Box l (bmin (X l) l.length) (bmax (X l) l.length) (bmin (Y l) l.length) (bmax (Y l) l.length) := fun i hi => ⟨⟨bmin_le _ _ i hi, bmax_ge _ _ i hi⟩, bmin_le _ _ i hi, bmax_ge _ _ i hi⟩
  have h3 := hV.1
  rcases hS with h | h | h
  · have e : l.length = 3 ∨ l.length = 4 := by omega
    rcases e with e | e
    · exact in3 e hV hB
    · exact in4 e hV hB
  · subst h
    have e1 : bmin (X oct8) oct8.length = 20 := by decide
    have e2 : bmax (X oct8) oct8.length = 600 := by decide
    have e3 : bmin (Y oct8) oct8.length = 0 := by decide
    have e4 : bmax (Y oct8) oct8.length = 700 := by decide
    rw [e1, e2, e3, e4]
    exact in8
  · omega
theorem low_lt {n d m : Int} (hd : 0 < d) (h : m * d < n) : m * (lowest n d).2 < (lowest n d).1 := by
  have g := gcd_pos (n := n) hd
  have e1 := lowest_num n d
  have e2 := lowest_den n d
  generalize (Int.gcd n d : Int) = q at *
  rcases Int.lt_or_le (m * (lowest n d).2) (lowest n d).1 with r | r
  · exact r
  · exfalso
    have := Int.mul_le_mul_of_nonneg_right r (Int.le_of_lt g)
    rw [Int.mul_assoc, e1, e2] at this
    omega
theorem lt_high {n d m : Int} (hd : 0 < d) (h : n < m * d) : (lowest n d).1 < m * (lowest n d).2 := by
  have g := gcd_pos (n := n) hd
  have e1 := lowest_num n d
  have e2 := lowest_den n d
  generalize (Int.gcd n d : Int) = q at *
  rcases Int.lt_or_le (lowest n d).1 (m * (lowest n d).2) with r | r
  · exact r
  · exfalso
    have := Int.mul_le_mul_of_nonneg_right r (Int.le_of_lt g)
    rw [Int.mul_assoc, e1, e2] at this
    omega
theorem lowest_shift {n d a : Int} (hd : 0 < d) : lowest (n + a * d) d = ((lowest n d).1 + a * (lowest n d).2, (lowest n d).2) := by
  have g := gcd_pos (n := n) hd
  have e1 := lowest_num n d
  have e2 := lowest_den n d
  have hg : Int.gcd (n + a * d) d = Int.gcd n d := Int.gcd_add_mul_right_left ..
  have f1 := lowest_num (n + a * d) d
  have f2 : (lowest (n + a * d) d).2 = (lowest n d).2 := by unfold lowest; rw [hg]
  rw [hg] at f1
  generalize (Int.gcd n d : Int) = q at *
  have h1 : (lowest (n + a * d) d).1 = (lowest n d).1 + a * (lowest n d).2 := by
    apply Int.eq_of_mul_eq_mul_right (show q ≠ 0 by omega)
    rw [f1, Int.add_mul, Int.mul_assoc, e1, e2]
  exact Prod.ext h1 f2
theorem cbounds {l : List S47} (hV : V l) : (0 < tw l ∧ tw l ≤ 64000000) ∧ (-256000000000 ≤ MX l l.length ∧ MX l l.length ≤ 256000000000) ∧ (-256000000000 ≤ MY l l.length ∧ MY l l.length ≤ 256000000000) := by
  have b1 := T_bound l hV.1.2 hV.2.1 l.length (Nat.le_refl _)
  have b2 := MX_bound l hV.1.2 hV.2.1 l.length (Nat.le_refl _)
  have b3 := MY_bound l hV.1.2 hV.2.1 l.length (Nat.le_refl _)
  have b4 := hV.2.2.2.2
  have h8 := hV.1
  have : tw l = T l l.length := rfl
  omega
/-! ### the law: a sail that is moved -/
theorem law_j2 {l : List S47} {x y : Int} (hV : V l) : Ev (fun k => laws_FnSailAreas.j2 k x y (mval l x y).1 (mval l x y).2 (tw l) (cval l).1 (cval l).2.1 (cval l).2.2.1 (cval l).2.2.2.1) true := by
  by_cases h : (mval l x y).2 = 0
  · have h2 : (-2000 ≤ x ∧ x ≤ 2000) ∧ (-2000 ≤ y ∧ y ≤ 2000) ∧ V (l.map (mv x y)) ∧ mval l x y = (l.map (mv x y), 0) := by
      unfold mval at h ⊢
      rw [if_pos hV] at h ⊢
      split at h
      · rename_i g
        rw [if_pos g]
        split at h
        · rename_i g2
          rw [if_pos g2]
          exact ⟨g.1, g.2, g2, rfl⟩
        · simp at h
      · simp at h
    obtain ⟨hx, hy, hV2, hm⟩ := h2
    rw [hm]
    have hl := (mvd_of hV.2.1 hx hy).1
    have h8 := hV.1
    obtain ⟨m1, m2, m3⟩ := moved_all h8.2 (by omega) hV.2.1 hV2.2.1 (mvd_of hV.2.1 hx hy)
    obtain ⟨c1, c2, c3⟩ := cbounds hV
    have hd : 0 < 3 * tw l := by omega
    have hn : (l.map (mv x y)).length < 9223372036854775000 := by omega
    have t1 := (twiceR (l.map (mv x y)) hn).2
    have t2 := implCentre (l.map (mv x y)) hn
    unfold TwR at t1
    rw [Vb_true hV2, if_pos rfl] at t1 t2
    have e1 := lowest_shift (n := MX l l.length) (d := 3 * tw l) (a := x) hd
    have e2 := lowest_shift (n := MY l l.length) (d := 3 * tw l) (a := y) hd
    have ec : cval (l.map (mv x y)) = ((cval l).1 + x * (cval l).2.1, (cval l).2.1, (cval l).2.2.1 + y * (cval l).2.2.2.1, (cval l).2.2.2.1, 0) := by
      unfold cval
      rw [m1, m2, m3, e1, e2]
    rw [ec] at t2
    rw [m1] at t1
    clear ec e1 e2 m1 m2 m3
    have b1 := lowest_bound (n := MX l l.length) hd (B := 256000000000) (by omega) (by omega) (by omega)
    have b2 := lowest_bound (n := MY l l.length) hd (B := 256000000000) (by omega) (by omega) (by omega)
    have g1 : (cval l).1 = (lowest (MX l l.length) (3 * tw l)).1 := rfl
    have g2 : (cval l).2.1 = (lowest (MX l l.length) (3 * tw l)).2 := rfl
    have g3 : (cval l).2.2.1 = (lowest (MY l l.length) (3 * tw l)).1 := rfl
    have g4 : (cval l).2.2.2.1 = (lowest (MY l l.length) (3 * tw l)).2 := rfl
    rw [← g1, ← g2] at b1
    rw [← g3, ← g4] at b2
    generalize (cval l).1 = un at *
    generalize (cval l).2.1 = ud at *
    generalize (cval l).2.2.1 = vn at *
    generalize (cval l).2.2.2.1 = vd at *
    have p1 := mul_bound (a := x) (b := ud) (A := 2000) (B := 192000000) (by omega) (by omega) (by omega) (by omega)
    have p2 := mul_bound (a := y) (b := vd) (A := 2000) (B := 192000000) (by omega) (by omega) (by omega) (by omega)
    refine ev_step (f := fun k => (if (0 : Int) = 0 then ((impl_TwiceSail.f k (l.map (mv x y))).bind fun bt645 => ((impl_CentreOf.f k (l.map (mv x y))).bind fun bt647 => (if bt645.2 = 0 then (if bt645.1 = tw l then (if bt647.2.2.2.2 = 0 then (if bt647.2.1 = ud then (if bt647.2.2.2.1 = vd then (if bt647.1 = (wrap64 (un + (wrap64 (x * ud)))) then (some (bt647.2.2.1 == (wrap64 (vn + (wrap64 (y * vd)))))) else (some false)) else (some false)) else (some false)) else (some false)) else (some false)) else (some false)))) else (some true))) (fun _ => rfl) (ev_if_pos rfl (ev_bind t1 (ev_bind t2 (ev_if_pos rfl (ev_if_pos rfl (ev_if_pos rfl (ev_if_pos rfl (ev_if_pos rfl (ev_if_pos (by show un + x * ud = _; rw [wrap_in (x := x * ud) (by omega) (by omega), wrap_in (by omega) (by omega)]) (ev_now fun _ => ?_))))))))))
    show some (vn + y * vd == _) = some true
    rw [wrap_in (x := y * vd) (by omega) (by omega), wrap_in (by omega) (by omega), beq_self_eq_true]
  · refine ev_end fun k => ?_
    simp only [laws_FnSailAreas.j2]
    rw [if_neg h]
theorem law_l0 {l : List S47} {x y : Int} (hS : Shape l) (hV : V l) :
    Ev (fun k => laws_FnSailAreas.l0 k l x y (mval l x y).1 (mval l x y).2 (tw l) 1 (cval l).1 (cval l).2.1 (cval l).2.2.1 (cval l).2.2.2.1 (X l 0) (Y l 0) (X l 0) (Y l 0)) true := by
  have h8 := hV.1
  have hb := hV.2.1
  have e1 : bmin (X l) 1 = X l 0 := by show mn (X l 0) (X l 0) = _; rw [mn_min]; omega
  have e2 : bmax (X l) 1 = X l 0 := by show mx (X l 0) (X l 0) = _; rw [mx_max]; omega
  have e3 : bmin (Y l) 1 = Y l 0 := by show mn (Y l 0) (Y l 0) = _; rw [mn_min]; omega
  have e4 : bmax (Y l) 1 = Y l 0 := by show mx (Y l 0) (Y l 0) = _; rw [mx_max]; omega
  have key := loop_up (fun k i => laws_FnSailAreas.l0 k l x y (mval l x y).1 (mval l x y).2 (tw l) (i : Int) (cval l).1 (cval l).2.1 (cval l).2.2.1 (cval l).2.2.2.1 (bmin (X l) i) (bmin (Y l) i) (bmax (X l) i) (bmax (Y l) i)) l.length true (fun i => 1 ≤ i) (fun i hi hI => ?_) (fun _ => ?_) _ 1 rfl (by omega) (by omega)
  · rw [e1, e2, e3, e4] at key
    exact key
  · refine .inl ⟨fun k => ?_, by omega⟩
    show laws_FnSailAreas.l0 (k + 1) _ _ _ _ _ _ _ _ _ _ _ _ _ _ _ = laws_FnSailAreas.l0 k _ _ _ _ _ _ _ _ _ _ _ _ _ _ _
    simp only [laws_FnSailAreas.l0]
    rw [if_pos (by omega), if_pos (by omega), succ_cast i (by omega)]
    simp only [rdX, rdY]
    rfl
  · obtain ⟨⟨i1, i2⟩, ⟨i3, i4⟩, i5⟩ := in_all hS hV
    obtain ⟨c1, c2, c3⟩ := cbounds hV
    have hd : 0 < 3 * tw l := by omega
    have hX : ∀ i, i < l.length → 0 ≤ X l i ∧ X l i ≤ 2000 := fun i hi => (hb i hi).1
    have hY : ∀ i, i < l.length → 0 ≤ Y l i ∧ Y l i ≤ 2000 := fun i hi => (hb i hi).2
    have r1 := bmin_in (X l) 0 2000 l.length hX (by omega)
    have r2 := bmax_in (X l) 0 2000 l.length hX (by omega)
    have r3 := bmin_in (Y l) 0 2000 l.length hY (by omega)
    have r4 := bmax_in (Y l) 0 2000 l.length hY (by omega)
    have b1 := lowest_bound (n := MX l l.length) hd (B := 256000000000) (by omega) (by omega) (by omega)
    have b2 := lowest_bound (n := MY l l.length) hd (B := 256000000000) (by omega) (by omega) (by omega)
    have k1 := low_lt hd i1
    have k2 := lt_high hd i2
    have k3 := low_lt hd i3
    have k4 := lt_high hd i4
    have hJ := law_j2 (x := x) (y := y) hV
    have g1 : (cval l).1 = (lowest (MX l l.length) (3 * tw l)).1 := rfl
    have g2 : (cval l).2.1 = (lowest (MX l l.length) (3 * tw l)).2 := rfl
    have g3 : (cval l).2.2.1 = (lowest (MY l l.length) (3 * tw l)).1 := rfl
    have g4 : (cval l).2.2.2.1 = (lowest (MY l l.length) (3 * tw l)).2 := rfl
    rw [← g1, ← g2] at b1 k1 k2
    rw [← g3, ← g4] at b2 k3 k4
    generalize (cval l).1 = un at *
    generalize (cval l).2.1 = ud at *
    generalize (cval l).2.2.1 = vn at *
    generalize (cval l).2.2.2.1 = vd at *
    generalize bmin (X l) l.length = m at *
    generalize bmax (X l) l.length = M at *
    generalize bmin (Y l) l.length = p at *
    generalize bmax (Y l) l.length = P at *
    generalize (mval l x y).1 = ml at *
    generalize (mval l x y).2 = mc at *
    have q1 := mul_bound (a := m) (b := ud) (A := 2000) (B := 192000000) (by omega) (by omega) (by omega) (by omega)
    have q2 := mul_bound (a := M) (b := ud) (A := 2000) (B := 192000000) (by omega) (by omega) (by omega) (by omega)
    have q3 := mul_bound (a := p) (b := vd) (A := 2000) (B := 192000000) (by omega) (by omega) (by omega) (by omega)
    have q4 := mul_bound (a := P) (b := vd) (A := 2000) (B := 192000000) (by omega) (by omega) (by omega) (by omega)
    have q5 := mul_bound (a := 2 * (M - m)) (b := P - p) (A := 4000) (B := 2000) (by omega) (by omega) (by omega) (by omega)
    have w0 : wrap64 (M - m) = M - m := wrap_in (by omega) (by omega)
    have w1 : wrap64 (P - p) = P - p := wrap_in (by omega) (by omega)
    have w2 : wrap64 (2 * (M - m)) = 2 * (M - m) := wrap_in (by omega) (by omega)
    have w3 : wrap64 (2 * (M - m) * (P - p)) = 2 * (M - m) * (P - p) := wrap_in (by omega) (by omega)
    have w4 : wrap64 (m * ud) = m * ud := wrap_in (by omega) (by omega)
    have w5 : wrap64 (M * ud) = M * ud := wrap_in (by omega) (by omega)
    have w6 : wrap64 (p * vd) = p * vd := wrap_in (by omega) (by omega)
    have w7 : wrap64 (P * vd) = P * vd := wrap_in (by omega) (by omega)
    refine ev_step (f := fun k => laws_FnSailAreas.j2 k x y ml mc (tw l) un ud vn vd) (fun k => ?_) hJ
    show laws_FnSailAreas.l0 (k + 1) _ _ _ _ _ _ _ _ _ _ _ _ _ _ _ = _
    simp only [laws_FnSailAreas.l0]
    rw [if_neg (by omega), w4, w5, w6, w7, w0, w1, w2, w3, if_neg (by omega), if_neg (by omega), if_neg (by omega), if_neg (by omega), if_neg (by omega)]
theorem law_j0 {l : List S47} {x y : Int} (hS : Shape l) : Ev (fun k => laws_FnSailAreas.j0 k l x y (mval l x y).1 (mval l x y).2 (TwR l).1 (CR l).2.2.2.2 false (CR l).1 (CR l).2.1 (CR l).2.2.1 (CR l).2.2.2.1) true := by
  by_cases hV : V l
  · have h8 := hV.1
    have eT : TwR l = (tw l, 0) := by unfold TwR; rw [Vb_true hV, if_pos rfl]
    have eC : CR l = cval l := by unfold CR; rw [Vb_true hV, if_pos rfl]
    have e0 : (rd_T47 l 0).f0 = X l 0 := rdX l 0
    have e1 : (rd_T47 l 0).f1 = Y l 0 := rdY l 0
    have e5 : (cval l).2.2.2.2 = 0 := rfl
    rw [eT, eC, e5]
    refine ev_step (f := fun k => laws_FnSailAreas.l0 k l x y (mval l x y).1 (mval l x y).2 (tw l) 1 (cval l).1 (cval l).2.1 (cval l).2.2.1 (cval l).2.2.2.1 (X l 0) (Y l 0) (X l 0) (Y l 0)) (fun k => ?_) (law_l0 hS hV)
    simp only [laws_FnSailAreas.j0]
    rw [if_neg Bool.false_ne_true, if_pos trivial, if_pos (by omega), e0, e1]
  · have eC : CR l = (0, 0, 0, 0, 1) := by unfold CR; rw [Vb_false hV, if_neg Bool.false_ne_true]
    have eM : mval l x y = ([], 1) := by unfold mval; rw [if_neg hV]
    rw [eC, eM]
    refine ev_step (f := fun k => laws_FnSailAreas.j2 k x y [] 1 (TwR l).1 0 0 0 0) (fun k => ?_) (ev_end fun k => ?_)
    · simp only [laws_FnSailAreas.j0]
      rw [if_neg Bool.false_ne_true, if_neg (by decide)]
    · simp only [laws_FnSailAreas.j2]
      rw [if_neg (by decide)]
theorem area_law (c : List Int) (bc : bytes c) : Ev (fun k => laws_FnSailAreas.f k c) true := by
  unfold laws_FnSailAreas.f laws_f6big.f
  by_cases hb : (c.length : Int) > 4096
  · exact ev_some (ev_if_pos (decide_eq_true hb) (ev_now fun _ => rfl))
  refine ev_some (ev_if_neg (by rw [decide_eq_false hb]; decide) ?_)
  obtain ⟨l, x, y, hd, hS⟩ := drawM bc
  obtain ⟨b, ht, hT⟩ := drawT bc
  obtain ⟨s, hs, hsl⟩ := drawR bc
  obtain ⟨e, f, hef, hel⟩ := drawS bc
  have hl := shape_len hS
  have hbl := shape_len hT
  have hn : l.length < 9223372036854775000 := by omega
  have hbn : b.length < 9223372036854775000 := by omega
  have m1 := specMove l x y (by omega)
  have m2 := implMove l x y (by omega)
  have hml := mval_len l x y
  obtain ⟨t1, t2⟩ := twiceR l hn
  have c1 : Ev (fun k => spec_CentreOf.f k l) (CR l) := specCentre l hn
  have c2 : Ev (fun k => impl_CentreOf.f k l) (CR l) := implCentre l hn
  obtain ⟨x1, x2⟩ := textR b hbn
  have r0 := readI (tx b) (tx_len b)
  have r1 := readS s hsl
  have r2 := readI s hsl
  have h8 := rdV_le (spA 32 [] s) []
  obtain ⟨r, s1, s2⟩ := same e f hel
  obtain ⟨g1, g2⟩ := triR l hn
  have v1 := specV l hn
  have v2 := implV l hn
  have v1' : Ev (fun k => spec_ValidSail.f k l) (Vb l) := by unfold spec_ValidSail.f; exact ev_bind v1 (ev_now fun _ => rfl)
  rw [tx_read] at r0
  generalize rdV (spA 32 [] s) [] = RS at r1 r2 h8
  have fin : ∀ (z : Bool), z = false → Ev (fun k => laws_FnSailAreas.j0 k l x y (mval l x y).1 (mval l x y).2 (TwR l).1 (CR l).2.2.2.2 z (CR l).1 (CR l).2.1 (CR l).2.2.1 (CR l).2.2.2.1) true := fun z hz => by rw [hz]; exact law_j0 hS
  refine ev_bind hd (ev_bind m2 (ev_bind m1 (ev_bind t2 (ev_bind t1 (ev_bind c2 (ev_bind c1 (ev_bind (ev_const ht) (ev_bind x2 (ev_bind r0 (ev_bind hs (ev_bind r2 (ev_bind r1 (ev_bind hef (ev_bind g2 (ev_bind g1 (ev_if_pos rfl (ev_bind (same_self _ (by show (mval l x y).1.length ≤ 1048576; omega)) (ev_if_pos rfl (ev_if_pos rfl (ev_if_pos rfl (ev_if_pos rfl (ev_if_neg (by simp) (ev_if_neg (by simp) (ev_bind x1 (ev_if_pos rfl ?_)))))))))))))))))))))))))
  cases hV : Vb b with
  | true =>
    rw [if_pos rfl]
    refine ev_if_neg ?_ (ev_if_pos rfl (ev_bind (same_self b (by omega)) (ev_if_pos rfl (ev_if_neg (by simp) (ev_bind (same_self _ (by show RS.1.length ≤ 1048576; omega)) (ev_if_pos rfl (ev_bind s2 (ev_bind s1 (ev_if_neg (by simp) (ev_if_pos rfl (ev_if_neg (by simp) (ev_bind v2 (ev_bind v1' (fin _ (bne_self_eq_false _)))))))))))))))
    show ¬ (true != ((bs (tx b)).toList != ([] : List UInt8))) = true
    rw [bs_tl, bne_iff_ne.mpr (tx_ne hV)]
    decide
  | false =>
    rw [if_neg Bool.false_ne_true]
    refine ev_if_neg ?_ (ev_if_neg Bool.false_ne_true (ev_if_neg (by simp) (ev_bind (same_self _ (by show RS.1.length ≤ 1048576; omega)) (ev_if_pos rfl (ev_bind s2 (ev_bind s1 (ev_if_neg (by simp) (ev_if_pos rfl (ev_if_neg (by simp) (ev_bind v2 (ev_bind v1' (fin _ (bne_self_eq_false _)))))))))))))
    show ¬ (false != ((bs (tx b)).toList != ([] : List UInt8))) = true
    have e0 : tx b = [] := by unfold tx; rw [hV, if_neg Bool.false_ne_true]
    rw [bs_tl, e0]
    decide
theorem FnSailAreas : Say.FnSailAreas := by
  intro c hc
  have bc := bytes_of hc.2
  apply Ev.rounds
  exact area_law c bc
end Go.Proofs.YtchngbjpjbahiaaGreatDoor.Pure
