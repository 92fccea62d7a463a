import Derived.Test.YtchngbjpjbahiaaDoorSayFnExactSailText
import Derived.Test.YtchngbjpjbahiaaDoorPlain
namespace Go.Proofs.YtchngbjpjbahiaaDoor.Pure
open Go.RowKit Go.Proofs.YtchngbjpjbahiaaDoor.PFnExactSailText Go.Proofs.YtchngbjpjbahiaaDoor.Plain Go.Proofs.YtchngbjpjbahiaaDoorW.PrintWords
set_option linter.unusedVariables false
set_option linter.unusedSimpArgs false
open Go.Proofs.YtchngbjpjbahiaaDoorW.PrintMore
theorem specIn (n a b : Int) : spec_l00In.f n a b = some (decide (a ≤ n ∧ n ≤ b)) := by
  unfold spec_l00In.f
  by_cases h1 : n ≥ a <;> by_cases h2 : n ≤ b <;> simp [h1, h2] <;> omega
theorem implIn (n a b : Int) : impl_within.f n a b = some (decide (a ≤ n ∧ n ≤ b)) := by
  unfold impl_within.f
  by_cases h1 : n ≥ a <;> by_cases h2 : n ≤ b <;> simp [h1, h2] <;> omega
/-! ### corners: the geometry -/
def crs (ax ay bx by_ cx cy : Int) : Int := (bx - ax) * (cy - ay) - (by_ - ay) * (cx - ax)
def inb (x : Int) : Prop := 0 ≤ x ∧ x ≤ 2000
theorem crs_bound {ax ay bx by_ cx cy : Int} (h1 : inb ax) (h2 : inb ay) (h3 : inb bx) (h4 : inb by_) (h5 : inb cx) (h6 : inb cy) : -8000000 ≤ crs ax ay bx by_ cx cy ∧ crs ax ay bx by_ cx cy ≤ 8000000 := by
  unfold inb at *
  have m1 := mul_bound (a := bx - ax) (b := cy - ay) (A := 2000) (B := 2000) (by omega) (by omega) (by omega) (by omega)
  have m2 := mul_bound (a := by_ - ay) (b := cx - ax) (A := 2000) (B := 2000) (by omega) (by omega) (by omega) (by omega)
  unfold crs
  omega
theorem specCross {ax ay bx by_ cx cy : Int} (h1 : inb ax) (h2 : inb ay) (h3 : inb bx) (h4 : inb by_) (h5 : inb cx) (h6 : inb cy) : spec_l13Cross.f ax ay bx by_ cx cy = some (crs ax ay bx by_ cx cy) := by
  have hb := crs_bound h1 h2 h3 h4 h5 h6
  unfold inb at *
  have m1 := mul_bound (a := bx - ax) (b := cy - ay) (A := 2000) (B := 2000) (by omega) (by omega) (by omega) (by omega)
  have m2 := mul_bound (a := by_ - ay) (b := cx - ax) (A := 2000) (B := 2000) (by omega) (by omega) (by omega) (by omega)
  unfold spec_l13Cross.f
  unfold crs at *
  rw [wrap_in (x := bx - ax) (by omega) (by omega), wrap_in (x := cy - ay) (by omega) (by omega), wrap_in (x := by_ - ay) (by omega) (by omega), wrap_in (x := cx - ax) (by omega) (by omega),
    wrap_in (x := (bx - ax) * (cy - ay)) (by omega) (by omega), wrap_in (x := (by_ - ay) * (cx - ax)) (by omega) (by omega), wrap_in (by omega) (by omega)]
theorem implTurn {ax ay bx by_ cx cy : Int} (h1 : inb ax) (h2 : inb ay) (h3 : inb bx) (h4 : inb by_) (h5 : inb cx) (h6 : inb cy) : impl_turnAt.f ax ay bx by_ cx cy = some (crs ax ay bx by_ cx cy) := by
  have hb := crs_bound h1 h2 h3 h4 h5 h6
  unfold inb at *
  have m1 := mul_bound (a := bx - ax) (b := cy - by_) (A := 2000) (B := 2000) (by omega) (by omega) (by omega) (by omega)
  have m2 := mul_bound (a := by_ - ay) (b := cx - bx) (A := 2000) (B := 2000) (by omega) (by omega) (by omega) (by omega)
  have e : (bx - ax) * (cy - by_) - (by_ - ay) * (cx - bx) = crs ax ay bx by_ cx cy := by unfold crs; grind
  unfold impl_turnAt.f
  rw [wrap_in (x := bx - ax) (by omega) (by omega), wrap_in (x := cy - by_) (by omega) (by omega), wrap_in (x := by_ - ay) (by omega) (by omega), wrap_in (x := cx - bx) (by omega) (by omega),
    wrap_in (x := (bx - ax) * (cy - by_)) (by omega) (by omega), wrap_in (x := (by_ - ay) * (cx - bx)) (by omega) (by omega), wrap_in (by omega) (by omega), e]
def btw (ax ay bx by_ cx cy : Int) : Bool := decide ((min ax bx ≤ cx ∧ cx ≤ max ax bx) ∧ (min ay by_ ≤ cy ∧ cy ≤ max ay by_))
def onb (ax ay bx by_ cx cy : Int) : Bool := decide (crs ax ay bx by_ cx cy = 0) && btw ax ay bx by_ cx cy
theorem spec_min (a b : Int) : spec_l00Min.f a b = some (min a b) := by unfold spec_l00Min.f; split <;> congr 1 <;> omega
theorem spec_max (a b : Int) : spec_l00Max.f a b = some (max a b) := by unfold spec_l00Max.f; split <;> congr 1 <;> omega
theorem mn_min (a b : Int) : mn a b = min a b := by unfold mn; split <;> omega
theorem mx_max (a b : Int) : mx a b = max a b := by unfold mx; split <;> omega
theorem specOn {ax ay bx by_ cx cy : Int} (h1 : inb ax) (h2 : inb ay) (h3 : inb bx) (h4 : inb by_) (h5 : inb cx) (h6 : inb cy) : spec_l13On.f ax ay bx by_ cx cy = some (onb ax ay bx by_ cx cy) := by
  unfold spec_l13On.f
  rw [specCross h1 h2 h3 h4 h5 h6]
  simp only [Option.bind_some, spec_min, spec_max, specIn]
  unfold onb btw
  by_cases h : crs ax ay bx by_ cx cy = 0
  · by_cases h' : min ax bx ≤ cx ∧ cx ≤ max ax bx
    · simp [h, h']
    · simp [h, h']
  · simp [h]
theorem implBetween (ax ay bx by_ cx cy : Int) : impl_between.f ax ay bx by_ cx cy = some (btw ax ay bx by_ cx cy) := by
  unfold impl_between.f
  simp only [Option.bind_some, mn_min, mx_max, implIn]
  unfold btw
  by_cases h' : min ax bx ≤ cx ∧ cx ≤ max ax bx
  · simp [h']
  · simp [h']
def opp (p q : Int) : Bool := decide (p < 0 ∧ q > 0 ∨ p > 0 ∧ q < 0)
def sid (ax ay bx by_ cx cy dx dy : Int) : Bool := opp (crs ax ay bx by_ cx cy) (crs ax ay bx by_ dx dy)
theorem specSides {ax ay bx by_ cx cy dx dy : Int} (h1 : inb ax) (h2 : inb ay) (h3 : inb bx) (h4 : inb by_) (h5 : inb cx) (h6 : inb cy) (h7 : inb dx) (h8 : inb dy) : spec_l13Sides.f ax ay bx by_ cx cy dx dy = some (sid ax ay bx by_ cx cy dx dy) := by
  unfold spec_l13Sides.f
  rw [specCross h1 h2 h3 h4 h5 h6, specCross h1 h2 h3 h4 h7 h8]
  simp only [Option.bind_some]
  unfold sid opp
  generalize crs ax ay bx by_ cx cy = p
  generalize crs ax ay bx by_ dx dy = q
  by_cases h : p < 0
  · by_cases h' : q > 0
    · simp [h, h']
    · have : ¬ p > 0 := by omega
      simp [h, h', this]
  · by_cases h' : p > 0
    · simp [h, h']
    · simp [h, h']
def mt (ax ay bx by_ cx cy dx dy : Int) : Bool := (onb ax ay bx by_ cx cy || onb ax ay bx by_ dx dy || onb cx cy dx dy ax ay || onb cx cy dx dy bx by_) || (sid ax ay bx by_ cx cy dx dy && sid cx cy dx dy ax ay bx by_)
theorem specMeet {ax ay bx by_ cx cy dx dy : Int} (h1 : inb ax) (h2 : inb ay) (h3 : inb bx) (h4 : inb by_) (h5 : inb cx) (h6 : inb cy) (h7 : inb dx) (h8 : inb dy) : Ev (fun k => spec_l13Meet.f k ax ay bx by_ cx cy dx dy) (mt ax ay bx by_ cx cy dx dy) := by
  have hj : ∀ t, Ev (fun k => spec_l13Meet.j0 k t ax ay bx by_ cx cy dx dy) (t || (sid ax ay bx by_ cx cy dx dy && sid cx cy dx dy ax ay bx by_)) := by
    intro t
    refine ev_end (fun k => ?_)
    simp only [spec_l13Meet.j0, specSides h1 h2 h3 h4 h5 h6 h7 h8, specSides h5 h6 h7 h8 h1 h2 h3 h4, Option.bind_some]
    cases t <;> cases sid ax ay bx by_ cx cy dx dy <;> simp
  unfold spec_l13Meet.f
  rw [specOn h1 h2 h3 h4 h5 h6, specOn h1 h2 h3 h4 h7 h8, specOn h5 h6 h7 h8 h1 h2, specOn h5 h6 h7 h8 h3 h4]
  simp only [Option.bind_some]
  unfold mt
  cases onb ax ay bx by_ cx cy
  · cases onb ax ay bx by_ dx dy
    · cases onb cx cy dx dy ax ay
      · simpa using hj (onb cx cy dx dy bx by_)
      · simpa using hj true
    · simpa using hj true
  · simpa using hj true
def sg (p : Int) : Int := if p > 0 then 1 else if p < 0 then -1 else 0
theorem implSign (p : Int) : impl_sign.f p = some (sg p) := by unfold impl_sign.f sg; split; rfl; split <;> rfl
theorem sg_opp (p q : Int) : decide (wrap64 (sg p * sg q) < 0) = opp p q := by
  have h1 : sg p = 1 ∧ p > 0 ∨ sg p = -1 ∧ p < 0 ∨ sg p = 0 ∧ p = 0 := by unfold sg; split; (left; omega); split <;> omega
  have h2 : sg q = 1 ∧ q > 0 ∨ sg q = -1 ∧ q < 0 ∨ sg q = 0 ∧ q = 0 := by unfold sg; split; (left; omega); split <;> omega
  unfold opp
  rw [Bool.eq_iff_iff]
  simp only [decide_eq_true_eq]
  rcases h1 with ⟨e1, h1⟩ | ⟨e1, h1⟩ | ⟨e1, h1⟩ <;> rcases h2 with ⟨e2, h2⟩ | ⟨e2, h2⟩ | ⟨e2, h2⟩ <;> rw [e1, e2] <;> (unfold wrap64) <;> omega
theorem implMeet {ax ay bx by_ cx cy dx dy : Int} (h1 : inb ax) (h2 : inb ay) (h3 : inb bx) (h4 : inb by_) (h5 : inb cx) (h6 : inb cy) (h7 : inb dx) (h8 : inb dy) : Ev (fun k => impl_edgesMeet.f k ax ay bx by_ cx cy dx dy) (mt ax ay bx by_ cx cy dx dy) := by
  have hj : ∀ (p q r s : Int) (t : Bool), Ev (fun k => impl_edgesMeet.j0 k p q r s t ax ay bx by_ cx cy dx dy) (t || ((decide (p = 0) && btw ax ay bx by_ cx cy) || (decide (q = 0) && btw ax ay bx by_ dx dy) || (decide (r = 0) && btw cx cy dx dy ax ay) || (decide (s = 0) && btw cx cy dx dy bx by_))) := by
    intro p q r s t
    refine ev_end (fun k => ?_)
    simp only [impl_edgesMeet.j0, implBetween, Option.bind_some]
    cases t
    · generalize btw ax ay bx by_ cx cy = b1
      generalize btw ax ay bx by_ dx dy = b2
      generalize btw cx cy dx dy ax ay = b3
      generalize btw cx cy dx dy bx by_ = b4
      by_cases hp : p = 0 <;> by_cases hq : q = 0 <;> by_cases hr : r = 0 <;> by_cases hs : s = 0 <;> simp only [hp, hq, hr, hs, if_true, if_false, decide_true, decide_false, Bool.true_and, Bool.false_and, Bool.false_or, Bool.or_false, Bool.false_eq_true] <;> cases b1 <;> cases b2 <;> cases b3 <;> simp
    · simp
  unfold impl_edgesMeet.f
  rw [implTurn h1 h2 h3 h4 h5 h6, implTurn h1 h2 h3 h4 h7 h8, implTurn h5 h6 h7 h8 h1 h2, implTurn h5 h6 h7 h8 h3 h4]
  simp only [Option.bind_some, implSign]
  unfold mt onb sid
  generalize crs ax ay bx by_ cx cy = p at *
  generalize crs ax ay bx by_ dx dy = q at *
  generalize crs cx cy dx dy ax ay = r at *
  generalize crs cx cy dx dy bx by_ = s at *
  have e1 := sg_opp p q
  have e2 := sg_opp r s
  by_cases hc : wrap64 (sg p * sg q) < 0
  · rw [decide_eq_true hc] at e1
    simp only [hc, if_true, ← e1, Bool.true_and]
    have := hj p q r s (decide (wrap64 (sg r * sg s) < 0))
    rw [e2] at this
    rw [← e2, e2, Bool.or_comm]
    exact this
  · rw [decide_eq_false hc] at e1
    simp only [hc, if_false, ← e1, Bool.false_and, Bool.or_false]
    simpa using hj p q r s false
/-! ### valid sails -/
def X (l : List S35) (i : Nat) : Int := (l.getD i z35).f0
def Y (l : List S35) (i : Nat) : Int := (l.getD i z35).f1
theorem rdX (l : List S35) (i : Nat) : (rd_T35 l (i : Int)).f0 = X l i := by simp [rd_T35, X]
theorem rdY (l : List S35) (i : Nat) : (rd_T35 l (i : Int)).f1 = Y l i := by simp [rd_T35, Y]
def inbox (l : List S35) : Prop := ∀ i, i < l.length → inb (X l i) ∧ inb (Y l i)
def nx (l : List S35) (i c : Nat) : Nat := (i + c) % l.length
theorem nx_lt (l : List S35) (i c : Nat) (h : 0 < l.length) : nx l i c < l.length := Nat.mod_lt _ h
def cr (l : List S35) (i : Nat) : Int := crs (X l i) (Y l i) (X l (nx l i 1)) (Y l (nx l i 1)) (X l (nx l i 2)) (Y l (nx l i 2))
def mtl (l : List S35) (i k : Nat) : Bool := mt (X l i) (Y l i) (X l (nx l i 1)) (Y l (nx l i 1)) (X l k) (Y l k) (X l (nx l k 1)) (Y l (nx l k 1))
def T (l : List S35) : Nat → Int
  | 0 => 0
  | i + 1 => wrap64 (T l i + wrap64 (wrap64 (X l i * Y l (nx l i 1)) - wrap64 (X l (nx l i 1) * Y l i)))
def tw (l : List S35) : Int := T l l.length
def V (l : List S35) : Prop := (3 ≤ l.length ∧ l.length ≤ 8) ∧ inbox l ∧ (∀ i, i < l.length → cr l i ≠ 0) ∧ (∀ i k, i + 2 ≤ k → k < l.length → (0 < i ∨ k < l.length - 1) → mtl l i k = false) ∧ 0 < tw l
open Classical in
noncomputable def Vb (l : List S35) : Bool := decide (V l)
theorem Vb_true {l : List S35} (h : V l) : Vb l = true := by unfold Vb; simp [h]
theorem Vb_false {l : List S35} (h : ¬ V l) : Vb l = false := by unfold Vb; simp [h]
theorem V_of {l : List S35} (h : Vb l = true) : V l := by unfold Vb at h; simpa using h
theorem specTwice (l : List S35) (hn : l.length < 9223372036854775000) : Ev (fun k => spec_l13Twice.f k l) (tw l) := by
  unfold spec_l13Twice.f
  refine loop_all (fun k i => spec_l13Twice.l0 k l (T l i) (i : Int)) l.length (tw l) (fun i hi k => ?_) (ev_end fun k => ?_)
  · show spec_l13Twice.l0 (k + 1) _ _ _ = spec_l13Twice.l0 k _ _ _
    simp only [spec_l13Twice.l0]
    have e : Int.tmod (wrap64 ((i : Int) + 1)) (l.length : Int) = ((nx l i 1 : Nat) : Int) := succ_mod i l.length (by omega) 1 (by omega)
    have hlt := nx_lt l i 1 (by omega)
    rw [e, if_pos (by omega), if_neg (by omega), if_pos (by omega), if_pos (by omega), if_pos (by omega), succ_cast i (by omega)]
    simp only [rdX, rdY]
    rfl
  · show spec_l13Twice.l0 (k + 1) _ _ _ = _
    simp only [spec_l13Twice.l0]
    rw [if_neg (by omega)]
    rfl
theorem implTwice (l : List S35) (hn : l.length < 9223372036854775000) : Ev (fun k => impl_twiceSail.f k l) (tw l) := by
  unfold impl_twiceSail.f
  refine loop_all (fun k i => impl_twiceSail.l0 k l (T l i) l (l.length : Int) (i : Int)) l.length (tw l) (fun i hi k => ?_) (ev_end fun k => ?_)
  · show impl_twiceSail.l0 (k + 1) _ _ _ _ _ = impl_twiceSail.l0 k _ _ _ _ _
    simp only [impl_twiceSail.l0]
    have e : Int.tmod (wrap64 ((i : Int) + 1)) (l.length : Int) = ((nx l i 1 : Nat) : Int) := succ_mod i l.length (by omega) 1 (by omega)
    have hlt := nx_lt l i 1 (by omega)
    rw [e, if_pos (by omega), if_pos (by omega), if_pos (by omega), if_neg (by omega), if_pos (by omega), if_pos (by omega), succ_cast i (by omega)]
    simp only [rdX, rdY]
    rfl
  · show impl_twiceSail.l0 (k + 1) _ _ _ _ _ = _
    simp only [impl_twiceSail.l0]
    rw [if_neg (by omega)]
    rfl
theorem specV1 (l : List S35) (h8 : 3 ≤ l.length ∧ l.length ≤ 8) (hb : inbox l) : Ev (fun k => spec_l13Ok.l1 k l (l.length : Int) 0) (Vb l) := by
  refine loop_up' (fun k i => spec_l13Ok.l1 k l (l.length : Int) (i : Int)) l.length (Vb l) (fun i => ∀ j, j < i → cr l j ≠ 0 ∧ ∀ q, j + 2 ≤ q → q < l.length → (0 < j ∨ q < l.length - 1) → mtl l j q = false) (fun i hi hI => ?_) (fun hI => ?_) _ 0 rfl (by omega) (fun j hj => by omega)
  · have e1 : Int.tmod (wrap64 ((i : Int) + 1)) (l.length : Int) = ((nx l i 1 : Nat) : Int) := succ_mod i l.length (by omega) 1 (by omega)
    have e2 : Int.tmod (wrap64 ((i : Int) + 2)) (l.length : Int) = ((nx l i 2 : Nat) : Int) := succ_mod i l.length (by omega) 2 (by omega)
    have hl1 := nx_lt l i 1 (by omega)
    have hl2 := nx_lt l i 2 (by omega)
    have w2 : wrap64 ((i : Int) + 2) = ((i + 2 : Nat) : Int) := by rw [wrap_in (by omega) (by omega)]; omega
    have b0 := hb i hi
    have b1 := hb _ hl1
    have b2 := hb _ hl2
    have one : ∀ k, spec_l13Ok.l1 (k + 1) l (l.length : Int) (i : Int) = if cr l i = 0 then some false else spec_l13Ok.l2 k l (l.length : Int) (i : Int) ((i + 2 : Nat) : Int) (X l i) (Y l i) (X l (nx l i 1)) (Y l (nx l i 1)) := by
      intro k
      simp only [spec_l13Ok.l1]
      rw [e1, e2, w2, if_pos (by omega), if_pos (by omega), if_pos (by omega), if_neg (by omega), if_pos (by omega), if_pos (by omega), if_pos (by omega), if_pos (by omega)]
      simp only [rdX, rdY]
      rw [specCross b0.1 b0.2 b1.1 b1.2 b2.1 b2.2]
      rfl
    by_cases hc : cr l i = 0
    · refine .inr (ev_eq (ev_end (fun k => by show spec_l13Ok.l1 (k + 1) _ _ _ = _; rw [one, if_pos hc])) (Vb_false (fun hV => hV.2.2.1 i hi hc)).symm)
    · -- the inner loop
      by_cases hall : ∀ q, i + 2 ≤ q → q < l.length → (0 < i ∨ q < l.length - 1) → mtl l i q = false
      · refine .inl ⟨fun j hj => ?_, fun hnext => ?_⟩
        · by_cases hji : j = i
          · subst hji; exact ⟨hc, hall⟩
          · exact hI j (by omega)
        · refine ev_step (fun k => by show spec_l13Ok.l1 (k + 1) _ _ _ = _; rw [one, if_neg hc]) ?_
          have fin : Ev (fun k => spec_l13Ok.l1 k l (l.length : Int) ((i + 1 : Nat) : Int)) (Vb l) := hnext
          have stop : ∀ q : Nat, l.length ≤ q → Ev (fun k => spec_l13Ok.l2 k l (l.length : Int) (i : Int) (q : Int) (X l i) (Y l i) (X l (nx l i 1)) (Y l (nx l i 1))) (Vb l) := by
            intro q hq
            refine ev_step (fun k => ?_) fin
            simp only [spec_l13Ok.l2]
            rw [if_neg (by omega), succ_cast i (by omega)]
          by_cases h2 : i + 2 ≤ l.length
          · refine loop_up' (fun k q => spec_l13Ok.l2 k l (l.length : Int) (i : Int) (q : Int) (X l i) (Y l i) (X l (nx l i 1)) (Y l (nx l i 1))) l.length (Vb l) (fun q => i + 2 ≤ q) (fun q hq hIq => ?_) (fun _ => stop _ (by omega)) _ (i + 2) rfl h2 (by omega)
            refine .inl ⟨by omega, fun hn2 => ?_⟩
            have hn3 : Ev (fun k => spec_l13Ok.l2 k l (l.length : Int) (i : Int) ((q + 1 : Nat) : Int) (X l i) (Y l i) (X l (nx l i 1)) (Y l (nx l i 1))) (Vb l) := hn2
            have e3 : Int.tmod (wrap64 ((q : Int) + 1)) (l.length : Int) = ((nx l q 1 : Nat) : Int) := succ_mod q l.length (by omega) 1 (by omega)
            have hl3 := nx_lt l q 1 (by omega)
            have bq := hb q hq
            have bq1 := hb _ hl3
            have meet : (0 < i ∨ q < l.length - 1) → Ev (fun k => (spec_l13Meet.f k (X l i) (Y l i) (X l (nx l i 1)) (Y l (nx l i 1)) (X l q) (Y l q) (X l (nx l q 1)) (Y l (nx l q 1))).bind fun t => (if t = true then (some false) else (spec_l13Ok.l2 k l (l.length : Int) (i : Int) ((q + 1 : Nat) : Int) (X l i) (Y l i) (X l (nx l i 1)) (Y l (nx l i 1))))) (Vb l) := by
              intro hcond
              have hm := specMeet b0.1 b0.2 b1.1 b1.2 bq.1 bq.2 bq1.1 bq1.2
              have hf : mt (X l i) (Y l i) (X l (nx l i 1)) (Y l (nx l i 1)) (X l q) (Y l q) (X l (nx l q 1)) (Y l (nx l q 1)) = false := hall q hIq hq hcond
              rw [hf] at hm
              exact ev_bind hm (ev_if_neg (by simp) hn3)
            by_cases hi0 : 0 < i
            · refine ev_step (fun k => ?_) (meet (.inl hi0))
              simp only [spec_l13Ok.l2]
              rw [e3, if_pos (by omega), if_pos (by omega), if_pos (by omega), if_pos (by omega), if_neg (by omega), if_pos (by omega), if_pos (by omega), succ_cast q (by omega)]
              simp only [rdX, rdY]
            · by_cases hq1 : q < l.length - 1
              · refine ev_step (fun k => ?_) (meet (.inr hq1))
                simp only [spec_l13Ok.l2]
                rw [e3, if_pos (by omega), if_neg (by omega), wrap_in (x := (l.length : Int) - 1) (by omega) (by omega), if_pos (by omega), if_pos (by omega), if_pos (by omega), if_neg (by omega), if_pos (by omega), if_pos (by omega), succ_cast q (by omega)]
                simp only [rdX, rdY]
              · refine ev_step (fun k => ?_) hn3
                simp only [spec_l13Ok.l2]
                rw [if_pos (by omega), if_neg (by omega), wrap_in (x := (l.length : Int) - 1) (by omega) (by omega), if_neg (by omega), succ_cast q (by omega)]
          · exact stop (i + 2) (by omega)
      · -- some edge is met
        have hV : Vb l = false := Vb_false (fun hV => hall (fun q h1 h2 h3 => hV.2.2.2.1 i q h1 h2 h3))
        refine .inr ?_
        refine ev_step (fun k => by show spec_l13Ok.l1 (k + 1) _ _ _ = _; rw [one, if_neg hc]) ?_
        have h2 : i + 2 ≤ l.length := by
          rcases Nat.lt_or_ge l.length (i + 2) with h | h
          · exact absurd (fun q h1 h2 _ => by omega) hall
          · exact h
        refine loop_up' (fun k q => spec_l13Ok.l2 k l (l.length : Int) (i : Int) (q : Int) (X l i) (Y l i) (X l (nx l i 1)) (Y l (nx l i 1))) l.length (Vb l) (fun q => i + 2 ≤ q ∧ ∀ p, i + 2 ≤ p → p < q → (0 < i ∨ p < l.length - 1) → mtl l i p = false) (fun q hq hIq => ?_) (fun hIn => absurd (fun q h1 h2 h3 => hIn.2 q h1 h2 h3) hall) _ (i + 2) rfl h2 ⟨by omega, fun p _ _ => by omega⟩
        have e3 : Int.tmod (wrap64 ((q : Int) + 1)) (l.length : Int) = ((nx l q 1 : Nat) : Int) := succ_mod q l.length (by omega) 1 (by omega)
        have hl3 := nx_lt l q 1 (by omega)
        have bq := hb q hq
        have bq1 := hb _ hl3
        have hm := specMeet b0.1 b0.2 b1.1 b1.2 bq.1 bq.2 bq1.1 bq1.2
        have hinc : (∀ hcond : (0 < i ∨ q < l.length - 1), mtl l i q = false) → (i + 2 ≤ q + 1 ∧ ∀ p, i + 2 ≤ p → p < q + 1 → (0 < i ∨ p < l.length - 1) → mtl l i p = false) := fun h => ⟨by omega, fun p h1 h2 h3 => by
          by_cases hpq : p = q
          · subst hpq; exact h h3
          · exact hIq.2 p h1 (by omega) h3⟩
        have form : (0 < i ∨ q < l.length - 1) → ∀ k, spec_l13Ok.l2 (k + 1) l (l.length : Int) (i : Int) (q : Int) (X l i) (Y l i) (X l (nx l i 1)) (Y l (nx l i 1)) = (spec_l13Meet.f k (X l i) (Y l i) (X l (nx l i 1)) (Y l (nx l i 1)) (X l q) (Y l q) (X l (nx l q 1)) (Y l (nx l q 1))).bind fun t => (if t = true then (some false) else (spec_l13Ok.l2 k l (l.length : Int) (i : Int) ((q + 1 : Nat) : Int) (X l i) (Y l i) (X l (nx l i 1)) (Y l (nx l i 1)))) := by
          intro hcond k
          by_cases hi0 : 0 < i
          · simp only [spec_l13Ok.l2]
            rw [e3, if_pos (by omega), if_pos (by omega), if_pos (by omega), if_pos (by omega), if_neg (by omega), if_pos (by omega), if_pos (by omega), succ_cast q (by omega)]
            simp only [rdX, rdY]
          · have hq1 : q < l.length - 1 := by omega
            simp only [spec_l13Ok.l2]
            rw [e3, if_pos (by omega), if_neg (by omega), wrap_in (x := (l.length : Int) - 1) (by omega) (by omega), if_pos (by omega), if_pos (by omega), if_pos (by omega), if_neg (by omega), if_pos (by omega), if_pos (by omega), succ_cast q (by omega)]
            simp only [rdX, rdY]
        by_cases hcond : 0 < i ∨ q < l.length - 1
        · cases hmv : mtl l i q with
          | true =>
            refine .inr (ev_eq (ev_step (fun k => form hcond k) (ev_bind hm ?_)) hV.symm)
            have : mt (X l i) (Y l i) (X l (nx l i 1)) (Y l (nx l i 1)) (X l q) (Y l q) (X l (nx l q 1)) (Y l (nx l q 1)) = true := hmv
            exact ev_if_pos this (ev_now fun _ => rfl)
          | false =>
            refine .inl ⟨hinc (fun _ => hmv), fun hn2 => ev_step (fun k => form hcond k) (ev_bind hm ?_)⟩
            have : ¬ mt (X l i) (Y l i) (X l (nx l i 1)) (Y l (nx l i 1)) (X l q) (Y l q) (X l (nx l q 1)) (Y l (nx l q 1)) = true := by
              have h5 : mt (X l i) (Y l i) (X l (nx l i 1)) (Y l (nx l i 1)) (X l q) (Y l q) (X l (nx l q 1)) (Y l (nx l q 1)) = false := hmv
              rw [h5]; simp
            exact ev_if_neg this hn2
        · refine .inl ⟨hinc (fun h => absurd h hcond), fun hn2 => ev_step (fun k => ?_) hn2⟩
          show spec_l13Ok.l2 (k + 1) l (l.length : Int) (i : Int) (q : Int) _ _ _ _ = _
          simp only [spec_l13Ok.l2]
          rw [if_pos (by omega), if_neg (by omega), wrap_in (x := (l.length : Int) - 1) (by omega) (by omega), if_neg (by omega), succ_cast q (by omega)]
  · refine ev_step (f := fun k => (spec_l13Twice.f k l).bind fun t154 => some (decide (t154 > 0))) (fun k => ?_) (ev_eq (ev_bind (specTwice l (by omega)) (ev_now fun _ => rfl)) ?_)
    · show spec_l13Ok.l1 (k + 1) _ _ _ = _
      simp only [spec_l13Ok.l1]
      rw [if_neg (by omega)]
    · have hall : V l ↔ 0 < tw l := ⟨fun h => h.2.2.2.2, fun h => ⟨h8, hb, fun i hi => (hI i hi).1, fun i k h1 h2 h3 => (hI i (by omega)).2 k h1 h2 h3, h⟩⟩
      by_cases h : 0 < tw l
      · rw [Vb_true (hall.2 h)]; exact decide_eq_true h
      · rw [Vb_false (fun hv => h (hall.1 hv))]; exact decide_eq_false h
theorem specV (l : List S35) (hn : l.length < 9223372036854775000) : Ev (fun k => spec_l13Ok.f k l) (Vb l) := by
  unfold spec_l13Ok.f
  rw [specIn]
  by_cases h8 : (3 : Int) ≤ (l.length : Int) ∧ (l.length : Int) ≤ 8
  · simp only [h8, and_self, decide_true, Option.bind_some, if_true]
    refine loop_up (fun k i => spec_l13Ok.l0 k l (l.length : Int) (i : Int)) l.length (Vb l) (fun i => ∀ j, j < i → inb (X l j) ∧ inb (Y l j)) (fun i hi hI => ?_) (fun hI => ?_) _ 0 rfl (by omega) (fun j hj => by omega)
    · by_cases h : inb (X l i) ∧ inb (Y l i)
      · refine .inl ⟨fun k => ?_, fun j hj => ?_⟩
        · show spec_l13Ok.l0 (k + 1) _ _ _ = spec_l13Ok.l0 k _ _ _
          have h1 := h.1
          have h2 := h.2
          unfold inb at h1 h2
          simp only [spec_l13Ok.l0, rdX, rdY, specIn]
          rw [if_pos (by omega), if_pos (by omega), if_pos (by omega), succ_cast i (by omega)]
          simp only [h1, h2, and_self, decide_true, Option.bind_some, if_true]
        · by_cases hji : j = i
          · subst hji; exact h
          · exact hI j (by omega)
      · refine .inr (ev_eq (ev_end (fun k => ?_)) (Vb_false (fun hV => h (hV.2.1 i hi))).symm)
        show spec_l13Ok.l0 (k + 1) _ _ _ = _
        simp only [spec_l13Ok.l0, rdX, rdY, specIn]
        rw [if_pos (by omega), if_pos (by omega), if_pos (by omega)]
        by_cases h1 : 0 ≤ X l i ∧ X l i ≤ 2000
        · have h2 : ¬ (0 ≤ Y l i ∧ Y l i ≤ 2000) := fun h2 => h ⟨h1, h2⟩
          simp only [h1, h2, and_self, decide_true, decide_false, Option.bind_some, if_true, if_false, Bool.false_eq_true]
        · simp only [h1, decide_false, Option.bind_some, if_false, Bool.false_eq_true]
    · refine ev_step (fun k => ?_) (specV1 l (by omega) (fun i hi => hI i hi))
      show spec_l13Ok.l0 (k + 1) _ _ _ = _
      simp only [spec_l13Ok.l0]
      rw [if_neg (by omega)]
  · simp only [h8, decide_false, Option.bind_some, if_false, Bool.false_eq_true]
    exact ev_eq (ev_now fun _ => rfl) (Vb_false (fun hV => h8 (by have := hV.1; omega))).symm

theorem implV2 (l : List S35) (h8 : 3 ≤ l.length ∧ l.length ≤ 8) (hb : inbox l) (hcr : ∀ i, i < l.length → cr l i ≠ 0) : Ev (fun k => impl_ValidSail.l2 k l (l.length : Int) (l.length : Int) 0) (Vb l) := by
  refine loop_up' (fun k i => impl_ValidSail.l2 k l (l.length : Int) (l.length : Int) (i : Int)) l.length (Vb l) (fun i => ∀ j, j < i → ∀ q, j + 2 ≤ q → q < l.length → (0 < j ∨ q < l.length - 1) → mtl l j q = false) (fun i hi hI => ?_) (fun hI => ?_) _ 0 rfl (by omega) (fun j hj => by omega)
  · have w2 : wrap64 ((i : Int) + 2) = ((i + 2 : Nat) : Int) := by rw [wrap_in (by omega) (by omega)]; omega
    have w1 : wrap64 ((i : Int) + 1) = ((i + 1 : Nat) : Int) := succ_cast i (by omega)
    have hl1 := nx_lt l i 1 (by omega)
    have b0 := hb i hi
    have b1 := hb _ hl1
    have one : ∀ k, impl_ValidSail.l2 (k + 1) l (l.length : Int) (l.length : Int) (i : Int) = impl_ValidSail.l3 k l (l.length : Int) (i : Int) ((i + 2 : Nat) : Int) (l.length : Int) (i : Int) := by
      intro k
      simp only [impl_ValidSail.l2]
      rw [w2, if_pos (by omega)]
    have skip : ∀ q : Nat, i + 2 ≤ q → q < l.length → ¬ (0 < i ∨ q < l.length - 1) → ∀ k, impl_ValidSail.l3 (k + 1) l (l.length : Int) (i : Int) (q : Int) (l.length : Int) (i : Int) = impl_ValidSail.l3 k l (l.length : Int) (i : Int) ((q + 1 : Nat) : Int) (l.length : Int) (i : Int) := by
      intro q hq1 hq hc k
      have e3 : Int.tmod (wrap64 ((q : Int) + 1)) (l.length : Int) = ((nx l q 1 : Nat) : Int) := succ_mod q l.length (by omega) 1 (by omega)
      have h0 : nx l q 1 = i := by
        have : q + 1 = l.length := by omega
        unfold nx
        rw [this, Nat.mod_self]; omega
      simp only [impl_ValidSail.l3]
      rw [e3, if_pos (by omega), if_neg (by omega), if_pos (by omega), succ_cast q (by omega)]
    have form : ∀ q : Nat, i + 2 ≤ q → q < l.length → (0 < i ∨ q < l.length - 1) → ∀ k, impl_ValidSail.l3 (k + 1) l (l.length : Int) (i : Int) (q : Int) (l.length : Int) (i : Int) =
        (impl_edgesMeet.f k (X l i) (Y l i) (X l (nx l i 1)) (Y l (nx l i 1)) (X l q) (Y l q) (X l (nx l q 1)) (Y l (nx l q 1))).bind fun t => (if t = true then (some false) else (impl_ValidSail.l3 k l (l.length : Int) (i : Int) ((q + 1 : Nat) : Int) (l.length : Int) (i : Int))) := by
      intro q hq1 hq hc k
      have e3 : Int.tmod (wrap64 ((q : Int) + 1)) (l.length : Int) = ((nx l q 1 : Nat) : Int) := succ_mod q l.length (by omega) 1 (by omega)
      have hl3 := nx_lt l q 1 (by omega)
      have h0 : nx l q 1 ≠ i := by
        unfold nx
        by_cases hq2 : q + 1 < l.length
        · rw [Nat.mod_eq_of_lt hq2]; omega
        · have : q + 1 = l.length := by omega
          rw [this, Nat.mod_self]; omega
      have h1 : nx l i 1 = i + 1 := Nat.mod_eq_of_lt (by omega)
      simp only [impl_ValidSail.l3]
      rw [e3, w1, if_pos (by omega), if_neg (by omega), if_neg (by omega), if_pos (by omega), if_pos (by omega), if_pos (by omega), if_pos (by omega), if_pos (by omega), if_pos (by omega), if_pos (by omega), if_pos (by omega), succ_cast q (by omega)]
      simp only [rdX, rdY]
      rw [h1]
    by_cases hall : ∀ q, i + 2 ≤ q → q < l.length → (0 < i ∨ q < l.length - 1) → mtl l i q = false
    · refine .inl ⟨fun j hj => ?_, fun hnext => ?_⟩
      · by_cases hji : j = i
        · subst hji; exact hall
        · exact hI j (by omega)
      · refine ev_step one ?_
        have fin : Ev (fun k => impl_ValidSail.l2 k l (l.length : Int) (l.length : Int) ((i + 1 : Nat) : Int)) (Vb l) := hnext
        have stop : ∀ q : Nat, l.length ≤ q → Ev (fun k => impl_ValidSail.l3 k l (l.length : Int) (i : Int) (q : Int) (l.length : Int) (i : Int)) (Vb l) := by
          intro q hq
          refine ev_step (fun k => ?_) fin
          simp only [impl_ValidSail.l3]
          rw [if_neg (by omega), w1]
        by_cases h2 : i + 2 ≤ l.length
        · refine loop_up' (fun k q => impl_ValidSail.l3 k l (l.length : Int) (i : Int) (q : Int) (l.length : Int) (i : Int)) l.length (Vb l) (fun q => i + 2 ≤ q) (fun q hq hIq => ?_) (fun _ => stop _ (by omega)) _ (i + 2) rfl h2 (by omega)
          refine .inl ⟨by omega, fun hn2 => ?_⟩
          have bq := hb q hq
          have bq1 := hb _ (nx_lt l q 1 (by omega))
          by_cases hcond : 0 < i ∨ q < l.length - 1
          · have hm := implMeet b0.1 b0.2 b1.1 b1.2 bq.1 bq.2 bq1.1 bq1.2
            have hf : mt (X l i) (Y l i) (X l (nx l i 1)) (Y l (nx l i 1)) (X l q) (Y l q) (X l (nx l q 1)) (Y l (nx l q 1)) = false := hall q hIq hq hcond
            rw [hf] at hm
            exact ev_step (form q hIq hq hcond) (ev_bind hm (ev_if_neg (by simp) hn2))
          · exact ev_step (skip q hIq hq hcond) hn2
        · exact stop (i + 2) (by omega)
    · have hV : Vb l = false := Vb_false (fun hV => hall (fun q h1 h2 h3 => hV.2.2.2.1 i q h1 h2 h3))
      refine .inr (ev_step one ?_)
      have h2 : i + 2 ≤ l.length := by
        rcases Nat.lt_or_ge l.length (i + 2) with h | h
        · exact absurd (fun q h1 h2 _ => by omega) hall
        · exact h
      refine loop_up' (fun k q => impl_ValidSail.l3 k l (l.length : Int) (i : Int) (q : Int) (l.length : Int) (i : Int)) l.length (Vb l) (fun q => i + 2 ≤ q ∧ ∀ p, i + 2 ≤ p → p < q → (0 < i ∨ p < l.length - 1) → mtl l i p = false) (fun q hq hIq => ?_) (fun hIn => absurd (fun q h1 h2 h3 => hIn.2 q h1 h2 h3) hall) _ (i + 2) rfl h2 ⟨by omega, fun p _ _ => by omega⟩
      have bq := hb q hq
      have bq1 := hb _ (nx_lt l q 1 (by omega))
      have hm := implMeet b0.1 b0.2 b1.1 b1.2 bq.1 bq.2 bq1.1 bq1.2
      have hinc : (∀ hcond : (0 < i ∨ q < l.length - 1), mtl l i q = false) → (i + 2 ≤ q + 1 ∧ ∀ p, i + 2 ≤ p → p < q + 1 → (0 < i ∨ p < l.length - 1) → mtl l i p = false) := fun h => ⟨by omega, fun p h1 h2 h3 => by
        by_cases hpq : p = q
        · subst hpq; exact h h3
        · exact hIq.2 p h1 (by omega) h3⟩
      by_cases hcond : 0 < i ∨ q < l.length - 1
      · cases hmv : mtl l i q with
        | true =>
          refine .inr (ev_eq (ev_step (form q hIq.1 hq hcond) (ev_bind hm ?_)) hV.symm)
          have : mt (X l i) (Y l i) (X l (nx l i 1)) (Y l (nx l i 1)) (X l q) (Y l q) (X l (nx l q 1)) (Y l (nx l q 1)) = true := hmv
          exact ev_if_pos this (ev_now fun _ => rfl)
        | false =>
          refine .inl ⟨hinc (fun _ => hmv), fun hn2 => ev_step (form q hIq.1 hq hcond) (ev_bind hm ?_)⟩
          have : ¬ mt (X l i) (Y l i) (X l (nx l i 1)) (Y l (nx l i 1)) (X l q) (Y l q) (X l (nx l q 1)) (Y l (nx l q 1)) = true := by
            have h5 : mt (X l i) (Y l i) (X l (nx l i 1)) (Y l (nx l i 1)) (X l q) (Y l q) (X l (nx l q 1)) (Y l (nx l q 1)) = false := hmv
            rw [h5]; simp
          exact ev_if_neg this hn2
      · exact .inl ⟨hinc (fun h => absurd h hcond), fun hn2 => ev_step (skip q hIq.1 hq hcond) hn2⟩
  · refine ev_step (f := fun k => (impl_twiceSail.f k l).bind fun t => some (decide (t > 0))) (fun k => ?_) (ev_eq (ev_bind (implTwice l (by omega)) (ev_now fun _ => rfl)) ?_)
    · show impl_ValidSail.l2 (k + 1) _ _ _ _ = _
      simp only [impl_ValidSail.l2]
      rw [if_neg (by omega)]
    · have hall : V l ↔ 0 < tw l := ⟨fun h => h.2.2.2.2, fun h => ⟨h8, hb, hcr, fun i k h1 h2 h3 => hI i (by omega) k h1 h2 h3, h⟩⟩
      by_cases h : 0 < tw l
      · rw [Vb_true (hall.2 h)]; exact decide_eq_true h
      · rw [Vb_false (fun hv => h (hall.1 hv))]; exact decide_eq_false h
theorem implV (l : List S35) (hn : l.length < 9223372036854775000) : Ev (fun k => impl_ValidSail.f k l) (Vb l) := by
  unfold impl_ValidSail.f
  by_cases h3 : (l.length : Int) < 3
  · exact ev_if_pos h3 (ev_eq (ev_end fun k => by simp only [impl_ValidSail.j0, if_true]) (Vb_false (fun hV => by have := hV.1; omega)).symm)
  · refine ev_if_neg h3 ?_
    by_cases h8 : (l.length : Int) > 8
    · simp only [h8, decide_true]
      exact ev_eq (ev_end fun k => by simp only [impl_ValidSail.j0, if_true]) (Vb_false (fun hV => by have := hV.1; omega)).symm
    · simp only [h8, decide_false]
      refine ev_step (f := fun k => impl_ValidSail.l0 k l (l.length : Int) l (l.length : Int) 0) (fun k => by simp only [impl_ValidSail.j0, if_false, Bool.false_eq_true]) ?_
      refine loop_up (fun k i => impl_ValidSail.l0 k l (l.length : Int) l (l.length : Int) (i : Int)) l.length (Vb l) (fun i => ∀ j, j < i → inb (X l j) ∧ inb (Y l j)) (fun i hi hI => ?_) (fun hI => ?_) _ 0 rfl (by omega) (fun j hj => by omega)
      · by_cases h : inb (X l i) ∧ inb (Y l i)
        · refine .inl ⟨fun k => ?_, fun j hj => ?_⟩
          · show impl_ValidSail.l0 (k + 1) _ _ _ _ _ = impl_ValidSail.l0 k _ _ _ _ _
            have h1 := h.1
            have h2 := h.2
            unfold inb at h1 h2
            simp only [impl_ValidSail.l0, rdX, rdY, implIn]
            rw [if_pos (by omega), if_pos (by omega), if_pos (by omega), succ_cast i (by omega)]
            simp only [h1, h2, and_self, decide_true, Option.bind_some, if_true]
          · by_cases hji : j = i
            · subst hji; exact h
            · exact hI j (by omega)
        · refine .inr (ev_eq (ev_end (fun k => ?_)) (Vb_false (fun hV => h (hV.2.1 i hi))).symm)
          show impl_ValidSail.l0 (k + 1) _ _ _ _ _ = _
          simp only [impl_ValidSail.l0, rdX, rdY, implIn]
          rw [if_pos (by omega), if_pos (by omega), if_pos (by omega)]
          by_cases h1 : 0 ≤ X l i ∧ X l i ≤ 2000
          · have h2 : ¬ (0 ≤ Y l i ∧ Y l i ≤ 2000) := fun h2 => h ⟨h1, h2⟩
            simp only [h1, h2, and_self, decide_true, decide_false, Option.bind_some, if_true, if_false, Bool.false_eq_true]
          · simp only [h1, decide_false, Option.bind_some, if_false, Bool.false_eq_true]
      · have hb : inbox l := fun i hi => hI i hi
        refine ev_step (f := fun k => impl_ValidSail.l1 k l (l.length : Int) (l.length : Int) 0) (fun k => ?_) ?_
        · show impl_ValidSail.l0 (k + 1) _ _ _ _ _ = _
          simp only [impl_ValidSail.l0]
          rw [if_neg (by omega)]
        · refine loop_up (fun k i => impl_ValidSail.l1 k l (l.length : Int) (l.length : Int) (i : Int)) l.length (Vb l) (fun i => ∀ j, j < i → cr l j ≠ 0) (fun i hi hI => ?_) (fun hI => ?_) _ 0 rfl (by omega) (fun j hj => by omega)
          · have e1 : Int.tmod (wrap64 ((i : Int) + 1)) (l.length : Int) = ((nx l i 1 : Nat) : Int) := succ_mod i l.length (by omega) 1 (by omega)
            have e2 : Int.tmod (wrap64 ((i : Int) + 2)) (l.length : Int) = ((nx l i 2 : Nat) : Int) := succ_mod i l.length (by omega) 2 (by omega)
            have hl1 := nx_lt l i 1 (by omega)
            have hl2 := nx_lt l i 2 (by omega)
            have b0 := hb i hi
            have b1 := hb _ hl1
            have b2 := hb _ hl2
            have one : ∀ k, impl_ValidSail.l1 (k + 1) l (l.length : Int) (l.length : Int) (i : Int) = if cr l i = 0 then some false else impl_ValidSail.l1 k l (l.length : Int) (l.length : Int) ((i + 1 : Nat) : Int) := by
              intro k
              simp only [impl_ValidSail.l1]
              rw [e1, e2, if_pos (by omega), if_pos (by omega), if_pos (by omega), if_neg (by omega), if_pos (by omega), if_pos (by omega), if_pos (by omega), if_pos (by omega), succ_cast i (by omega)]
              simp only [rdX, rdY]
              rw [implTurn b0.1 b0.2 b1.1 b1.2 b2.1 b2.2]
              rfl
            by_cases hc : cr l i = 0
            · exact .inr (ev_eq (ev_end (fun k => by show impl_ValidSail.l1 (k + 1) _ _ _ _ = _; rw [one, if_pos hc])) (Vb_false (fun hV => hV.2.2.1 i hi hc)).symm)
            · refine .inl ⟨fun k => by show impl_ValidSail.l1 (k + 1) _ _ _ _ = _; rw [one, if_neg hc], fun j hj => ?_⟩
              by_cases hji : j = i
              · subst hji; exact hc
              · exact hI j (by omega)
          · refine ev_step (fun k => ?_) (implV2 l (by omega) hb (fun i hi => hI i hi))
            show impl_ValidSail.l1 (k + 1) _ _ _ _ = _
            simp only [impl_ValidSail.l1]
            rw [if_neg (by omega)]
/-! ### what the laws do with corners -/
def cv (x : S37) : S35 := ⟨x.f0, x.f1⟩
theorem toSpots (l : List S37) (h : l.length ≤ 1048576) : Ev (fun k => laws_toSpotS.f k l) (l.map cv) := by
  unfold laws_toSpotS.f
  refine ev_if_pos (by omega) (ev_if_pos (by omega) ?_)
  exact copy_loop z37 z35 cv (fun k x3 x4 => laws_toSpotS.l0 k l x3 x4) l (by omega) (fun _ _ _ => rfl)
theorem eqSpot (a b c d : Int) : laws_eqSpot.f a b c d = some (decide (a = c ∧ b = d)) := by
  unfold laws_eqSpot.f
  by_cases h1 : a = c <;> by_cases h2 : b = d <;> simp [h1, h2]
theorem eqSpots (l : List S35) (h : l.length ≤ 1048576) : Ev (fun k => laws_eqSpotS.f k l l) true := by
  unfold laws_eqSpotS.f
  refine ev_if_pos rfl ?_
  refine eq_loop z35 (fun x => laws_eqSpot.f x.f0 x.f1 x.f0 x.f1) (fun k x5 => laws_eqSpotS.l0 k l l x5) l (by omega) (fun x => by simp [eqSpot]) (fun _ _ => rfl)
theorem szSpots (l : List S37) (n : Int) (h0 : 0 ≤ n) (hn : n ≤ 1048576) (hl : l.length ≤ 9223372036854775807) : laws_szSpotS.f l n = some (if (l.length : Int) ≤ n then n - l.length else -1) := by
  unfold laws_szSpotS.f
  rw [wrap_in (by omega) (by omega)]
  by_cases h : (l.length : Int) ≤ n
  · rw [if_neg (by omega), if_pos h]
  · rw [if_pos (by omega), if_neg h]
/-! ### the text of a sail -/
def bs (l : List UInt8) : ByteArray := ⟨l.toArray⟩
theorem bs_size (l : List UInt8) : (bs l).size = l.length := by simp [bs, ByteArray.size]
theorem bs_app (a b : List UInt8) : bs a ++ bs b = bs (a ++ b) := by
  apply ByteArray.ext
  rw [ByteArray.data_append]
  simp [bs]
theorem bs_list (l : List UInt8) : (bs l).data.toList = l := by simp [bs]
def nums (xs : List Int) : List UInt8 := xs.map (fun n => UInt8.ofNat n.toNat)
theorem dec_step (x0 : Int) (h0 : 0 ≤ x0) : ∀ (m u : Nat) (xs : List Int), u ≤ m → 1 ≤ u → u ≤ 2000 → xs.length + m ≤ 100000 → Ev (fun k => spec_l01Dec.l0 k x0 xs (u : Int)) (bs (Lib.decDigits u ++ nums xs)) := by
  intro m
  induction m with
  | zero => intro u xs h1 h2; omega
  | succ m ih =>
    intro u xs h1 h2 h3 h4
    have e1 : Int.tmod (u : Int) 10 = ((u % 10 : Nat) : Int) := by rw [Int.tmod_eq_emod_of_nonneg (by omega)]; omega
    have e2 : Int.tdiv (u : Int) 10 = ((u / 10 : Nat) : Int) := by rw [Int.tdiv_eq_ediv_of_nonneg (by omega)]; omega
    have e3 : wrap64 (48 + ((u % 10 : Nat) : Int)) % 256 = ((48 + u % 10 : Nat) : Int) := by rw [wrap_in (by omega) (by omega)]; omega
    have e4 : wrap64 ((u / 10 : Nat) : Int) = ((u / 10 : Nat) : Int) := wrap_in (by omega) (by omega)
    have hs : ∀ k, spec_l01Dec.l0 (k + 1) x0 xs (u : Int) = spec_l01Dec.l0 k x0 (((48 + u % 10 : Nat) : Int) :: xs) ((u / 10 : Nat) : Int) := by
      intro k
      simp only [spec_l01Dec.l0]
      rw [if_neg (by omega), e1, if_neg (by omega), e2, e3, e4]
      simp only [Option.bind_some]
      rw [if_pos (by simp; omega)]
      rfl
    have e5 : nums (((48 + u % 10 : Nat) : Int) :: xs) = UInt8.ofNat (48 + u % 10) :: nums xs := by simp only [nums, List.map_cons, Int.toNat_natCast]
    refine ev_step hs ?_
    by_cases c : u < 10
    · rw [show u / 10 = 0 from by omega]
      refine ev_end fun k => ?_
      have e6 : u % 10 = u := by omega
      simp only [spec_l01Dec.l0]
      rw [if_pos (by omega), if_neg (by simp; omega), if_neg (by omega)]
      rw [Lib.decDigits, dif_pos c]
      show some (bs (nums _)) = _
      rw [e5, e6]
      rfl
    · have := ih (u / 10) (((48 + u % 10 : Nat) : Int) :: xs) (by omega) (by omega) (by omega) (by simp; omega)
      rw [e5] at this
      rw [Lib.decDigits, dif_neg c, List.append_assoc]
      exact this
theorem decE (n : Int) (h0 : 0 ≤ n) (h1 : n ≤ 2000) : Ev (fun k => spec_l01Dec.f k n) (bs (Lib.itoa n)) ∧ Ev (fun k => impl_Decimal.f k n) (bs (Lib.itoa n)) := by
  constructor
  · obtain ⟨u, rfl⟩ := Int.eq_ofNat_of_zero_le h0
    have e : Lib.itoa (u : Int) = Lib.decDigits u := by unfold Lib.itoa; rw [if_neg (by omega)]; simp
    unfold spec_l01Dec.f
    by_cases c : u = 0
    · subst c
      refine ev_end fun k => ?_
      simp only [spec_l01Dec.l0]
      rw [if_pos (by omega), if_pos (by simp), e, Lib.decDigits, dif_pos (by omega)]
      rfl
    · have := dec_step (u : Int) (by omega) u u [] (by omega) (by omega) (by omega) (by simp; omega)
      rw [e]
      simpa [nums] using this
  · refine ev_now fun k => ?_
    unfold impl_Decimal.f
    rw [if_pos (by omega)]
    rfl
def Wd (s : S35) : List UInt8 := Lib.itoa s.f0 ++ [44] ++ Lib.itoa s.f1
def JN (l : List S35) (i : Nat) : List UInt8 := Lib.join ((l.take i).map Wd) [32]
theorem itoa_le (n : Int) (h0 : 0 ≤ n) (h1 : n ≤ 2000) : (Lib.itoa n).length ≤ 21 := Lib.itoa_length_le n (by omega) (by omega)
theorem join_snoc (xs : List (List UInt8)) (y sep : List UInt8) : Lib.join (xs ++ [y]) sep = if xs = [] then y else Lib.join xs sep ++ sep ++ y := by
  cases xs with
  | nil => rw [if_pos rfl, List.nil_append, Lib.join_one]
  | cons x r =>
    rw [if_neg (by simp), List.cons_append, Lib.join_cons, Lib.join_cons]
    unfold Lib.joinTail
    simp
theorem take_one (l : List S35) (i : Nat) (hi : i < l.length) : l.take (i + 1) = l.take i ++ [l.getD i z35] := by
  rw [List.take_succ_eq_append_getElem hi, List.getD_eq_getElem?_getD, List.getElem?_eq_getElem hi]
  rfl
theorem JN_next (l : List S35) (i : Nat) (hi : i < l.length) : JN l (i + 1) = if i = 0 then Wd (l.getD i z35) else JN l i ++ [32] ++ Wd (l.getD i z35) := by
  unfold JN
  rw [take_one l i hi, List.map_append, List.map_cons, List.map_nil, join_snoc]
  by_cases c : i = 0
  · subst c; rw [if_pos rfl, if_pos (by simp)]
  · rw [if_neg c, if_neg]
    intro h
    have h2 : ((l.take i).map Wd).length = 0 := by rw [h]; rfl
    rw [List.length_map, List.length_take] at h2
    omega
theorem textS (l : List S35) (h8 : l.length ≤ 8) (hb : ∀ i, i < l.length → (0 ≤ (l.getD i z35).f0 ∧ (l.getD i z35).f0 ≤ 2000) ∧ 0 ≤ (l.getD i z35).f1 ∧ (l.getD i z35).f1 ≤ 2000) :
    Ev (fun k => spec_l13Text.f k l) (bs (JN l l.length)) := by
  unfold spec_l13Text.f
  have key : ∀ (m i : Nat), l.length - i = m → i ≤ l.length → (JN l i).length ≤ 44 * i → Ev (fun k => spec_l13Text.l0 k l (bs (JN l i)) (i : Int)) (bs (JN l l.length)) := by
    intro m
    induction m with
    | zero =>
      intro i h1 h2 h3
      obtain rfl : i = l.length := by omega
      refine ev_end fun k => ?_
      simp only [spec_l13Text.l0]
      rw [if_neg (by omega)]
    | succ m ih =>
      intro i h1 h2 h3
      have hi : i < l.length := by omega
      obtain ⟨⟨a0, a1⟩, b0, b1⟩ := hb i hi
      have d1 := (decE _ a0 a1).1
      have d2 := (decE _ b0 b1).1
      have s1 := itoa_le _ a0 a1
      have s2 := itoa_le _ b0 b1
      have er : rd_T35 l (i : Int) = l.getD i z35 := by simp only [rd_T35, Int.toNat_natCast]
      have hw : (Wd (l.getD i z35)).length = (Lib.itoa (l.getD i z35).f0).length + 1 + (Lib.itoa (l.getD i z35).f1).length := by simp only [Wd, List.length_append, List.length_cons, List.length_nil]
      have hn := JN_next l i hi
      have hl : (JN l (i + 1)).length ≤ 44 * (i + 1) := by
        rw [hn]
        split
        · omega
        · simp only [List.length_append, List.length_cons, List.length_nil]; omega
      have hrec := ih (i + 1) (by omega) (by omega) hl
      have z1 : (bs (Lib.itoa (l.getD i z35).f0)).size = (Lib.itoa (l.getD i z35).f0).length := bs_size _
      have z2 : (bs (Lib.itoa (l.getD i z35).f1)).size = (Lib.itoa (l.getD i z35).f1).length := bs_size _
      have z3 : (bs (JN l i)).size = (JN l i).length := bs_size _
      have g44 : bs (Lib.itoa (l.getD i z35).f0) ++ (⟨#[44]⟩ : ByteArray) = bs (Lib.itoa (l.getD i z35).f0 ++ [44]) := bs_app _ [44]
      have gw : bs (Lib.itoa (l.getD i z35).f0 ++ [44]) ++ bs (Lib.itoa (l.getD i z35).f1) = bs (Wd (l.getD i z35)) := bs_app _ _
      have z4 : (bs (Lib.itoa (l.getD i z35).f0 ++ [44])).size = (Lib.itoa (l.getD i z35).f0).length + 1 := by rw [bs_size, List.length_append]; rfl
      have z5 : (bs (Wd (l.getD i z35))).size = (Wd (l.getD i z35)).length := bs_size _
      refine ev_step (f := fun k => if (i : Int) > 0 then (if (bs (JN l i)).size + 1 ≤ 9223372036854775807 then (if 0 ≤ (i : Int) then ((spec_l01Dec.f k (l.getD i z35).f0).bind fun t168 => (if t168.size + 1 ≤ 9223372036854775807 then ((spec_l01Dec.f k (l.getD i z35).f1).bind fun t170 => (if (t168 ++ (⟨#[44]⟩ : ByteArray)).size + t170.size ≤ 9223372036854775807 then (if (bs (JN l i) ++ (⟨#[32]⟩ : ByteArray)).size + ((t168 ++ (⟨#[44]⟩ : ByteArray)) ++ t170).size ≤ 9223372036854775807 then (spec_l13Text.l0 k l ((bs (JN l i) ++ (⟨#[32]⟩ : ByteArray)) ++ ((t168 ++ (⟨#[44]⟩ : ByteArray)) ++ t170)) ((i + 1 : Nat) : Int)) else (none)) else (none))) else (none))) else (none)) else (none)) else (if 0 ≤ (i : Int) then ((spec_l01Dec.f k (l.getD i z35).f0).bind fun t172 => (if t172.size + 1 ≤ 9223372036854775807 then ((spec_l01Dec.f k (l.getD i z35).f1).bind fun t174 => (if (t172 ++ (⟨#[44]⟩ : ByteArray)).size + t174.size ≤ 9223372036854775807 then (if (bs (JN l i)).size + ((t172 ++ (⟨#[44]⟩ : ByteArray)) ++ t174).size ≤ 9223372036854775807 then (spec_l13Text.l0 k l (bs (JN l i) ++ ((t172 ++ (⟨#[44]⟩ : ByteArray)) ++ t174)) ((i + 1 : Nat) : Int)) else (none)) else (none))) else (none))) else (none))) (fun k => ?_) ?_
      · simp only [spec_l13Text.l0]
        rw [if_pos (by omega), er, succ_cast i (by omega)]
      · by_cases c : i = 0
        · refine ev_if_neg (by omega) (ev_if_pos (by omega) (ev_bind d1 (ev_if_pos (by omega) (ev_bind d2 ?_))))
          rw [g44, gw]
          refine ev_if_pos (by omega) (ev_if_pos (by omega) ?_)
          rw [bs_app]
          subst c
          rw [hn, if_pos rfl] at hrec
          exact hrec
        · refine ev_if_pos (by omega) (ev_if_pos (by omega) (ev_if_pos (by omega) (ev_bind d1 (ev_if_pos (by omega) (ev_bind d2 ?_)))))
          have g32 : bs (JN l i) ++ (⟨#[32]⟩ : ByteArray) = bs (JN l i ++ [32]) := bs_app _ [32]
          have z6 : (bs (JN l i ++ [32])).size = (JN l i).length + 1 := by rw [bs_size, List.length_append]; rfl
          rw [g44, gw, g32]
          refine ev_if_pos (by omega) (ev_if_pos (by omega) ?_)
          rw [bs_app]
          rw [hn, if_neg c] at hrec
          exact hrec
  exact key l.length 0 (by omega) (by omega) (by show (Lib.join [] _).length ≤ _; rw [Lib.join_nil]; simp)
theorem JN_le (l : List S35) (hb : ∀ i, i < l.length → (0 ≤ (l.getD i z35).f0 ∧ (l.getD i z35).f0 ≤ 2000) ∧ 0 ≤ (l.getD i z35).f1 ∧ (l.getD i z35).f1 ≤ 2000) : ∀ i, i ≤ l.length → (JN l i).length ≤ 44 * i
  | 0, _ => by show (Lib.join [] _).length ≤ _; rw [Lib.join_nil]; simp
  | i + 1, hi => by
    have ih := JN_le l hb i (by omega)
    obtain ⟨⟨a0, a1⟩, b0, b1⟩ := hb i (by omega)
    have s1 := itoa_le _ a0 a1
    have s2 := itoa_le _ b0 b1
    rw [JN_next l i (by omega)]
    have hw : (Wd (l.getD i z35)).length = (Lib.itoa (l.getD i z35).f0).length + 1 + (Lib.itoa (l.getD i z35).f1).length := by simp only [Wd, List.length_append, List.length_cons, List.length_nil]
    split
    · omega
    · simp only [List.length_append, List.length_cons, List.length_nil]; omega
theorem textI (l : List S35) (h8 : l.length ≤ 8) (hb : ∀ i, i < l.length → (0 ≤ (l.getD i z35).f0 ∧ (l.getD i z35).f0 ≤ 2000) ∧ 0 ≤ (l.getD i z35).f1 ∧ (l.getD i z35).f1 ≤ 2000) :
    Ev (fun k => impl_SailText.l0 k [] l (l.length : Int) 0) (bs (JN l l.length)) := by
  have key : ∀ (m i : Nat), l.length - i = m → i ≤ l.length → Ev (fun k => impl_SailText.l0 k ((l.take i).map (fun s => bs (Wd s))) l (l.length : Int) (i : Int)) (bs (JN l l.length)) := by
    intro m
    induction m with
    | zero =>
      intro i h1 h2
      obtain rfl : i = l.length := by omega
      have hj := JN_le l hb l.length (Nat.le_refl _)
      refine ev_end fun k => ?_
      simp only [impl_SailText.l0]
      rw [if_neg (by omega)]
      have e : ((l.take l.length).map (fun s => bs (Wd s))).map (fun b => b.data.toList) = (l.take l.length).map Wd := by
        rw [List.map_map]
        refine List.map_congr_left (fun s _ => ?_)
        exact bs_list _
      unfold strings_Join.f
      rw [e]
      rw [if_pos ⟨by simp; omega, by show (JN l l.length).length ≤ _; omega⟩]
      rfl
    | succ m ih =>
      intro i h1 h2
      have hi : i < l.length := by omega
      obtain ⟨⟨a0, a1⟩, b0, b1⟩ := hb i hi
      have d1 := (decE _ a0 a1).2
      have d2 := (decE _ b0 b1).2
      have s1 := itoa_le _ a0 a1
      have s2 := itoa_le _ b0 b1
      have er : rd_T35 l (i : Int) = l.getD i z35 := by simp only [rd_T35, Int.toNat_natCast]
      have z1 : (bs (Lib.itoa (l.getD i z35).f0)).size = (Lib.itoa (l.getD i z35).f0).length := bs_size _
      have z2 : (bs (Lib.itoa (l.getD i z35).f1)).size = (Lib.itoa (l.getD i z35).f1).length := bs_size _
      have g44 : bs (Lib.itoa (l.getD i z35).f0) ++ (⟨#[44]⟩ : ByteArray) = bs (Lib.itoa (l.getD i z35).f0 ++ [44]) := bs_app _ [44]
      have gw : bs (Lib.itoa (l.getD i z35).f0 ++ [44]) ++ bs (Lib.itoa (l.getD i z35).f1) = bs (Wd (l.getD i z35)) := bs_app _ _
      have z4 : (bs (Lib.itoa (l.getD i z35).f0 ++ [44])).size = (Lib.itoa (l.getD i z35).f0).length + 1 := by rw [bs_size, List.length_append]; rfl
      have hrec := ih (i + 1) (by omega) (by omega)
      rw [take_one l i hi, List.map_append, List.map_cons, List.map_nil] at hrec
      refine ev_step (f := fun k => (impl_Decimal.f k (l.getD i z35).f0).bind fun t246 => (if t246.size + 1 ≤ 9223372036854775807 then ((impl_Decimal.f k (l.getD i z35).f1).bind fun t247 => (if (t246 ++ (⟨#[44]⟩ : ByteArray)).size + t247.size ≤ 9223372036854775807 then (if ((l.take i).map (fun s => bs (Wd s))).length < 8796093022208 then (impl_SailText.l0 k ((l.take i).map (fun s => bs (Wd s)) ++ [(t246 ++ (⟨#[44]⟩ : ByteArray)) ++ t247]) l (l.length : Int) ((i + 1 : Nat) : Int)) else (none)) else (none))) else (none))) (fun k => ?_) (ev_bind d1 (ev_if_pos (by omega) (ev_bind d2 ?_)))
      · simp only [impl_SailText.l0]
        rw [if_pos (by omega), if_pos (by omega), if_pos (by omega), er, succ_cast i (by omega)]
      · rw [g44, gw]
        exact ev_if_pos (by omega) (ev_if_pos (by rw [List.length_map, List.length_take]; omega) hrec)
  exact key l.length 0 (by omega) (by omega)
theorem FnExactSailText : Say.FnExactSailText := by
  intro l hl
  have hl := hl.1
  apply Ev.rounds
  unfold laws_FnExactSailText.f
  rw [szSpots l 1048576 (by omega) (by omega) (by unfold maxLen at hl; omega)]
  by_cases h : l.length ≤ 1048576
  · rw [if_pos (by omega)]
    have hn : (l.map cv).length < 9223372036854775000 := by simp; omega
    have hm : (l.map cv).length ≤ 1048576 := by simp; omega
    have key : ∃ t, Ev (fun k => spec_SailText.f k (l.map cv)) t ∧ Ev (fun k => impl_SailText.f k (l.map cv)) t := by
      have sV := specV (l.map cv) hn
      have iV := implV (l.map cv) hn
      unfold spec_SailText.f impl_SailText.f
      cases hV : Vb (l.map cv) with
      | false =>
        rw [hV] at sV iV
        exact ⟨⟨#[]⟩, ev_bind sV (ev_if_neg Bool.false_ne_true (ev_now fun _ => rfl)), ev_bind iV (ev_if_neg Bool.false_ne_true (ev_now fun _ => rfl))⟩
      | true =>
        rw [hV] at sV iV
        have V1 := V_of hV
        have hb := V1.2.1
        have hbb : ∀ i, i < (l.map cv).length → (0 ≤ ((l.map cv).getD i z35).f0 ∧ ((l.map cv).getD i z35).f0 ≤ 2000) ∧ 0 ≤ ((l.map cv).getD i z35).f1 ∧ ((l.map cv).getD i z35).f1 ≤ 2000 := fun i hi => hb i hi
        exact ⟨_, ev_bind sV (ev_if_pos rfl (ev_bind (textS _ V1.1.2 hbb) (ev_now fun _ => rfl))), ev_bind iV (ev_if_pos rfl (textI _ V1.1.2 hbb))⟩
    obtain ⟨t, k1, k2⟩ := key
    exact ev_some (ev_if_neg (by omega) (ev_bind (toSpots l h) (ev_bind k1 (ev_bind (toSpots l h) (ev_bind k2 (ev_if_pos rfl (ev_bind (toSpots l h) (ev_bind (eqSpots _ hm) (ev_if_pos rfl (ev_now fun _ => rfl))))))))))
  · rw [if_neg (by omega)]
    exact ev_some (ev_if_pos (by omega) (ev_now fun _ => rfl))
end Go.Proofs.YtchngbjpjbahiaaDoor.Pure
