import Derived.Test.YtchngbjpjbahiaaDoorSayFnExactReadSail
import Derived.Test.YtchngbjpjbahiaaDoorPlain
namespace Go.Proofs.YtchngbjpjbahiaaDoor.Pure
open Go.RowKit Go.Proofs.YtchngbjpjbahiaaDoor.PFnExactReadSail Go.Proofs.YtchngbjpjbahiaaDoor.Plain Go.Proofs.YtchngbjpjbahiaaDoorW.PrintWords
set_option linter.unusedVariables false
set_option linter.unusedSimpArgs false
open Go.Proofs.YtchngbjpjbahiaaDoorW.PrintMore
theorem specIn (n a b : Int) : spec_l00In.f n a b = some (decide (a ≤ n ∧ n ≤ b)) := by
  unfold spec_l00In.f
  by_cases h1 : n ≥ a <;> by_cases h2 : n ≤ b <;> simp [h1, h2] <;> omega
theorem implIn (n a b : Int) : impl_within.f n a b = some (decide (a ≤ n ∧ n ≤ b)) := by
  unfold impl_within.f
  by_cases h1 : n ≥ a <;> by_cases h2 : n ≤ b <;> simp [h1, h2] <;> omega
/-! ### corners: the geometry -/
def crs (ax ay bx by_ cx cy : Int) : Int := (bx - ax) * (cy - ay) - (by_ - ay) * (cx - ax)
def inb (x : Int) : Prop := 0 ≤ x ∧ x ≤ 2000
theorem crs_bound {ax ay bx by_ cx cy : Int} (h1 : inb ax) (h2 : inb ay) (h3 : inb bx) (h4 : inb by_) (h5 : inb cx) (h6 : inb cy) : -8000000 ≤ crs ax ay bx by_ cx cy ∧ crs ax ay bx by_ cx cy ≤ 8000000 := by
  unfold inb at *
  have m1 := mul_bound (a := bx - ax) (b := cy - ay) (A := 2000) (B := 2000) (by omega) (by omega) (by omega) (by omega)
  have m2 := mul_bound (a := by_ - ay) (b := cx - ax) (A := 2000) (B := 2000) (by omega) (by omega) (by omega) (by omega)
  unfold crs
  omega
theorem specCross {ax ay bx by_ cx cy : Int} (h1 : inb ax) (h2 : inb ay) (h3 : inb bx) (h4 : inb by_) (h5 : inb cx) (h6 : inb cy) : spec_l13Cross.f ax ay bx by_ cx cy = some (crs ax ay bx by_ cx cy) := by
  have hb := crs_bound h1 h2 h3 h4 h5 h6
  unfold inb at *
  have m1 := mul_bound (a := bx - ax) (b := cy - ay) (A := 2000) (B := 2000) (by omega) (by omega) (by omega) (by omega)
  have m2 := mul_bound (a := by_ - ay) (b := cx - ax) (A := 2000) (B := 2000) (by omega) (by omega) (by omega) (by omega)
  unfold spec_l13Cross.f
  unfold crs at *
  rw [wrap_in (x := bx - ax) (by omega) (by omega), wrap_in (x := cy - ay) (by omega) (by omega), wrap_in (x := by_ - ay) (by omega) (by omega), wrap_in (x := cx - ax) (by omega) (by omega),
    wrap_in (x := (bx - ax) * (cy - ay)) (by omega) (by omega), wrap_in (x := (by_ - ay) * (cx - ax)) (by omega) (by omega), wrap_in (by omega) (by omega)]
theorem implTurn {ax ay bx by_ cx cy : Int} (h1 : inb ax) (h2 : inb ay) (h3 : inb bx) (h4 : inb by_) (h5 : inb cx) (h6 : inb cy) : impl_turnAt.f ax ay bx by_ cx cy = some (crs ax ay bx by_ cx cy) := by
  have hb := crs_bound h1 h2 h3 h4 h5 h6
  unfold inb at *
  have m1 := mul_bound (a := bx - ax) (b := cy - by_) (A := 2000) (B := 2000) (by omega) (by omega) (by omega) (by omega)
  have m2 := mul_bound (a := by_ - ay) (b := cx - bx) (A := 2000) (B := 2000) (by omega) (by omega) (by omega) (by omega)
  have e : (bx - ax) * (cy - by_) - (by_ - ay) * (cx - bx) = crs ax ay bx by_ cx cy := by unfold crs; grind
  unfold impl_turnAt.f
  rw [wrap_in (x := bx - ax) (by omega) (by omega), wrap_in (x := cy - by_) (by omega) (by omega), wrap_in (x := by_ - ay) (by omega) (by omega), wrap_in (x := cx - bx) (by omega) (by omega),
    wrap_in (x := (bx - ax) * (cy - by_)) (by omega) (by omega), wrap_in (x := (by_ - ay) * (cx - bx)) (by omega) (by omega), wrap_in (by omega) (by omega), e]
def btw (ax ay bx by_ cx cy : Int) : Bool := decide ((min ax bx ≤ cx ∧ cx ≤ max ax bx) ∧ (min ay by_ ≤ cy ∧ cy ≤ max ay by_))
def onb (ax ay bx by_ cx cy : Int) : Bool := decide (crs ax ay bx by_ cx cy = 0) && btw ax ay bx by_ cx cy
theorem spec_min (a b : Int) : spec_l00Min.f a b = some (min a b) := by unfold spec_l00Min.f; split <;> congr 1 <;> omega
theorem spec_max (a b : Int) : spec_l00Max.f a b = some (max a b) := by unfold spec_l00Max.f; split <;> congr 1 <;> omega
theorem mn_min (a b : Int) : mn a b = min a b := by unfold mn; split <;> omega
theorem mx_max (a b : Int) : mx a b = max a b := by unfold mx; split <;> omega
theorem specOn {ax ay bx by_ cx cy : Int} (h1 : inb ax) (h2 : inb ay) (h3 : inb bx) (h4 : inb by_) (h5 : inb cx) (h6 : inb cy) : spec_l13On.f ax ay bx by_ cx cy = some (onb ax ay bx by_ cx cy) := by
  unfold spec_l13On.f
  rw [specCross h1 h2 h3 h4 h5 h6]
  simp only [Option.bind_some, spec_min, spec_max, specIn]
  unfold onb btw
  by_cases h : crs ax ay bx by_ cx cy = 0
  · by_cases h' : min ax bx ≤ cx ∧ cx ≤ max ax bx
    · simp [h, h']
    · simp [h, h']
  · simp [h]
theorem implBetween (ax ay bx by_ cx cy : Int) : impl_between.f ax ay bx by_ cx cy = some (btw ax ay bx by_ cx cy) := by
  unfold impl_between.f
  simp only [Option.bind_some, mn_min, mx_max, implIn]
  unfold btw
  by_cases h' : min ax bx ≤ cx ∧ cx ≤ max ax bx
  · simp [h']
  · simp [h']
def opp (p q : Int) : Bool := decide (p < 0 ∧ q > 0 ∨ p > 0 ∧ q < 0)
def sid (ax ay bx by_ cx cy dx dy : Int) : Bool := opp (crs ax ay bx by_ cx cy) (crs ax ay bx by_ dx dy)
theorem specSides {ax ay bx by_ cx cy dx dy : Int} (h1 : inb ax) (h2 : inb ay) (h3 : inb bx) (h4 : inb by_) (h5 : inb cx) (h6 : inb cy) (h7 : inb dx) (h8 : inb dy) : spec_l13Sides.f ax ay bx by_ cx cy dx dy = some (sid ax ay bx by_ cx cy dx dy) := by
  unfold spec_l13Sides.f
  rw [specCross h1 h2 h3 h4 h5 h6, specCross h1 h2 h3 h4 h7 h8]
  simp only [Option.bind_some]
  unfold sid opp
  generalize crs ax ay bx by_ cx cy = p
  generalize crs ax ay bx by_ dx dy = q
  by_cases h : p < 0
  · by_cases h' : q > 0
    · simp [h, h']
    · have : ¬ p > 0 := by omega
      simp [h, h', this]
  · by_cases h' : p > 0
    · simp [h, h']
    · simp [h, h']
def mt (ax ay bx by_ cx cy dx dy : Int) : Bool := (onb ax ay bx by_ cx cy || onb ax ay bx by_ dx dy || onb cx cy dx dy ax ay || onb cx cy dx dy bx by_) || (sid ax ay bx by_ cx cy dx dy && sid cx cy dx dy ax ay bx by_)
theorem specMeet {ax ay bx by_ cx cy dx dy : Int} (h1 : inb ax) (h2 : inb ay) (h3 : inb bx) (h4 : inb by_) (h5 : inb cx) (h6 : inb cy) (h7 : inb dx) (h8 : inb dy) : Ev (fun k => spec_l13Meet.f k ax ay bx by_ cx cy dx dy) (mt ax ay bx by_ cx cy dx dy) := by
  have hj : ∀ t, Ev (fun k => spec_l13Meet.j0 k t ax ay bx by_ cx cy dx dy) (t || (sid ax ay bx by_ cx cy dx dy && sid cx cy dx dy ax ay bx by_)) := by
    intro t
    refine ev_end (fun k => ?_)
    simp only [spec_l13Meet.j0, specSides h1 h2 h3 h4 h5 h6 h7 h8, specSides h5 h6 h7 h8 h1 h2 h3 h4, Option.bind_some]
    cases t <;> cases sid ax ay bx by_ cx cy dx dy <;> simp
  unfold spec_l13Meet.f
  rw [specOn h1 h2 h3 h4 h5 h6, specOn h1 h2 h3 h4 h7 h8, specOn h5 h6 h7 h8 h1 h2, specOn h5 h6 h7 h8 h3 h4]
  simp only [Option.bind_some]
  unfold mt
  cases onb ax ay bx by_ cx cy
  · cases onb ax ay bx by_ dx dy
    · cases onb cx cy dx dy ax ay
      · simpa using hj (onb cx cy dx dy bx by_)
      · simpa using hj true
    · simpa using hj true
  · simpa using hj true
def sg (p : Int) : Int := if p > 0 then 1 else if p < 0 then -1 else 0
theorem implSign (p : Int) : impl_sign.f p = some (sg p) := by unfold impl_sign.f sg; split; rfl; split <;> rfl
theorem sg_opp (p q : Int) : decide (wrap64 (sg p * sg q) < 0) = opp p q := by
  have h1 : sg p = 1 ∧ p > 0 ∨ sg p = -1 ∧ p < 0 ∨ sg p = 0 ∧ p = 0 := by unfold sg; split; (left; omega); split <;> omega
  have h2 : sg q = 1 ∧ q > 0 ∨ sg q = -1 ∧ q < 0 ∨ sg q = 0 ∧ q = 0 := by unfold sg; split; (left; omega); split <;> omega
  unfold opp
  rw [Bool.eq_iff_iff]
  simp only [decide_eq_true_eq]
  rcases h1 with ⟨e1, h1⟩ | ⟨e1, h1⟩ | ⟨e1, h1⟩ <;> rcases h2 with ⟨e2, h2⟩ | ⟨e2, h2⟩ | ⟨e2, h2⟩ <;> rw [e1, e2] <;> (unfold wrap64) <;> omega
theorem implMeet {ax ay bx by_ cx cy dx dy : Int} (h1 : inb ax) (h2 : inb ay) (h3 : inb bx) (h4 : inb by_) (h5 : inb cx) (h6 : inb cy) (h7 : inb dx) (h8 : inb dy) : Ev (fun k => impl_edgesMeet.f k ax ay bx by_ cx cy dx dy) (mt ax ay bx by_ cx cy dx dy) := by
  have hj : ∀ (p q r s : Int) (t : Bool), Ev (fun k => impl_edgesMeet.j0 k p q r s t ax ay bx by_ cx cy dx dy) (t || ((decide (p = 0) && btw ax ay bx by_ cx cy) || (decide (q = 0) && btw ax ay bx by_ dx dy) || (decide (r = 0) && btw cx cy dx dy ax ay) || (decide (s = 0) && btw cx cy dx dy bx by_))) := by
    intro p q r s t
    refine ev_end (fun k => ?_)
    simp only [impl_edgesMeet.j0, implBetween, Option.bind_some]
    cases t
    · generalize btw ax ay bx by_ cx cy = b1
      generalize btw ax ay bx by_ dx dy = b2
      generalize btw cx cy dx dy ax ay = b3
      generalize btw cx cy dx dy bx by_ = b4
      by_cases hp : p = 0 <;> by_cases hq : q = 0 <;> by_cases hr : r = 0 <;> by_cases hs : s = 0 <;> simp only [hp, hq, hr, hs, if_true, if_false, decide_true, decide_false, Bool.true_and, Bool.false_and, Bool.false_or, Bool.or_false, Bool.false_eq_true] <;> cases b1 <;> cases b2 <;> cases b3 <;> simp
    · simp
  unfold impl_edgesMeet.f
  rw [implTurn h1 h2 h3 h4 h5 h6, implTurn h1 h2 h3 h4 h7 h8, implTurn h5 h6 h7 h8 h1 h2, implTurn h5 h6 h7 h8 h3 h4]
  simp only [Option.bind_some, implSign]
  unfold mt onb sid
  generalize crs ax ay bx by_ cx cy = p at *
  generalize crs ax ay bx by_ dx dy = q at *
  generalize crs cx cy dx dy ax ay = r at *
  generalize crs cx cy dx dy bx by_ = s at *
  have e1 := sg_opp p q
  have e2 := sg_opp r s
  by_cases hc : wrap64 (sg p * sg q) < 0
  · rw [decide_eq_true hc] at e1
    simp only [hc, if_true, ← e1, Bool.true_and]
    have := hj p q r s (decide (wrap64 (sg r * sg s) < 0))
    rw [e2] at this
    rw [← e2, e2, Bool.or_comm]
    exact this
  · rw [decide_eq_false hc] at e1
    simp only [hc, if_false, ← e1, Bool.false_and, Bool.or_false]
    simpa using hj p q r s false
/-! ### valid sails -/
def X (l : List S35) (i : Nat) : Int := (l.getD i z35).f0
def Y (l : List S35) (i : Nat) : Int := (l.getD i z35).f1
theorem rdX (l : List S35) (i : Nat) : (rd_T35 l (i : Int)).f0 = X l i := by simp [rd_T35, X]
theorem rdY (l : List S35) (i : Nat) : (rd_T35 l (i : Int)).f1 = Y l i := by simp [rd_T35, Y]
def inbox (l : List S35) : Prop := ∀ i, i < l.length → inb (X l i) ∧ inb (Y l i)
def nx (l : List S35) (i c : Nat) : Nat := (i + c) % l.length
theorem nx_lt (l : List S35) (i c : Nat) (h : 0 < l.length) : nx l i c < l.length := Nat.mod_lt _ h
def cr (l : List S35) (i : Nat) : Int := crs (X l i) (Y l i) (X l (nx l i 1)) (Y l (nx l i 1)) (X l (nx l i 2)) (Y l (nx l i 2))
def mtl (l : List S35) (i k : Nat) : Bool := mt (X l i) (Y l i) (X l (nx l i 1)) (Y l (nx l i 1)) (X l k) (Y l k) (X l (nx l k 1)) (Y l (nx l k 1))
def T (l : List S35) : Nat → Int
  | 0 => 0
  | i + 1 => wrap64 (T l i + wrap64 (wrap64 (X l i * Y l (nx l i 1)) - wrap64 (X l (nx l i 1) * Y l i)))
def tw (l : List S35) : Int := T l l.length
def V (l : List S35) : Prop := (3 ≤ l.length ∧ l.length ≤ 8) ∧ inbox l ∧ (∀ i, i < l.length → cr l i ≠ 0) ∧ (∀ i k, i + 2 ≤ k → k < l.length → (0 < i ∨ k < l.length - 1) → mtl l i k = false) ∧ 0 < tw l
open Classical in
noncomputable def Vb (l : List S35) : Bool := decide (V l)
theorem Vb_true {l : List S35} (h : V l) : Vb l = true := by unfold Vb; simp [h]
theorem Vb_false {l : List S35} (h : ¬ V l) : Vb l = false := by unfold Vb; simp [h]
theorem V_of {l : List S35} (h : Vb l = true) : V l := by unfold Vb at h; simpa using h
theorem specTwice (l : List S35) (hn : l.length < 9223372036854775000) : Ev (fun k => spec_l13Twice.f k l) (tw l) := by
  unfold spec_l13Twice.f
  refine loop_all (fun k i => spec_l13Twice.l0 k l (T l i) (i : Int)) l.length (tw l) (fun i hi k => ?_) (ev_end fun k => ?_)
  · show spec_l13Twice.l0 (k + 1) _ _ _ = spec_l13Twice.l0 k _ _ _
    simp only [spec_l13Twice.l0]
    have e : Int.tmod (wrap64 ((i : Int) + 1)) (l.length : Int) = ((nx l i 1 : Nat) : Int) := succ_mod i l.length (by omega) 1 (by omega)
    have hlt := nx_lt l i 1 (by omega)
    rw [e, if_pos (by omega), if_neg (by omega), if_pos (by omega), if_pos (by omega), if_pos (by omega), succ_cast i (by omega)]
    simp only [rdX, rdY]
    rfl
  · show spec_l13Twice.l0 (k + 1) _ _ _ = _
    simp only [spec_l13Twice.l0]
    rw [if_neg (by omega)]
    rfl
theorem implTwice (l : List S35) (hn : l.length < 9223372036854775000) : Ev (fun k => impl_twiceSail.f k l) (tw l) := by
  unfold impl_twiceSail.f
  refine loop_all (fun k i => impl_twiceSail.l0 k l (T l i) l (l.length : Int) (i : Int)) l.length (tw l) (fun i hi k => ?_) (ev_end fun k => ?_)
  · show impl_twiceSail.l0 (k + 1) _ _ _ _ _ = impl_twiceSail.l0 k _ _ _ _ _
    simp only [impl_twiceSail.l0]
    have e : Int.tmod (wrap64 ((i : Int) + 1)) (l.length : Int) = ((nx l i 1 : Nat) : Int) := succ_mod i l.length (by omega) 1 (by omega)
    have hlt := nx_lt l i 1 (by omega)
    rw [e, if_pos (by omega), if_pos (by omega), if_pos (by omega), if_neg (by omega), if_pos (by omega), if_pos (by omega), succ_cast i (by omega)]
    simp only [rdX, rdY]
    rfl
  · show impl_twiceSail.l0 (k + 1) _ _ _ _ _ = _
    simp only [impl_twiceSail.l0]
    rw [if_neg (by omega)]
    rfl
theorem specV1 (l : List S35) (h8 : 3 ≤ l.length ∧ l.length ≤ 8) (hb : inbox l) : Ev (fun k => spec_l13Ok.l1 k l (l.length : Int) 0) (Vb l) := by
  refine loop_up' (fun k i => spec_l13Ok.l1 k l (l.length : Int) (i : Int)) l.length (Vb l) (fun i => ∀ j, j < i → cr l j ≠ 0 ∧ ∀ q, j + 2 ≤ q → q < l.length → (0 < j ∨ q < l.length - 1) → mtl l j q = false) (fun i hi hI => ?_) (fun hI => ?_) _ 0 rfl (by omega) (fun j hj => by omega)
  · have e1 : Int.tmod (wrap64 ((i : Int) + 1)) (l.length : Int) = ((nx l i 1 : Nat) : Int) := succ_mod i l.length (by omega) 1 (by omega)
    have e2 : Int.tmod (wrap64 ((i : Int) + 2)) (l.length : Int) = ((nx l i 2 : Nat) : Int) := succ_mod i l.length (by omega) 2 (by omega)
    have hl1 := nx_lt l i 1 (by omega)
    have hl2 := nx_lt l i 2 (by omega)
    have w2 : wrap64 ((i : Int) + 2) = ((i + 2 : Nat) : Int) := by rw [wrap_in (by omega) (by omega)]; omega
    have b0 := hb i hi
    have b1 := hb _ hl1
    have b2 := hb _ hl2
    have one : ∀ k, spec_l13Ok.l1 (k + 1) l (l.length : Int) (i : Int) = if cr l i = 0 then some false else spec_l13Ok.l2 k l (l.length : Int) (i : Int) ((i + 2 : Nat) : Int) (X l i) (Y l i) (X l (nx l i 1)) (Y l (nx l i 1)) := by
      intro k
      simp only [spec_l13Ok.l1]
      rw [e1, e2, w2, if_pos (by omega), if_pos (by omega), if_pos (by omega), if_neg (by omega), if_pos (by omega), if_pos (by omega), if_pos (by omega), if_pos (by omega)]
      simp only [rdX, rdY]
      rw [specCross b0.1 b0.2 b1.1 b1.2 b2.1 b2.2]
      rfl
    by_cases hc : cr l i = 0
    · refine .inr (ev_eq (ev_end (fun k => by show spec_l13Ok.l1 (k + 1) _ _ _ = _; rw [one, if_pos hc])) (Vb_false (fun hV => hV.2.2.1 i hi hc)).symm)
    · -- the inner loop
      by_cases hall : ∀ q, i + 2 ≤ q → q < l.length → (0 < i ∨ q < l.length - 1) → mtl l i q = false
      · refine .inl ⟨fun j hj => ?_, fun hnext => ?_⟩
        · by_cases hji : j = i
          · subst hji; exact ⟨hc, hall⟩
          · exact hI j (by omega)
        · refine ev_step (fun k => by show spec_l13Ok.l1 (k + 1) _ _ _ = _; rw [one, if_neg hc]) ?_
          have fin : Ev (fun k => spec_l13Ok.l1 k l (l.length : Int) ((i + 1 : Nat) : Int)) (Vb l) := hnext
          have stop : ∀ q : Nat, l.length ≤ q → Ev (fun k => spec_l13Ok.l2 k l (l.length : Int) (i : Int) (q : Int) (X l i) (Y l i) (X l (nx l i 1)) (Y l (nx l i 1))) (Vb l) := by
            intro q hq
            refine ev_step (fun k => ?_) fin
            simp only [spec_l13Ok.l2]
            rw [if_neg (by omega), succ_cast i (by omega)]
          by_cases h2 : i + 2 ≤ l.length
          · refine loop_up' (fun k q => spec_l13Ok.l2 k l (l.length : Int) (i : Int) (q : Int) (X l i) (Y l i) (X l (nx l i 1)) (Y l (nx l i 1))) l.length (Vb l) (fun q => i + 2 ≤ q) (fun q hq hIq => ?_) (fun _ => stop _ (by omega)) _ (i + 2) rfl h2 (by omega)
            refine .inl ⟨by omega, fun hn2 => ?_⟩
            have hn3 : Ev (fun k => spec_l13Ok.l2 k l (l.length : Int) (i : Int) ((q + 1 : Nat) : Int) (X l i) (Y l i) (X l (nx l i 1)) (Y l (nx l i 1))) (Vb l) := hn2
            have e3 : Int.tmod (wrap64 ((q : Int) + 1)) (l.length : Int) = ((nx l q 1 : Nat) : Int) := succ_mod q l.length (by omega) 1 (by omega)
            have hl3 := nx_lt l q 1 (by omega)
            have bq := hb q hq
            have bq1 := hb _ hl3
            have meet : (0 < i ∨ q < l.length - 1) → Ev (fun k => (spec_l13Meet.f k (X l i) (Y l i) (X l (nx l i 1)) (Y l (nx l i 1)) (X l q) (Y l q) (X l (nx l q 1)) (Y l (nx l q 1))).bind fun t => (if t = true then (some false) else (spec_l13Ok.l2 k l (l.length : Int) (i : Int) ((q + 1 : Nat) : Int) (X l i) (Y l i) (X l (nx l i 1)) (Y l (nx l i 1))))) (Vb l) := by
              intro hcond
              have hm := specMeet b0.1 b0.2 b1.1 b1.2 bq.1 bq.2 bq1.1 bq1.2
              have hf : mt (X l i) (Y l i) (X l (nx l i 1)) (Y l (nx l i 1)) (X l q) (Y l q) (X l (nx l q 1)) (Y l (nx l q 1)) = false := hall q hIq hq hcond
              rw [hf] at hm
              exact ev_bind hm (ev_if_neg (by simp) hn3)
            by_cases hi0 : 0 < i
            · refine ev_step (fun k => ?_) (meet (.inl hi0))
              simp only [spec_l13Ok.l2]
              rw [e3, if_pos (by omega), if_pos (by omega), if_pos (by omega), if_pos (by omega), if_neg (by omega), if_pos (by omega), if_pos (by omega), succ_cast q (by omega)]
              simp only [rdX, rdY]
            · by_cases hq1 : q < l.length - 1
              · refine ev_step (fun k => ?_) (meet (.inr hq1))
                simp only [spec_l13Ok.l2]
                rw [e3, if_pos (by omega), if_neg (by omega), wrap_in (x := (l.length : Int) - 1) (by omega) (by omega), if_pos (by omega), if_pos (by omega), if_pos (by omega), if_neg (by omega), if_pos (by omega), if_pos (by omega), succ_cast q (by omega)]
                simp only [rdX, rdY]
              · refine ev_step (fun k => ?_) hn3
                simp only [spec_l13Ok.l2]
                rw [if_pos (by omega), if_neg (by omega), wrap_in (x := (l.length : Int) - 1) (by omega) (by omega), if_neg (by omega), succ_cast q (by omega)]
          · exact stop (i + 2) (by omega)
      · -- some edge is met
        have hV : Vb l = false := Vb_false (fun hV => hall (fun q h1 h2 h3 => hV.2.2.2.1 i q h1 h2 h3))
        refine .inr ?_
        refine ev_step (fun k => by show spec_l13Ok.l1 (k + 1) _ _ _ = _; rw [one, if_neg hc]) ?_
        have h2 : i + 2 ≤ l.length := by
          rcases Nat.lt_or_ge l.length (i + 2) with h | h
          · exact absurd (fun q h1 h2 _ => by omega) hall
          · exact h
        refine loop_up' (fun k q => spec_l13Ok.l2 k l (l.length : Int) (i : Int) (q : Int) (X l i) (Y l i) (X l (nx l i 1)) (Y l (nx l i 1))) l.length (Vb l) (fun q => i + 2 ≤ q ∧ ∀ p, i + 2 ≤ p → p < q → (0 < i ∨ p < l.length - 1) → mtl l i p = false) (fun q hq hIq => ?_) (fun hIn => absurd (fun q h1 h2 h3 => hIn.2 q h1 h2 h3) hall) _ (i + 2) rfl h2 ⟨by omega, fun p _ _ => by omega⟩
        have e3 : Int.tmod (wrap64 ((q : Int) + 1)) (l.length : Int) = ((nx l q 1 : Nat) : Int) := succ_mod q l.length (by omega) 1 (by omega)
        have hl3 := nx_lt l q 1 (by omega)
        have bq := hb q hq
        have bq1 := hb _ hl3
        have hm := specMeet b0.1 b0.2 b1.1 b1.2 bq.1 bq.2 bq1.1 bq1.2
        have hinc : (∀ hcond : (0 < i ∨ q < l.length - 1), mtl l i q = false) → (i + 2 ≤ q + 1 ∧ ∀ p, i + 2 ≤ p → p < q + 1 → (0 < i ∨ p < l.length - 1) → mtl l i p = false) := fun h => ⟨by omega, fun p h1 h2 h3 => by
          by_cases hpq : p = q
          · subst hpq; exact h h3
          · exact hIq.2 p h1 (by omega) h3⟩
        have form : (0 < i ∨ q < l.length - 1) → ∀ k, spec_l13Ok.l2 (k + 1) l (l.length : Int) (i : Int) (q : Int) (X l i) (Y l i) (X l (nx l i 1)) (Y l (nx l i 1)) = (spec_l13Meet.f k (X l i) (Y l i) (X l (nx l i 1)) (Y l (nx l i 1)) (X l q) (Y l q) (X l (nx l q 1)) (Y l (nx l q 1))).bind fun t => (if t = true then (some false) else (spec_l13Ok.l2 k l (l.length : Int) (i : Int) ((q + 1 : Nat) : Int) (X l i) (Y l i) (X l (nx l i 1)) (Y l (nx l i 1)))) := by
          intro hcond k
          by_cases hi0 : 0 < i
          · simp only [spec_l13Ok.l2]
            rw [e3, if_pos (by omega), if_pos (by omega), if_pos (by omega), if_pos (by omega), if_neg (by omega), if_pos (by omega), if_pos (by omega), succ_cast q (by omega)]
            simp only [rdX, rdY]
          · have hq1 : q < l.length - 1 := by omega
            simp only [spec_l13Ok.l2]
            rw [e3, if_pos (by omega), if_neg (by omega), wrap_in (x := (l.length : Int) - 1) (by omega) (by omega), if_pos (by omega), if_pos (by omega), if_pos (by omega), if_neg (by omega), if_pos (by omega), if_pos (by omega), succ_cast q (by omega)]
            simp only [rdX, rdY]
        by_cases hcond : 0 < i ∨ q < l.length - 1
        · cases hmv : mtl l i q with
          | true =>
            refine .inr (ev_eq (ev_step (fun k => form hcond k) (ev_bind hm ?_)) hV.symm)
            have : mt (X l i) (Y l i) (X l (nx l i 1)) (Y l (nx l i 1)) (X l q) (Y l q) (X l (nx l q 1)) (Y l (nx l q 1)) = true := hmv
            exact ev_if_pos this (ev_now fun _ => rfl)
          | false =>
            refine .inl ⟨hinc (fun _ => hmv), fun hn2 => ev_step (fun k => form hcond k) (ev_bind hm ?_)⟩
            have : ¬ mt (X l i) (Y l i) (X l (nx l i 1)) (Y l (nx l i 1)) (X l q) (Y l q) (X l (nx l q 1)) (Y l (nx l q 1)) = true := by
              have h5 : mt (X l i) (Y l i) (X l (nx l i 1)) (Y l (nx l i 1)) (X l q) (Y l q) (X l (nx l q 1)) (Y l (nx l q 1)) = false := hmv
              rw [h5]; simp
            exact ev_if_neg this hn2
        · refine .inl ⟨hinc (fun h => absurd h hcond), fun hn2 => ev_step (fun k => ?_) hn2⟩
          show spec_l13Ok.l2 (k + 1) l (l.length : Int) (i : Int) (q : Int) _ _ _ _ = _
          simp only [spec_l13Ok.l2]
          rw [if_pos (by omega), if_neg (by omega), wrap_in (x := (l.length : Int) - 1) (by omega) (by omega), if_neg (by omega), succ_cast q (by omega)]
  · refine ev_step (f := fun k => (spec_l13Twice.f k l).bind fun t154 => some (decide (t154 > 0))) (fun k => ?_) (ev_eq (ev_bind (specTwice l (by omega)) (ev_now fun _ => rfl)) ?_)
    · show spec_l13Ok.l1 (k + 1) _ _ _ = _
      simp only [spec_l13Ok.l1]
      rw [if_neg (by omega)]
    · have hall : V l ↔ 0 < tw l := ⟨fun h => h.2.2.2.2, fun h => ⟨h8, hb, fun i hi => (hI i hi).1, fun i k h1 h2 h3 => (hI i (by omega)).2 k h1 h2 h3, h⟩⟩
      by_cases h : 0 < tw l
      · rw [Vb_true (hall.2 h)]; exact decide_eq_true h
      · rw [Vb_false (fun hv => h (hall.1 hv))]; exact decide_eq_false h
theorem specV (l : List S35) (hn : l.length < 9223372036854775000) : Ev (fun k => spec_l13Ok.f k l) (Vb l) := by
  unfold spec_l13Ok.f
  rw [specIn]
  by_cases h8 : (3 : Int) ≤ (l.length : Int) ∧ (l.length : Int) ≤ 8
  · simp only [h8, and_self, decide_true, Option.bind_some, if_true]
    refine loop_up (fun k i => spec_l13Ok.l0 k l (l.length : Int) (i : Int)) l.length (Vb l) (fun i => ∀ j, j < i → inb (X l j) ∧ inb (Y l j)) (fun i hi hI => ?_) (fun hI => ?_) _ 0 rfl (by omega) (fun j hj => by omega)
    · by_cases h : inb (X l i) ∧ inb (Y l i)
      · refine .inl ⟨fun k => ?_, fun j hj => ?_⟩
        · show spec_l13Ok.l0 (k + 1) _ _ _ = spec_l13Ok.l0 k _ _ _
          have h1 := h.1
          have h2 := h.2
          unfold inb at h1 h2
          simp only [spec_l13Ok.l0, rdX, rdY, specIn]
          rw [if_pos (by omega), if_pos (by omega), if_pos (by omega), succ_cast i (by omega)]
          simp only [h1, h2, and_self, decide_true, Option.bind_some, if_true]
        · by_cases hji : j = i
          · subst hji; exact h
          · exact hI j (by omega)
      · refine .inr (ev_eq (ev_end (fun k => ?_)) (Vb_false (fun hV => h (hV.2.1 i hi))).symm)
        show spec_l13Ok.l0 (k + 1) _ _ _ = _
        simp only [spec_l13Ok.l0, rdX, rdY, specIn]
        rw [if_pos (by omega), if_pos (by omega), if_pos (by omega)]
        by_cases h1 : 0 ≤ X l i ∧ X l i ≤ 2000
        · have h2 : ¬ (0 ≤ Y l i ∧ Y l i ≤ 2000) := fun h2 => h ⟨h1, h2⟩
          simp only [h1, h2, and_self, decide_true, decide_false, Option.bind_some, if_true, if_false, Bool.false_eq_true]
        · simp only [h1, decide_false, Option.bind_some, if_false, Bool.false_eq_true]
    · refine ev_step (fun k => ?_) (specV1 l (by omega) (fun i hi => hI i hi))
      show spec_l13Ok.l0 (k + 1) _ _ _ = _
      simp only [spec_l13Ok.l0]
      rw [if_neg (by omega)]
  · simp only [h8, decide_false, Option.bind_some, if_false, Bool.false_eq_true]
    exact ev_eq (ev_now fun _ => rfl) (Vb_false (fun hV => h8 (by have := hV.1; omega))).symm

theorem implV2 (l : List S35) (h8 : 3 ≤ l.length ∧ l.length ≤ 8) (hb : inbox l) (hcr : ∀ i, i < l.length → cr l i ≠ 0) : Ev (fun k => impl_ValidSail.l2 k l (l.length : Int) (l.length : Int) 0) (Vb l) := by
  refine loop_up' (fun k i => impl_ValidSail.l2 k l (l.length : Int) (l.length : Int) (i : Int)) l.length (Vb l) (fun i => ∀ j, j < i → ∀ q, j + 2 ≤ q → q < l.length → (0 < j ∨ q < l.length - 1) → mtl l j q = false) (fun i hi hI => ?_) (fun hI => ?_) _ 0 rfl (by omega) (fun j hj => by omega)
  · have w2 : wrap64 ((i : Int) + 2) = ((i + 2 : Nat) : Int) := by rw [wrap_in (by omega) (by omega)]; omega
    have w1 : wrap64 ((i : Int) + 1) = ((i + 1 : Nat) : Int) := succ_cast i (by omega)
    have hl1 := nx_lt l i 1 (by omega)
    have b0 := hb i hi
    have b1 := hb _ hl1
    have one : ∀ k, impl_ValidSail.l2 (k + 1) l (l.length : Int) (l.length : Int) (i : Int) = impl_ValidSail.l3 k l (l.length : Int) (i : Int) ((i + 2 : Nat) : Int) (l.length : Int) (i : Int) := by
      intro k
      simp only [impl_ValidSail.l2]
      rw [w2, if_pos (by omega)]
    have skip : ∀ q : Nat, i + 2 ≤ q → q < l.length → ¬ (0 < i ∨ q < l.length - 1) → ∀ k, impl_ValidSail.l3 (k + 1) l (l.length : Int) (i : Int) (q : Int) (l.length : Int) (i : Int) = impl_ValidSail.l3 k l (l.length : Int) (i : Int) ((q + 1 : Nat) : Int) (l.length : Int) (i : Int) := by
      intro q hq1 hq hc k
      have e3 : Int.tmod (wrap64 ((q : Int) + 1)) (l.length : Int) = ((nx l q 1 : Nat) : Int) := succ_mod q l.length (by omega) 1 (by omega)
      have h0 : nx l q 1 = i := by
        have : q + 1 = l.length := by omega
        unfold nx
        rw [this, Nat.mod_self]; omega
      simp only [impl_ValidSail.l3]
      rw [e3, if_pos (by omega), if_neg (by omega), if_pos (by omega), succ_cast q (by omega)]
    have form : ∀ q : Nat, i + 2 ≤ q → q < l.length → (0 < i ∨ q < l.length - 1) → ∀ k, impl_ValidSail.l3 (k + 1) l (l.length : Int) (i : Int) (q : Int) (l.length : Int) (i : Int) =
        (impl_edgesMeet.f k (X l i) (Y l i) (X l (nx l i 1)) (Y l (nx l i 1)) (X l q) (Y l q) (X l (nx l q 1)) (Y l (nx l q 1))).bind fun t => (if t = true then (some false) else (impl_ValidSail.l3 k l (l.length : Int) (i : Int) ((q + 1 : Nat) : Int) (l.length : Int) (i : Int))) := by
      intro q hq1 hq hc k
      have e3 : Int.tmod (wrap64 ((q : Int) + 1)) (l.length : Int) = ((nx l q 1 : Nat) : Int) := succ_mod q l.length (by omega) 1 (by omega)
      have hl3 := nx_lt l q 1 (by omega)
      have h0 : nx l q 1 ≠ i := by
        unfold nx
        by_cases hq2 : q + 1 < l.length
        · rw [Nat.mod_eq_of_lt hq2]; omega
        · have : q + 1 = l.length := by omega
          rw [this, Nat.mod_self]; omega
      have h1 : nx l i 1 = i + 1 := Nat.mod_eq_of_lt (by omega)
      simp only [impl_ValidSail.l3]
      rw [e3, w1, if_pos (by omega), if_neg (by omega), if_neg (by omega), if_pos (by omega), if_pos (by omega), if_pos (by omega), if_pos (by omega), if_pos (by omega), if_pos (by omega), if_pos (by omega), if_pos (by omega), succ_cast q (by omega)]
      simp only [rdX, rdY]
      rw [h1]
    by_cases hall : ∀ q, i + 2 ≤ q → q < l.length → (0 < i ∨ q < l.length - 1) → mtl l i q = false
    · refine .inl ⟨fun j hj => ?_, fun hnext => ?_⟩
      · by_cases hji : j = i
        · subst hji; exact hall
        · exact hI j (by omega)
      · refine ev_step one ?_
        have fin : Ev (fun k => impl_ValidSail.l2 k l (l.length : Int) (l.length : Int) ((i + 1 : Nat) : Int)) (Vb l) := hnext
        have stop : ∀ q : Nat, l.length ≤ q → Ev (fun k => impl_ValidSail.l3 k l (l.length : Int) (i : Int) (q : Int) (l.length : Int) (i : Int)) (Vb l) := by
          intro q hq
          refine ev_step (fun k => ?_) fin
          simp only [impl_ValidSail.l3]
          rw [if_neg (by omega), w1]
        by_cases h2 : i + 2 ≤ l.length
        · refine loop_up' (fun k q => impl_ValidSail.l3 k l (l.length : Int) (i : Int) (q : Int) (l.length : Int) (i : Int)) l.length (Vb l) (fun q => i + 2 ≤ q) (fun q hq hIq => ?_) (fun _ => stop _ (by omega)) _ (i + 2) rfl h2 (by omega)
          refine .inl ⟨by omega, fun hn2 => ?_⟩
          have bq := hb q hq
          have bq1 := hb _ (nx_lt l q 1 (by omega))
          by_cases hcond : 0 < i ∨ q < l.length - 1
          · have hm := implMeet b0.1 b0.2 b1.1 b1.2 bq.1 bq.2 bq1.1 bq1.2
            have hf : mt (X l i) (Y l i) (X l (nx l i 1)) (Y l (nx l i 1)) (X l q) (Y l q) (X l (nx l q 1)) (Y l (nx l q 1)) = false := hall q hIq hq hcond
            rw [hf] at hm
            exact ev_step (form q hIq hq hcond) (ev_bind hm (ev_if_neg (by simp) hn2))
          · exact ev_step (skip q hIq hq hcond) hn2
        · exact stop (i + 2) (by omega)
    · have hV : Vb l = false := Vb_false (fun hV => hall (fun q h1 h2 h3 => hV.2.2.2.1 i q h1 h2 h3))
      refine .inr (ev_step one ?_)
      have h2 : i + 2 ≤ l.length := by
        rcases Nat.lt_or_ge l.length (i + 2) with h | h
        · exact absurd (fun q h1 h2 _ => by omega) hall
        · exact h
      refine loop_up' (fun k q => impl_ValidSail.l3 k l (l.length : Int) (i : Int) (q : Int) (l.length : Int) (i : Int)) l.length (Vb l) (fun q => i + 2 ≤ q ∧ ∀ p, i + 2 ≤ p → p < q → (0 < i ∨ p < l.length - 1) → mtl l i p = false) (fun q hq hIq => ?_) (fun hIn => absurd (fun q h1 h2 h3 => hIn.2 q h1 h2 h3) hall) _ (i + 2) rfl h2 ⟨by omega, fun p _ _ => by omega⟩
      have bq := hb q hq
      have bq1 := hb _ (nx_lt l q 1 (by omega))
      have hm := implMeet b0.1 b0.2 b1.1 b1.2 bq.1 bq.2 bq1.1 bq1.2
      have hinc : (∀ hcond : (0 < i ∨ q < l.length - 1), mtl l i q = false) → (i + 2 ≤ q + 1 ∧ ∀ p, i + 2 ≤ p → p < q + 1 → (0 < i ∨ p < l.length - 1) → mtl l i p = false) := fun h => ⟨by omega, fun p h1 h2 h3 => by
        by_cases hpq : p = q
        · subst hpq; exact h h3
        · exact hIq.2 p h1 (by omega) h3⟩
      by_cases hcond : 0 < i ∨ q < l.length - 1
      · cases hmv : mtl l i q with
        | true =>
          refine .inr (ev_eq (ev_step (form q hIq.1 hq hcond) (ev_bind hm ?_)) hV.symm)
          have : mt (X l i) (Y l i) (X l (nx l i 1)) (Y l (nx l i 1)) (X l q) (Y l q) (X l (nx l q 1)) (Y l (nx l q 1)) = true := hmv
          exact ev_if_pos this (ev_now fun _ => rfl)
        | false =>
          refine .inl ⟨hinc (fun _ => hmv), fun hn2 => ev_step (form q hIq.1 hq hcond) (ev_bind hm ?_)⟩
          have : ¬ mt (X l i) (Y l i) (X l (nx l i 1)) (Y l (nx l i 1)) (X l q) (Y l q) (X l (nx l q 1)) (Y l (nx l q 1)) = true := by
            have h5 : mt (X l i) (Y l i) (X l (nx l i 1)) (Y l (nx l i 1)) (X l q) (Y l q) (X l (nx l q 1)) (Y l (nx l q 1)) = false := hmv
            rw [h5]; simp
          exact ev_if_neg this hn2
      · exact .inl ⟨hinc (fun h => absurd h hcond), fun hn2 => ev_step (skip q hIq.1 hq hcond) hn2⟩
  · refine ev_step (f := fun k => (impl_twiceSail.f k l).bind fun t => some (decide (t > 0))) (fun k => ?_) (ev_eq (ev_bind (implTwice l (by omega)) (ev_now fun _ => rfl)) ?_)
    · show impl_ValidSail.l2 (k + 1) _ _ _ _ = _
      simp only [impl_ValidSail.l2]
      rw [if_neg (by omega)]
    · have hall : V l ↔ 0 < tw l := ⟨fun h => h.2.2.2.2, fun h => ⟨h8, hb, hcr, fun i k h1 h2 h3 => hI i (by omega) k h1 h2 h3, h⟩⟩
      by_cases h : 0 < tw l
      · rw [Vb_true (hall.2 h)]; exact decide_eq_true h
      · rw [Vb_false (fun hv => h (hall.1 hv))]; exact decide_eq_false h
theorem implV (l : List S35) (hn : l.length < 9223372036854775000) : Ev (fun k => impl_ValidSail.f k l) (Vb l) := by
  unfold impl_ValidSail.f
  by_cases h3 : (l.length : Int) < 3
  · exact ev_if_pos h3 (ev_eq (ev_end fun k => by simp only [impl_ValidSail.j0, if_true]) (Vb_false (fun hV => by have := hV.1; omega)).symm)
  · refine ev_if_neg h3 ?_
    by_cases h8 : (l.length : Int) > 8
    · simp only [h8, decide_true]
      exact ev_eq (ev_end fun k => by simp only [impl_ValidSail.j0, if_true]) (Vb_false (fun hV => by have := hV.1; omega)).symm
    · simp only [h8, decide_false]
      refine ev_step (f := fun k => impl_ValidSail.l0 k l (l.length : Int) l (l.length : Int) 0) (fun k => by simp only [impl_ValidSail.j0, if_false, Bool.false_eq_true]) ?_
      refine loop_up (fun k i => impl_ValidSail.l0 k l (l.length : Int) l (l.length : Int) (i : Int)) l.length (Vb l) (fun i => ∀ j, j < i → inb (X l j) ∧ inb (Y l j)) (fun i hi hI => ?_) (fun hI => ?_) _ 0 rfl (by omega) (fun j hj => by omega)
      · by_cases h : inb (X l i) ∧ inb (Y l i)
        · refine .inl ⟨fun k => ?_, fun j hj => ?_⟩
          · show impl_ValidSail.l0 (k + 1) _ _ _ _ _ = impl_ValidSail.l0 k _ _ _ _ _
            have h1 := h.1
            have h2 := h.2
            unfold inb at h1 h2
            simp only [impl_ValidSail.l0, rdX, rdY, implIn]
            rw [if_pos (by omega), if_pos (by omega), if_pos (by omega), succ_cast i (by omega)]
            simp only [h1, h2, and_self, decide_true, Option.bind_some, if_true]
          · by_cases hji : j = i
            · subst hji; exact h
            · exact hI j (by omega)
        · refine .inr (ev_eq (ev_end (fun k => ?_)) (Vb_false (fun hV => h (hV.2.1 i hi))).symm)
          show impl_ValidSail.l0 (k + 1) _ _ _ _ _ = _
          simp only [impl_ValidSail.l0, rdX, rdY, implIn]
          rw [if_pos (by omega), if_pos (by omega), if_pos (by omega)]
          by_cases h1 : 0 ≤ X l i ∧ X l i ≤ 2000
          · have h2 : ¬ (0 ≤ Y l i ∧ Y l i ≤ 2000) := fun h2 => h ⟨h1, h2⟩
            simp only [h1, h2, and_self, decide_true, decide_false, Option.bind_some, if_true, if_false, Bool.false_eq_true]
          · simp only [h1, decide_false, Option.bind_some, if_false, Bool.false_eq_true]
      · have hb : inbox l := fun i hi => hI i hi
        refine ev_step (f := fun k => impl_ValidSail.l1 k l (l.length : Int) (l.length : Int) 0) (fun k => ?_) ?_
        · show impl_ValidSail.l0 (k + 1) _ _ _ _ _ = _
          simp only [impl_ValidSail.l0]
          rw [if_neg (by omega)]
        · refine loop_up (fun k i => impl_ValidSail.l1 k l (l.length : Int) (l.length : Int) (i : Int)) l.length (Vb l) (fun i => ∀ j, j < i → cr l j ≠ 0) (fun i hi hI => ?_) (fun hI => ?_) _ 0 rfl (by omega) (fun j hj => by omega)
          · have e1 : Int.tmod (wrap64 ((i : Int) + 1)) (l.length : Int) = ((nx l i 1 : Nat) : Int) := succ_mod i l.length (by omega) 1 (by omega)
            have e2 : Int.tmod (wrap64 ((i : Int) + 2)) (l.length : Int) = ((nx l i 2 : Nat) : Int) := succ_mod i l.length (by omega) 2 (by omega)
            have hl1 := nx_lt l i 1 (by omega)
            have hl2 := nx_lt l i 2 (by omega)
            have b0 := hb i hi
            have b1 := hb _ hl1
            have b2 := hb _ hl2
            have one : ∀ k, impl_ValidSail.l1 (k + 1) l (l.length : Int) (l.length : Int) (i : Int) = if cr l i = 0 then some false else impl_ValidSail.l1 k l (l.length : Int) (l.length : Int) ((i + 1 : Nat) : Int) := by
              intro k
              simp only [impl_ValidSail.l1]
              rw [e1, e2, if_pos (by omega), if_pos (by omega), if_pos (by omega), if_neg (by omega), if_pos (by omega), if_pos (by omega), if_pos (by omega), if_pos (by omega), succ_cast i (by omega)]
              simp only [rdX, rdY]
              rw [implTurn b0.1 b0.2 b1.1 b1.2 b2.1 b2.2]
              rfl
            by_cases hc : cr l i = 0
            · exact .inr (ev_eq (ev_end (fun k => by show impl_ValidSail.l1 (k + 1) _ _ _ _ = _; rw [one, if_pos hc])) (Vb_false (fun hV => hV.2.2.1 i hi hc)).symm)
            · refine .inl ⟨fun k => by show impl_ValidSail.l1 (k + 1) _ _ _ _ = _; rw [one, if_neg hc], fun j hj => ?_⟩
              by_cases hji : j = i
              · subst hji; exact hc
              · exact hI j (by omega)
          · refine ev_step (fun k => ?_) (implV2 l (by omega) hb (fun i hi => hI i hi))
            show impl_ValidSail.l1 (k + 1) _ _ _ _ = _
            simp only [impl_ValidSail.l1]
            rw [if_neg (by omega)]
/-! ### spots compared -/
theorem eqSpot (a b c d : Int) : laws_eqSpot.f a b c d = some (decide (a = c ∧ b = d)) := by
  unfold laws_eqSpot.f
  by_cases h1 : a = c <;> by_cases h2 : b = d <;> simp [h1, h2]
theorem eqSpots (l : List S35) (h : l.length ≤ 1048576) : Ev (fun k => laws_eqSpotS.f k l l) true := by
  unfold laws_eqSpotS.f
  refine ev_if_pos rfl ?_
  refine eq_loop z35 (fun x => laws_eqSpot.f x.f0 x.f1 x.f0 x.f1) (fun k x5 => laws_eqSpotS.l0 k l l x5) l (by omega) (fun x => by simp [eqSpot]) (fun _ _ => rfl)
/-! ### marks -/
def mk2 (i : Nat) : S35 := ⟨1 + 2 * (i : Int), 2 + 2 * (i : Int)⟩
def mks (n : Nat) : List S35 := (List.range n).map mk2
theorem mks_len (n : Nat) : (mks n).length = n := by simp [mks]
theorem set_at {α : Type} (a b : List α) (y x : α) (i : Nat) (h : a.length = i) : (a ++ y :: b).set i x = a ++ x :: b := by
  subst h
  rw [List.set_append_right _ _ (Nat.le_refl _)]
  simp
theorem marks (l : List S35) (h : l.length ≤ 1048576) : Ev (fun k => laws_markSpotS.f k l 1) (1 + 2 * (l.length : Int), mks l.length) := by
  unfold laws_markSpotS.f
  have key := loop_all (fun k i => laws_markSpotS.l0 k (mks i ++ l.drop i) (1 + 2 * (i : Int)) (i : Int)) l.length (1 + 2 * (l.length : Int), mks l.length) (fun i hi k => ?_) (ev_end fun k => ?_)
  · simpa [mks] using key
  · show laws_markSpotS.l0 (k + 1) _ _ _ = laws_markSpotS.l0 k _ _ _
    have hlen : (mks i ++ l.drop i).length = l.length := by simp [mks_len]; omega
    simp only [laws_markSpotS.l0]
    rw [hlen, if_pos (by omega), if_pos (by omega)]
    have e : l.drop i = l[i] :: l.drop (i + 1) := List.drop_eq_getElem_cons hi
    simp only [Option.bind_some, Int.toNat_natCast]
    rw [e, set_at _ _ _ _ _ (mks_len i), set_at _ _ _ _ _ (mks_len i)]
    have e2 : (rd_T35 (mks i ++ (⟨1 + 2 * (i : Int), (rd_T35 (mks i ++ l[i] :: l.drop (i + 1)) (i : Int)).f1⟩ : S35) :: l.drop (i + 1)) (i : Int)).f0 = 1 + 2 * (i : Int) := by
      unfold rd_T35
      rw [getD_nat, List.getD_eq_getElem?_getD, List.getElem?_append_right (by rw [mks_len]; omega)]
      simp [mks_len]
    rw [e2, wrap_in (x := 1 + 2 * (i : Int) + 1) (by omega) (by omega), wrap_in (x := 1 + 2 * (i : Int) + 1 + 1) (by omega) (by omega), succ_cast i (by omega)]
    have e3 : mks (i + 1) = mks i ++ [mk2 i] := by simp [mks, List.range_succ]
    have e4 : 1 + 2 * (i : Int) + 1 + 1 = 1 + 2 * ((i + 1 : Nat) : Int) := by omega
    have e5 : (⟨1 + 2 * (i : Int), 1 + 2 * (i : Int) + 1⟩ : S35) = mk2 i := by unfold mk2; congr 1; omega
    rw [e3, List.append_assoc, e4, e5]
    rfl
  · show laws_markSpotS.l0 (k + 1) _ _ _ = _
    simp only [laws_markSpotS.l0]
    have hlen : (mks l.length ++ l.drop l.length).length = l.length := by simp [mks_len]
    rw [hlen, if_neg (by omega)]
    simp
theorem held (n : Nat) (h : n ≤ 1048576) : Ev (fun k => laws_heldSpotS.f k (mks n) 1) (1 + 2 * (n : Int)) := by
  unfold laws_heldSpotS.f
  have key := loop_all (fun k i => laws_heldSpotS.l0 k (mks n) (1 + 2 * (i : Int)) (i : Int)) n (1 + 2 * (n : Int)) (fun i hi k => ?_) (ev_end fun k => ?_)
  · simpa using key
  · show laws_heldSpotS.l0 (k + 1) _ _ _ = laws_heldSpotS.l0 k _ _ _
    have e : rd_T35 (mks n) (i : Int) = mk2 i := by
      unfold rd_T35
      rw [getD_nat, List.getD_eq_getElem?_getD, List.getElem?_eq_getElem (by rw [mks_len]; omega)]
      simp [mks]
    simp only [laws_heldSpotS.l0, e]
    rw [mks_len, if_pos (by omega), if_pos (by omega), if_pos (by rfl), wrap_in (x := 1 + 2 * (i : Int) + 1) (by omega) (by omega), wrap_in (x := 1 + 2 * (i : Int) + 1 + 1) (by omega) (by omega), succ_cast i (by omega)]
    have e4 : 1 + 2 * (i : Int) + 1 + 1 = 1 + 2 * ((i + 1 : Nat) : Int) := by omega
    rw [if_pos (by simp [mk2]; omega), e4]
  · show laws_heldSpotS.l0 (k + 1) _ _ _ = _
    simp only [laws_heldSpotS.l0]
    rw [mks_len, if_neg (by omega)]
/-! ### the parts of a text between bytes -/
def bs (l : List UInt8) : ByteArray := ⟨l.toArray⟩
theorem bs_size (l : List UInt8) : (bs l).size = l.length := by simp [bs, ByteArray.size]
theorem bs_app (a b : List UInt8) : bs a ++ bs b = bs (a ++ b) := by
  apply ByteArray.ext
  rw [ByteArray.data_append]
  simp [bs]
theorem bs_list (l : List UInt8) : (bs l).data.toList = l := by simp [bs]
theorem bs_of (b : ByteArray) : bs b.data.toList = b := by
  apply ByteArray.ext
  simp [bs]
theorem bs_inj {a b : List UInt8} (h : bs a = bs b) : a = b := by rw [← bs_list a, ← bs_list b, h]
theorem bs_tl (l : List UInt8) : (bs l).toList = l := by rw [Lib.toList_data, bs_list]
theorem bs_cut (l : List UInt8) (a b : Nat) : (bs l).extract a b = bs ((l.take b).drop a) := by
  apply ByteArray.ext
  apply Array.toList_inj.1
  rw [Lib.extract_data, bs_list, bs_list, List.drop_take]
theorem bs_bt (l : List UInt8) (i : Nat) (h : i < l.length) : bt (bs l) (i : Int) = ((l[i]'h).toNat : Int) := by
  have h1 : (i : Int).toNat < (bs l).size := by rw [bs_size]; omega
  rw [← bt_at (bs l) (i : Int) h1]
  rfl
def spA (c : UInt8) : List UInt8 → List UInt8 → List (List UInt8)
  | acc, [] => [acc]
  | acc, b :: l => if b = c then acc :: spA c [] l else spA c (acc ++ [b]) l
theorem spA_ne (c : UInt8) : ∀ (l acc : List UInt8), spA c acc l ≠ []
  | [], acc => by simp [spA]
  | b :: l, acc => by
    unfold spA
    split
    · simp
    · exact spA_ne c l _
theorem spA_acc (c : UInt8) : ∀ (l acc : List UInt8), spA c acc l = (acc ++ (spA c [] l).headD []) :: (spA c [] l).tail
  | [], acc => by simp [spA]
  | b :: l, acc => by
    unfold spA
    split
    · simp
    · rw [spA_acc c l (acc ++ [b]), spA_acc c l ([] ++ [b])]
      simp
theorem spA_len (c : UInt8) : ∀ (l acc : List UInt8), (spA c acc l).length ≤ l.length + 1
  | [], acc => by simp [spA]
  | b :: l, acc => by
    unfold spA
    split
    · have := spA_len c l []
      simp only [List.length_cons]; omega
    · have := spA_len c l (acc ++ [b])
      simp only [List.length_cons]; omega
theorem spA_mem (c : UInt8) : ∀ (l acc w : List UInt8), w ∈ spA c acc l → w.length ≤ acc.length + l.length
  | [], acc, w => by
    intro h
    simp only [spA, List.mem_singleton] at h
    subst h
    simp
  | b :: l, acc, w => by
    intro h
    unfold spA at h
    split at h
    · rcases List.mem_cons.1 h with h | h
      · subst h; omega
      · have := spA_mem c l [] w h
        simp only [List.length_cons, List.length_nil] at *; omega
    · have := spA_mem c l _ w h
      simp only [List.length_cons, List.length_append, List.length_nil] at *; omega
theorem splitS (c : UInt8) (s : List UInt8) (hs : s.length ≤ 1048576) : Ev (fun k => spec_l01Split.f k (bs s) (c.toNat : Int)) ((spA c [] s).map bs) := by
  unfold spec_l01Split.f
  have key : ∀ (m i fr : Nat) (xs : List (List UInt8)), s.length - i = m → i ≤ s.length → fr ≤ i → xs.length ≤ i → Ev (fun k => spec_l01Split.l0 k (bs s) (c.toNat : Int) (xs.map bs) (fr : Int) (i : Int)) ((xs ++ spA c ((s.take i).drop fr) (s.drop i)).map bs) := by
    intro m
    induction m with
    | zero =>
      intro i fr xs h1 h2 h3 h4
      obtain rfl : i = s.length := by omega
      refine ev_end fun k => ?_
      simp only [spec_l01Split.l0]
      rw [bs_size, if_neg (by omega), if_pos (by omega), if_pos (by omega), if_pos (by rw [List.length_map]; omega)]
      rw [show ((fr : Int)).toNat = fr from by omega, bs_cut]
      simp [spA]
    | succ m ih =>
      intro i fr xs h1 h2 h3 h4
      have hi : i < s.length := by omega
      have hb := bs_bt s i hi
      have hd : s.drop i = s[i] :: s.drop (i + 1) := List.drop_eq_getElem_cons hi
      by_cases e : s[i] = c
      · have hrec := ih (i + 1) (i + 1) (xs ++ [(s.take i).drop fr]) (by omega) (by omega) (by omega) (by simp; omega)
        refine ev_step (f := fun k => spec_l01Split.l0 k (bs s) (c.toNat : Int) ((xs ++ [(s.take i).drop fr]).map bs) ((i + 1 : Nat) : Int) ((i + 1 : Nat) : Int)) (fun k => ?_) ?_
        · simp only [spec_l01Split.l0]
          rw [bs_size, if_pos (by omega), if_pos (by omega), hb, e, if_pos rfl, if_pos (by omega), if_pos (by omega), if_pos (by omega), if_pos (by rw [List.length_map]; omega), succ_cast i (by omega)]
          rw [show ((fr : Int)).toNat = fr from by omega, show ((i : Int)).toNat = i from by omega, bs_cut, List.map_append]
          rfl
        · refine ev_eq hrec ?_
          congr 1
          rw [hd, spA, if_pos e, List.append_assoc, List.drop_eq_nil_of_le (i := i + 1) (by rw [List.length_take]; omega)]
          rfl
      · have hrec := ih (i + 1) fr xs (by omega) (by omega) (by omega) (by omega)
        refine ev_step (f := fun k => spec_l01Split.l0 k (bs s) (c.toNat : Int) (xs.map bs) (fr : Int) ((i + 1 : Nat) : Int)) (fun k => ?_) ?_
        · simp only [spec_l01Split.l0]
          rw [bs_size, if_pos (by omega), if_pos (by omega), hb, if_neg (fun h => e (UInt8.toNat_inj.1 (by omega))), succ_cast i (by omega)]
        · refine ev_eq hrec ?_
          congr 1
          rw [hd, spA, if_neg e]
          congr 2
          rw [List.take_succ_eq_append_getElem hi, List.drop_append_of_le_length (by rw [List.length_take]; omega)]
  have := key s.length 0 0 [] (by omega) (by omega) (by omega) (by simp)
  simpa using this
theorem index_cons (b c : UInt8) (l : List UInt8) : Lib.index (b :: l) [c] = if b = c then 0 else if Lib.index l [c] = -1 then -1 else Lib.index l [c] + 1 := by
  rw [Lib.index_one, Lib.index_one, Lib.indexByte]
  by_cases h : b = c
  · rw [if_pos h, if_pos (beq_iff_eq.2 h)]
  · rw [if_neg h, if_neg (fun e => h (beq_iff_eq.1 e))]
    by_cases h2 : Lib.indexByte l c = -1
    · rw [if_pos h2, if_pos (beq_iff_eq.2 h2)]
    · rw [if_neg h2, if_neg (fun e => h2 (beq_iff_eq.1 e))]
theorem splitK_sp (c : UInt8) : ∀ (s : List UInt8) (n : Nat), s.count c ≤ n → Lib.splitK [c] 0 n s = spA c [] s
  | [], n, _ => by
    cases n with
    | zero => rfl
    | succ n => rfl
  | b :: l, n, h => by
    by_cases e : b = c
    · subst e
      rw [List.count_cons_self] at h
      cases n with
      | zero => omega
      | succ n =>
        have ih := splitK_sp b l n (by omega)
        have hx : Lib.index (b :: l) [b] = 0 := by rw [index_cons, if_pos rfl]
        unfold Lib.splitK spA
        rw [hx, if_pos rfl, if_neg (by decide)]
        congr 1
    · rw [List.count_cons_of_ne (by simpa using e)] at h
      have ih := splitK_sp c l n h
      rw [spA, if_neg e, List.nil_append, spA_acc c l [b], ← ih]
      cases n with
      | zero => rfl
      | succ n =>
        have hx := index_cons b c l
        rw [if_neg e] at hx
        by_cases e2 : Lib.index l [c] = -1
        · rw [if_pos e2] at hx
          unfold Lib.splitK
          rw [hx, e2, if_pos (by decide), if_pos (by decide)]
          rfl
        · rw [if_neg e2] at hx
          have hge := Lib.index_ge l [c]
          obtain ⟨j, hj⟩ : ∃ j : Nat, Lib.index l [c] = j := ⟨(Lib.index l [c]).toNat, by omega⟩
          unfold Lib.splitK
          rw [hx, hj, if_neg (fun q => by have := beq_iff_eq.1 q; omega), if_neg (fun q => by have := beq_iff_eq.1 q; omega)]
          rw [show ((j : Int) + 1).toNat = j + 1 from by omega, show ((j : Int)).toNat = j from by omega]
          simp only [List.headD_cons, List.tail_cons, Nat.add_zero, List.take_succ_cons, List.singleton_append, List.length_singleton]
          rw [show j + 1 + 1 = (j + 1) + 1 from rfl, List.drop_succ_cons]
theorem splitI (c : UInt8) (s : List UInt8) (hs : s.length ≤ 1048576) : Ev (fun k => strings_Split.f k (bs s) (bs [c])) ((spA c [] s).map bs) := by
  refine ev_now fun k => ?_
  unfold strings_Split.f
  rw [bs_size, bs_size, if_pos ⟨by omega, by simp⟩]
  congr 1
  have h := Lib.splitB_data (bs [c]) 0 (Lib.countB (bs s) (bs [c])) (bs s)
  rw [bs_list, bs_list, splitK_sp c s _ (by unfold Lib.countB; rw [bs_list, bs_list, Lib.count_one]; exact Nat.le_refl _)] at h
  rw [← h, List.map_map]
  refine (List.map_id'' (fun b => ?_) _).symm
  exact bs_of b
theorem cutE (c : UInt8) : ∀ s : List UInt8, (spA c [] s = [s] ∧ Lib.cut s [c] = (s, [], false) ∧ c ∉ s) ∨ (∃ w t, spA c [] s = w :: spA c [] t ∧ Lib.cut s [c] = (w, t, true) ∧ w.length + t.length ≤ s.length)
  | [] => Or.inl ⟨rfl, rfl, by simp⟩
  | b :: l => by
    by_cases e : b = c
    · subst e
      refine Or.inr ⟨[], l, ?_, ?_, ?_⟩
      · rw [spA, if_pos rfl]
      · unfold Lib.cut
        rw [index_cons, if_pos rfl, if_pos (by decide)]
        rfl
      · simp
    · have hx := index_cons b c l
      rw [if_neg e] at hx
      have hge := Lib.index_ge l [c]
      rcases cutE c l with ⟨h1, h2, h3⟩ | ⟨w, t, h1, h2, h3⟩
      · refine Or.inl ⟨?_, ?_, ?_⟩
        · rw [spA, if_neg e, List.nil_append, spA_acc, h1]; rfl
        · have : Lib.index l [c] = -1 := by
            by_cases q : 0 ≤ Lib.index l [c]
            · unfold Lib.cut at h2
              rw [if_pos q] at h2
              simp at h2
            · omega
          unfold Lib.cut
          rw [hx, if_pos this, if_neg (by decide)]
        · intro h
          rcases List.mem_cons.1 h with h | h
          · exact e h.symm
          · exact h3 h
      · refine Or.inr ⟨b :: w, t, ?_, ?_, ?_⟩
        · rw [spA, if_neg e, List.nil_append, spA_acc, h1]; rfl
        · have q : 0 ≤ Lib.index l [c] := by
            by_cases q : 0 ≤ Lib.index l [c]
            · exact q
            · unfold Lib.cut at h2
              rw [if_neg q] at h2
              simp at h2
          obtain ⟨j, hj⟩ : ∃ j : Nat, Lib.index l [c] = j := ⟨(Lib.index l [c]).toNat, by omega⟩
          unfold Lib.cut at h2 ⊢
          rw [hj, if_pos (by omega)] at h2
          rw [hx, hj, if_neg (show ¬ (j : Int) = -1 by omega), if_pos (by omega)]
          simp only [Prod.mk.injEq] at h2 ⊢
          rw [show ((j : Int) + 1).toNat = j + 1 from by omega]
          rw [show ((j : Int)).toNat = j from by omega] at h2
          refine ⟨?_, ?_, trivial⟩
          · rw [List.take_succ_cons, h2.1]
          · rw [show j + 1 + [c].length = (j + [c].length) + 1 from by omega, List.drop_succ_cons, h2.2.1]
        · simp only [List.length_cons]; omega
theorem spA_in (c : UInt8) (t : List UInt8) (h : c ∈ t) : 2 ≤ (spA c [] t).length := by
  rcases cutE c t with ⟨_, _, h3⟩ | ⟨w, r, h1, _, _⟩
  · exact absurd h h3
  · rw [h1, List.length_cons]
    have := List.length_pos_iff.2 (spA_ne c r [])
    omega
theorem cut_in (c : UInt8) (t : List UInt8) {a b : List UInt8} (h : Lib.cut t [c] = (a, b, true)) : c ∈ t := by
  by_cases h2 : c ∈ t
  · exact h2
  · rcases cutE c t with ⟨_, h4, _⟩ | ⟨w, r, h4, _, _⟩
    · rw [h4] at h
      simp at h
    · have h5 := splitK_sp c t 0 (by rw [List.count_eq_zero.2 h2]; exact Nat.le_refl _)
      rw [h4] at h5
      have h6 := congrArg List.length h5
      have h7 := List.length_pos_iff.2 (spA_ne c r [])
      simp only [Lib.splitK, List.length_cons, List.length_nil] at h6
      omega
/-! ### numbers in decimal -/
def nums (xs : List Int) : List UInt8 := xs.map (fun n => UInt8.ofNat n.toNat)
def mns (x0 : Int) (l : List UInt8) : List UInt8 := if x0 < 0 then 45 :: l else l
theorem dec_step (x0 : Int) : ∀ (m u : Nat) (z : Int) (xs : List Int), u < 10 ^ m → 1 ≤ u → u < 1000000000000000000 → xs.length + m ≤ 100000 → (z = (u : Int) ∨ z = -(u : Int)) → Ev (fun k => spec_l01Dec.l0 k x0 xs z) (bs (mns x0 (Lib.decDigits u ++ nums xs))) := by
  intro m
  induction m with
  | zero => intro u z xs h1 h2; simp at h1; omega
  | succ m ih =>
    intro u z xs h1 h2 h3 h4 hz
    rw [Nat.pow_succ] at h1
    have e1 : Int.tmod z 10 = ((u % 10 : Nat) : Int) ∨ Int.tmod z 10 = -((u % 10 : Nat) : Int) := by
      rcases hz with rfl | rfl
      · left; rw [Int.tmod_eq_emod_of_nonneg (by omega)]; omega
      · right; rw [Int.neg_tmod, Int.tmod_eq_emod_of_nonneg (by omega)]; omega
    have e2 : Int.tdiv z 10 = ((u / 10 : Nat) : Int) ∨ Int.tdiv z 10 = -((u / 10 : Nat) : Int) := by
      rcases hz with rfl | rfl
      · left; rw [Int.tdiv_eq_ediv_of_nonneg (by omega)]; omega
      · right; rw [Int.neg_tdiv, Int.tdiv_eq_ediv_of_nonneg (by omega)]; omega
    have e3 : wrap64 (48 + ((u % 10 : Nat) : Int)) % 256 = ((48 + u % 10 : Nat) : Int) := by rw [wrap_in (by omega) (by omega)]; omega
    have e4 : wrap64 (Int.tdiv z 10) = Int.tdiv z 10 := wrap_in (by omega) (by omega)
    have hs : ∀ k, spec_l01Dec.l0 (k + 1) x0 xs z = spec_l01Dec.l0 k x0 (((48 + u % 10 : Nat) : Int) :: xs) (Int.tdiv z 10) := by
      intro k
      simp only [spec_l01Dec.l0]
      rw [if_neg (by omega), e4]
      by_cases hn : Int.tmod z 10 < 0
      · have e5 : wrap64 (-(Int.tmod z 10)) = ((u % 10 : Nat) : Int) := by rw [wrap_in (by omega) (by omega)]; omega
        rw [if_pos hn, e5, e3]
        simp only [Option.bind_some]
        rw [if_pos (by simp; omega)]
        rfl
      · have e5 : Int.tmod z 10 = ((u % 10 : Nat) : Int) := by omega
        rw [if_neg hn, e5, e3]
        simp only [Option.bind_some]
        rw [if_pos (by simp; omega)]
        rfl
    have e5 : nums (((48 + u % 10 : Nat) : Int) :: xs) = UInt8.ofNat (48 + u % 10) :: nums xs := by simp only [nums, List.map_cons, Int.toNat_natCast]
    refine ev_step hs ?_
    by_cases c : u < 10
    · have ez : Int.tdiv z 10 = 0 := by omega
      rw [ez]
      refine ev_end fun k => ?_
      have e6 : u % 10 = u := by omega
      have e7 : Lib.decDigits u ++ nums xs = nums (((48 + u % 10 : Nat) : Int) :: xs) := by rw [e5, e6, Lib.decDigits, dif_pos c]; rfl
      simp only [spec_l01Dec.l0]
      rw [if_pos trivial, if_neg (by simp; omega), e7]
      by_cases hx : x0 < 0
      · have e8 : (strOfNums (((48 + u % 10 : Nat) : Int) :: xs)) = bs (nums (((48 + u % 10 : Nat) : Int) :: xs)) := rfl
        rw [if_pos hx, mns, if_pos hx, e8, if_pos (by rw [bs_size]; simp [nums]; omega)]
        exact congrArg some (bs_app [45] _)
      · rw [if_neg hx, mns, if_neg hx]
        rfl
    · have := ih (u / 10) (Int.tdiv z 10) (((48 + u % 10 : Nat) : Int) :: xs) (by omega) (by omega) (by omega) (by simp; omega) e2
      rw [e5] at this
      rw [Lib.decDigits, dif_neg c, List.append_assoc]
      exact this
theorem decS (n : Int) (h0 : -1000000000000000000 < n) (h1 : n < 1000000000000000000) : Ev (fun k => spec_l01Dec.f k n) (bs (Lib.itoa n)) := by
  unfold spec_l01Dec.f
  by_cases c : n = 0
  · subst c
    refine ev_end fun k => ?_
    simp only [spec_l01Dec.l0]
    rw [if_pos trivial, if_pos (by simp)]
    unfold Lib.itoa
    rw [if_neg (by omega), Lib.decDigits, dif_pos (by simp)]
    rfl
  · have := dec_step n 18 n.natAbs n [] (by omega) (by omega) (by omega) (by simp) (by omega)
    refine ev_eq this ?_
    congr 1
    unfold mns Lib.itoa
    split
    · simp [nums]
    · rw [show n.natAbs = n.toNat from by omega]; simp [nums]
theorem decI (n : Int) (h0 : -1000000000000000000 < n) (h1 : n < 1000000000000000000) : Ev (fun k => impl_Decimal.f k n) (bs (Lib.itoa n)) := by
  refine ev_now fun k => ?_
  unfold impl_Decimal.f
  rw [if_pos (by omega)]
  rfl
/-! ### numbers read -/
def digs : List UInt8 → Nat → Option Nat
  | [], n => some n
  | b :: l, n => if 48 ≤ b.toNat ∧ b.toNat ≤ 57 then digs l (10 * n + (b.toNat - 48)) else none
def bare (s : List UInt8) : List UInt8 := if s.head? = some 45 then s.tail else s
def fin (s t : List UInt8) (n : Nat) : Int × Bool := if t.length < s.length then (if Lib.itoa (-(n : Int)) = s then (-(n : Int), true) else (0, false)) else (if Lib.itoa (n : Int) = s then ((n : Int), true) else (0, false))
def numV (s : List UInt8) : Int × Bool := if (bare s).length < 1 ∨ 18 < (bare s).length then (0, false) else match digs (bare s) 0 with
  | none => (0, false)
  | some n => fin s (bare s) n
theorem digs_mem : ∀ (l : List UInt8) (n r : Nat), digs l n = some r → ∀ b, b ∈ l → 48 ≤ b.toNat ∧ b.toNat ≤ 57
  | [], _, _, _, b, hb => by simp at hb
  | a :: l, n, r, h, b, hb => by
    unfold digs at h
    split at h
    · rcases List.mem_cons.1 hb with e | e
      · subst e; assumption
      · exact digs_mem l _ r h b e
    · simp at h
theorem numV_no (s : List UInt8) (c : UInt8) (hc : c.toNat = 44) (h : c ∈ s) : numV s = (0, false) := by
  have hm : c ∈ bare s := by
    unfold bare
    split
    · cases s with
      | nil => simp at h
      | cons b l =>
        rename_i hb
        rcases List.mem_cons.1 h with e | e
        · subst e
          simp only [List.head?_cons, Option.some.injEq] at hb
          rw [hb] at hc
          exact absurd hc (by decide)
        · exact e
    · exact h
  unfold numV
  split
  · rfl
  · split
    · rfl
    · rename_i n hn
      have := digs_mem _ _ _ hn c hm
      omega
theorem fin_ev (s t : List UInt8) (n : Nat) (hn : n < 1000000000000000000) (D : Nat → Int → Option ByteArray) (hD : ∀ z : Int, -1000000000000000000 < z → z < 1000000000000000000 → Ev (fun k => D k z) (bs (Lib.itoa z))) :
    Ev (fun k => if ((bs t).size : Int) < ((bs s).size : Int) then ((D k (wrap64 (-(n : Int)))).bind fun t182 => (if t182.toList = (bs s).toList then (some (wrap64 (-(n : Int)), true)) else (some (0, false)))) else ((D k (n : Int)).bind fun t183 => (if t183.toList = (bs s).toList then (some ((n : Int), true)) else (some (0, false))))) (fin s t n) := by
  unfold fin
  rw [bs_size, bs_size, wrap_in (by omega) (by omega)]
  by_cases c : t.length < s.length
  · rw [if_pos c]
    refine ev_if_pos (by omega) (ev_bind (hD _ (by omega) (by omega)) (ev_now fun k => ?_))
    rw [bs_tl, bs_tl]
    split <;> rfl
  · rw [if_neg c]
    refine ev_if_neg (by omega) (ev_bind (hD _ (by omega) (by omega)) (ev_now fun k => ?_))
    rw [bs_tl, bs_tl]
    split <;> rfl
def finO (s t : List UInt8) : Option Nat → Int × Bool
  | none => (0, false)
  | some n => fin s t n
theorem loop_num (s t : List UInt8) (ht : t.length ≤ 18) (L : Nat → Int → Int → Option (Int × Bool))
    (hend : ∀ n : Nat, n < 1000000000000000000 → Ev (fun k => L k (n : Int) (t.length : Int)) (fin s t n))
    (hbad : ∀ (n i : Nat) (h : i < t.length), ¬ (48 ≤ (t[i]'h).toNat ∧ (t[i]'h).toNat ≤ 57) → ∀ k, L (k + 1) (n : Int) (i : Int) = some (0, false))
    (hgo : ∀ (n i : Nat) (h : i < t.length), (48 ≤ (t[i]'h).toNat ∧ (t[i]'h).toNat ≤ 57) → n < 100000000000000000 → ∀ k, L (k + 1) (n : Int) (i : Int) = L k ((10 * n + ((t[i]'h).toNat - 48) : Nat) : Int) ((i + 1 : Nat) : Int)) :
    Ev (fun k => L k 0 0) (finO s t (digs t 0)) := by
  have key : ∀ (m i n : Nat), t.length - i = m → i ≤ t.length → n < 10 ^ i → Ev (fun k => L k (n : Int) (i : Int)) (finO s t (digs (t.drop i) n)) := by
    intro m
    induction m with
    | zero =>
      intro i n h1 h2 h3
      obtain rfl : i = t.length := by omega
      have hp : (10 : Nat) ^ t.length ≤ 10 ^ 18 := Nat.pow_le_pow_right (by decide) ht
      rw [List.drop_length]
      exact hend n (by omega)
    | succ m ih =>
      intro i n h1 h2 h3
      have hi : i < t.length := by omega
      have hp : (10 : Nat) ^ i ≤ 10 ^ 17 := Nat.pow_le_pow_right (by decide) (by omega)
      have hd : t.drop i = t[i] :: t.drop (i + 1) := List.drop_eq_getElem_cons hi
      rw [hd]
      unfold digs
      by_cases c : 48 ≤ t[i].toNat ∧ t[i].toNat ≤ 57
      · rw [if_pos c]
        exact ev_step (hgo n i hi c (by omega)) (ih (i + 1) _ (by omega) (by omega) (by rw [Nat.pow_succ]; omega))
      · rw [if_neg c]
        exact ev_end (hbad n i hi c)
  have := key t.length 0 0 (by omega) (by omega) (by simp)
  simpa using this
theorem numS_l (s t : List UInt8) (ht : t.length ≤ 18) : Ev (fun k => spec_l01Number.l0 k (bs s) (bs t) 0 0) (finO s t (digs t 0)) := by
  refine loop_num s t ht (fun k n i => spec_l01Number.l0 k (bs s) (bs t) n i) (fun n hn => ?_) (fun n i h c k => ?_) (fun n i h c hn k => ?_)
  · refine ev_step (fun k => ?_) (fin_ev s t n hn spec_l01Dec.f decS)
    simp only [spec_l01Number.l0]
    rw [if_neg (by rw [bs_size]; omega)]
  · simp only [spec_l01Number.l0]
    rw [if_pos (by rw [bs_size]; omega), if_pos (by omega), bs_bt t i h]
    unfold spec_l01Digit.f
    by_cases c1 : 48 ≤ (t[i]'h).toNat
    · rw [if_pos (by omega)]
      simp only [Option.bind_some]
      rw [if_neg (by simp; omega)]
    · rw [if_neg (by omega)]
      simp only [Option.bind_some]
      rw [if_neg (by simp)]
  · simp only [spec_l01Number.l0]
    rw [if_pos (by rw [bs_size]; omega), if_pos (by omega), bs_bt t i h]
    unfold spec_l01Digit.f
    rw [if_pos (by omega)]
    simp only [Option.bind_some]
    rw [if_pos (by simp; omega), succ_cast i (by omega)]
    have h2 : wrap64 (wrap64 (10 * (n : Int)) + (((t[i]'h).toNat : Int) - 48) % 256) = ((10 * n + ((t[i]'h).toNat - 48) : Nat) : Int) := by
      rw [wrap_in (x := 10 * (n : Int)) (by omega) (by omega), wrap_in (by omega) (by omega)]; omega
    rw [h2]
theorem numI_l (s t : List UInt8) (ht : t.length ≤ 18) : Ev (fun k => impl_ReadDecimal.l0 k (bs s) (bs t) 0 0) (finO s t (digs t 0)) := by
  refine loop_num s t ht (fun k n i => impl_ReadDecimal.l0 k (bs s) (bs t) n i) (fun n hn => ?_) (fun n i h c k => ?_) (fun n i h c hn k => ?_)
  · refine ev_step (fun k => ?_) (fin_ev s t n hn impl_Decimal.f decI)
    simp only [impl_ReadDecimal.l0]
    rw [if_neg (by rw [bs_size]; omega)]
  · simp only [impl_ReadDecimal.l0]
    rw [if_pos (by rw [bs_size]; omega), if_pos (by omega), bs_bt t i h]
    by_cases c1 : 48 ≤ (t[i]'h).toNat
    · rw [if_neg (by omega), if_pos (by omega)]
    · rw [if_pos (by omega)]
  · simp only [impl_ReadDecimal.l0]
    rw [if_pos (by rw [bs_size]; omega), if_pos (by omega), bs_bt t i h, if_neg (by omega), if_neg (by omega), succ_cast i (by omega)]
    have h2 : wrap64 (wrap64 (10 * (n : Int)) + (((t[i]'h).toNat : Int) - 48) % 256) = ((10 * n + ((t[i]'h).toNat - 48) : Nat) : Int) := by
      rw [wrap_in (x := 10 * (n : Int)) (by omega) (by omega), wrap_in (by omega) (by omega)]; omega
    rw [h2]
theorem numV_fin (s : List UInt8) : numV s = if (bare s).length < 1 ∨ 18 < (bare s).length then (0, false) else finO s (bare s) (digs (bare s) 0) := by
  unfold numV
  split
  · rfl
  · split
    · rename_i h; rw [h]; rfl
    · rename_i n h; rw [h]; rfl
theorem numS_1 (s : List UInt8) : Ev (fun k => spec_l01Number.j1 k (bs s) (bs (bare s))) (numV s) := by
  rw [numV_fin]
  have h2 : ∀ b : Bool, Ev (fun k => spec_l01Number.j2 k (bs s) (bs (bare s)) b) (if b = true then (0, false) else if (bare s).length ≤ 18 then finO s (bare s) (digs (bare s) 0) else (0, true)) → True := fun _ _ => trivial
  by_cases c1 : (bare s).length < 1
  · rw [if_pos (Or.inl c1)]
    refine ev_step (f := fun k => spec_l01Number.j2 k (bs s) (bs (bare s)) true) (fun k => ?_) (ev_end fun k => ?_)
    · simp only [spec_l01Number.j1]
      rw [bs_size, if_pos (by omega)]
    · simp only [spec_l01Number.j2, if_true]
  · by_cases c2 : 18 < (bare s).length
    · rw [if_pos (Or.inr c2)]
      refine ev_step (f := fun k => spec_l01Number.j2 k (bs s) (bs (bare s)) true) (fun k => ?_) (ev_end fun k => ?_)
      · simp only [spec_l01Number.j1]
        rw [bs_size, if_neg (by omega), decide_eq_true (by omega)]
      · simp only [spec_l01Number.j2, if_true]
    · rw [if_neg (by omega)]
      refine ev_step (f := fun k => spec_l01Number.j2 k (bs s) (bs (bare s)) false) (fun k => ?_) (ev_step (fun k => ?_) (numS_l s (bare s) (by omega)))
      · simp only [spec_l01Number.j1]
        rw [bs_size, if_neg (by omega), decide_eq_false (by omega)]
      · simp only [spec_l01Number.j2]
        rw [if_neg (by simp)]
theorem numS (s : List UInt8) : Ev (fun k => spec_l01Number.f k (bs s)) (numV s) := by
  unfold spec_l01Number.f
  have h1 := numS_1 s
  cases s with
  | nil =>
    refine ev_if_pos (bs_tl _) (ev_step (fun k => ?_) h1)
    simp only [spec_l01Number.j0]
    rw [if_neg (by simp)]
    rfl
  | cons b l =>
    refine ev_if_neg (by rw [bs_tl]; simp) (ev_if_pos (by rw [bs_size, List.length_cons]; omega) ?_)
    have hb : bt (bs (b :: l)) 0 = (b.toNat : Int) := bs_bt (b :: l) 0 (by simp)
    rw [hb]
    by_cases c : b = 45
    · subst c
      refine ev_step (fun k => ?_) h1
      simp only [spec_l01Number.j0]
      rw [if_pos (by decide), if_pos (by rw [bs_size]; simp; omega), bs_cut, bs_size]
      simp [bare]
    · refine ev_step (fun k => ?_) h1
      simp only [spec_l01Number.j0]
      rw [if_neg (fun e => c (UInt8.toNat_inj.1 (by have := beq_iff_eq.1 e; have e2 : (45 : UInt8).toNat = 45 := rfl; omega)))]
      unfold bare
      rw [if_neg (by simpa using c)]
theorem trimE (s : List UInt8) : strings_TrimPrefix.f (bs s) (bs [45]) = some (bs (bare s)) := by
  unfold strings_TrimPrefix.f stringslite_TrimPrefix.f stringslite_HasPrefix.f
  rw [bs_size, bs_size, bs_cut, bs_cut, bs_tl, bs_tl]
  cases s with
  | nil =>
    rw [if_neg (by simp)]
    rfl
  | cons b l =>
    have hl : (b :: l).length = l.length + 1 := rfl
    have h1 : ([45] : List UInt8).length = 1 := rfl
    rw [h1, if_pos (by omega), if_pos (by omega), if_pos (by omega)]
    simp only [Option.bind_some]
    by_cases c : b = 45
    · subst c
      rw [if_pos (by rfl), if_pos (by omega), if_pos (by omega)]
      simp [bare]
    · rw [if_neg (by simpa using c)]
      simp only [Option.bind_some]
      unfold bare
      rw [if_neg (by simpa using c)]
theorem numI (s : List UInt8) : Ev (fun k => impl_ReadDecimal.f k (bs s)) (numV s) := by
  unfold impl_ReadDecimal.f
  rw [show (⟨#[45]⟩ : ByteArray) = bs [45] from rfl, trimE, numV_fin]
  refine ev_some ?_
  rw [bs_size]
  by_cases c1 : (bare s).length < 1
  · rw [if_pos (Or.inl c1)]
    refine ev_if_pos (by omega) (ev_end fun k => ?_)
    simp only [impl_ReadDecimal.j0, if_true]
  · refine ev_if_neg (by omega) ?_
    by_cases c2 : 18 < (bare s).length
    · rw [if_pos (Or.inr c2), decide_eq_true (by omega)]
      refine ev_end fun k => ?_
      simp only [impl_ReadDecimal.j0, if_true]
    · rw [if_neg (by omega), decide_eq_false (by omega)]
      refine ev_step (fun k => ?_) (numI_l s (bare s) (by omega))
      simp only [impl_ReadDecimal.j0]
      rw [if_neg (by simp)]
/-! ### the text of a sail read -/
def wordV (w : List UInt8) : Option S35 := match spA 44 [] w with
  | [a, b] => if (numV a).2 = true then (if (numV b).2 = true then some ⟨(numV a).1, (numV b).1⟩ else none) else none
  | _ => none
noncomputable def rdV : List (List UInt8) → List S35 → List S35 × Bool
  | [], out => if Vb out = true then (out, true) else ([], false)
  | w :: r, out => match wordV w with
    | none => ([], false)
    | some p => rdV r (out ++ [p])
noncomputable def rdO (r : List (List UInt8)) (out : List S35) : Option S35 → List S35 × Bool
  | none => ([], false)
  | some p => rdV r (out ++ [p])
theorem rdV_cons (w : List UInt8) (r : List (List UInt8)) (out : List S35) : rdV (w :: r) out = rdO r out (wordV w) := by
  rw [rdV]
  cases wordV w <;> rfl
theorem rdV_le : ∀ (r : List (List UInt8)) (out : List S35), (rdV r out).1.length ≤ 8
  | [], out => by
    unfold rdV
    split
    · rename_i h; exact (V_of h).1.2
    · simp
  | w :: r, out => by
    rw [rdV_cons]
    cases wordV w with
    | none => simp [rdO]
    | some p => exact rdV_le r _
theorem rd_bs (ws : List (List UInt8)) (i : Nat) (h : i < ws.length) : rdOf ByteArray.empty (ws.map bs) (i : Int) = bs ws[i] := by
  unfold rdOf
  rw [getD_nat, List.getD_eq_getElem?_getD, List.getElem?_map, List.getElem?_eq_getElem h]
  rfl
theorem wordS (w : List UInt8) (hw : w.length ≤ 1048576) (r : List (List UInt8)) (out : List S35) (ho : out.length ≤ 1048577) (F : Nat → List S35 → Option (List S35 × Bool)) (hF : ∀ p, wordV w = some p → Ev (fun k => F k (out ++ [p])) (rdV r (out ++ [p]))) :
    Ev (fun k => (spec_l01Split.f k (bs w) 44).bind fun t192 => (if (t192.length : Int) = 2 then (if 0 < (t192.length : Int) then ((spec_l01Number.f k (rdOf ByteArray.empty t192 0)).bind fun bt196 => (if 1 < (t192.length : Int) then ((spec_l01Number.f k (rdOf ByteArray.empty t192 1)).bind fun bt199 => (if bt196.2 = true then (if bt199.2 = true then (if out.length < 8796093022208 then (F k (out ++ [(⟨bt196.1, bt199.1⟩ : S35)])) else (none)) else (some (([] : List (S35)), false))) else (some (([] : List (S35)), false)))) else (none))) else (none)) else (some (([] : List (S35)), false)))) (rdO r out (wordV w)) := by
  refine ev_bind (splitS 44 w hw) ?_
  rw [List.length_map]
  have hWd : wordV w = match spA 44 [] w with
    | [a, b] => if (numV a).2 = true then (if (numV b).2 = true then some ⟨(numV a).1, (numV b).1⟩ else none) else none
    | _ => none := rfl
  generalize spA 44 [] w = v at hWd
  match v, hWd with
  | [], hWd => rw [hWd]; exact ev_if_neg (by simp) (ev_now fun _ => rfl)
  | [a], hWd => rw [hWd]; exact ev_if_neg (by simp) (ev_now fun _ => rfl)
  | [a, b], hWd =>
    have hWd : wordV w = if (numV a).2 = true then (if (numV b).2 = true then some ⟨(numV a).1, (numV b).1⟩ else none) else none := hWd
    refine ev_if_pos (by simp) (ev_if_pos (by simp) (ev_bind (numS a) (ev_if_pos (by simp) (ev_bind (numS b) ?_))))
    by_cases h1 : (numV a).2 = true
    · refine ev_if_pos h1 ?_
      rw [if_pos h1] at hWd
      by_cases h2 : (numV b).2 = true
      · rw [if_pos h2] at hWd
        refine ev_if_pos h2 (ev_if_pos (by omega) ?_)
        rw [hWd]
        exact hF _ hWd
      · rw [if_neg h2] at hWd
        rw [hWd]
        exact ev_if_neg h2 (ev_now fun _ => rfl)
    · rw [if_neg h1] at hWd
      rw [hWd]
      exact ev_if_neg h1 (ev_now fun _ => rfl)
  | a :: b :: c :: d, hWd =>
    rw [hWd]
    exact ev_if_neg (by simp only [List.length_cons]; omega) (ev_now fun _ => rfl)
theorem readS (s : List UInt8) (hs : s.length ≤ 1048576) : Ev (fun k => spec_ReadSail.f k (bs s)) (rdV (spA 32 [] s) []) := by
  unfold spec_ReadSail.f
  have hlen := spA_len 32 s []
  have hmem := spA_mem 32 s []
  refine ev_bind (splitS 32 s hs) ?_
  generalize spA 32 [] s = ws at *
  have key : ∀ (m i : Nat) (out : List S35), ws.length - i = m → i ≤ ws.length → out.length ≤ i → Ev (fun k => spec_ReadSail.l0 k (ws.map bs) out (i : Int)) (rdV (ws.drop i) out) := by
    intro m
    induction m with
    | zero =>
      intro i out h1 h2 h3
      obtain rfl : i = ws.length := by omega
      rw [List.drop_length, rdV]
      have sV := specV out (by omega)
      refine ev_step (f := fun k => (spec_l13Ok.f k out).bind fun t190 => (if t190 = true then (some (out, true)) else (some (([] : List (S35)), false)))) (fun k => ?_) (ev_bind sV (ev_now fun k => ?_))
      · simp only [spec_ReadSail.l0]
        rw [List.length_map, if_neg (by omega)]
      · split <;> rfl
    | succ m ih =>
      intro i out h1 h2 h3
      have hi : i < ws.length := by omega
      have hd : ws.drop i = ws[i] :: ws.drop (i + 1) := List.drop_eq_getElem_cons hi
      rw [hd, rdV_cons]
      have hw : ws[i].length ≤ 1048576 := by have := hmem ws[i] (List.getElem_mem hi); simp only [List.length_nil] at this; omega
      refine ev_step (fun k => ?_) (wordS ws[i] hw (ws.drop (i + 1)) out (by omega) (fun k o => spec_ReadSail.l0 k (ws.map bs) o ((i + 1 : Nat) : Int)) (fun p _ => ih (i + 1) (out ++ [p]) (by omega) (by omega) (by simp; omega)))
      simp only [spec_ReadSail.l0]
      rw [List.length_map, if_pos (by omega), if_pos (by omega), rd_bs ws i hi, succ_cast i (by omega)]
  exact key ws.length 0 [] (by omega) (by omega) (by simp)
theorem wordI (w : List UInt8) (hw : w.length ≤ 1048576) (r : List (List UInt8)) (out : List S35) (ho : out.length ≤ 1048577) (F : Nat → List S35 → Option (List S35 × Bool)) (hF : ∀ p, wordV w = some p → Ev (fun k => F k (out ++ [p])) (rdV r (out ++ [p]))) :
    Ev (fun k => (strings_Cut.f k (bs w) (⟨#[44]⟩ : ByteArray)).bind fun bt270 => ((impl_ReadDecimal.f k bt270.1).bind fun bt273 => ((impl_ReadDecimal.f k bt270.2.1).bind fun bt275 => (if bt270.2.2 = true then (if bt273.2 = true then (if bt275.2 = true then (if out.length < 8796093022208 then (F k (out ++ [(⟨bt273.1, bt275.1⟩ : S35)])) else (none)) else (some (([] : List (S35)), false))) else (some (([] : List (S35)), false))) else (some (([] : List (S35)), false)))))) (rdO r out (wordV w)) := by
  have hc : Ev (fun k => strings_Cut.f k (bs w) (⟨#[44]⟩ : ByteArray)) (bs (Lib.cut w [44]).1, bs (Lib.cut w [44]).2.1, (Lib.cut w [44]).2.2) := by
    refine ev_now fun k => ?_
    unfold strings_Cut.f
    rw [bs_size, if_pos (by omega), bs_list]
    rfl
  refine ev_bind hc (ev_bind (numI _) (ev_bind (numI _) ?_))
  have hWd : wordV w = match spA 44 [] w with
    | [a, b] => if (numV a).2 = true then (if (numV b).2 = true then some ⟨(numV a).1, (numV b).1⟩ else none) else none
    | _ => none := rfl
  rcases cutE 44 w with ⟨h1, h2, h3⟩ | ⟨a, t, h1, h2, h3⟩
  · rw [h1] at hWd
    rw [h2, hWd]
    exact ev_if_neg Bool.false_ne_true (ev_now fun _ => rfl)
  · rw [h1] at hWd
    rw [h2]
    refine ev_if_pos rfl ?_
    show Ev (fun k => if (numV a).2 = true then (if (numV t).2 = true then (if out.length < 8796093022208 then (F k (out ++ [(⟨(numV a).1, (numV t).1⟩ : S35)])) else (none)) else (some (([] : List (S35)), false))) else (some (([] : List (S35)), false))) _
    by_cases hin : (44 : UInt8) ∈ t
    · have hn := numV_no t 44 rfl hin
      have h4 := spA_in 44 t hin
      have hWn : wordV w = none := by
        rw [hWd]
        generalize spA 44 [] t = v at h4
        match v, h4 with
        | [], h4 => simp at h4
        | [b], h4 => simp at h4
        | b :: c :: d, _ => rfl
      rw [hWn, hn]
      by_cases q : (numV a).2 = true
      · exact ev_if_pos q (ev_if_neg Bool.false_ne_true (ev_now fun _ => rfl))
      · exact ev_if_neg q (ev_now fun _ => rfl)
    · have h4 : spA 44 [] t = [t] := by
        rcases cutE 44 t with ⟨h5, _, _⟩ | ⟨a', t', h5, h6, h7⟩
        · exact h5
        · exact absurd (cut_in 44 t h6) hin
      rw [h4] at hWd
      have hWd : wordV w = if (numV a).2 = true then (if (numV t).2 = true then some ⟨(numV a).1, (numV t).1⟩ else none) else none := hWd
      by_cases q1 : (numV a).2 = true
      · refine ev_if_pos q1 ?_
        rw [if_pos q1] at hWd
        by_cases q2 : (numV t).2 = true
        · rw [if_pos q2] at hWd
          refine ev_if_pos q2 (ev_if_pos (by omega) ?_)
          rw [hWd]
          exact hF _ hWd
        · rw [if_neg q2] at hWd
          rw [hWd]
          exact ev_if_neg q2 (ev_now fun _ => rfl)
      · rw [if_neg q1] at hWd
        rw [hWd]
        exact ev_if_neg q1 (ev_now fun _ => rfl)
theorem readI (s : List UInt8) (hs : s.length ≤ 1048576) : Ev (fun k => impl_ReadSail.f k (bs s)) (rdV (spA 32 [] s) []) := by
  unfold impl_ReadSail.f
  have hlen := spA_len 32 s []
  have hmem := spA_mem 32 s []
  refine ev_bind (splitI 32 s hs) ?_
  generalize spA 32 [] s = ws at *
  rw [List.length_map]
  have key : ∀ (m i : Nat) (out : List S35), ws.length - i = m → i ≤ ws.length → out.length ≤ i → Ev (fun k => impl_ReadSail.l0 k out (ws.map bs) (ws.length : Int) (i : Int)) (rdV (ws.drop i) out) := by
    intro m
    induction m with
    | zero =>
      intro i out h1 h2 h3
      obtain rfl : i = ws.length := by omega
      rw [List.drop_length, rdV]
      have sV := implV out (by omega)
      refine ev_step (f := fun k => (impl_ValidSail.f k out).bind fun t190 => (if t190 = true then (some (out, true)) else (some (([] : List (S35)), false)))) (fun k => ?_) (ev_bind sV (ev_now fun k => ?_))
      · simp only [impl_ReadSail.l0]
        rw [if_neg (by omega)]
      · split <;> rfl
    | succ m ih =>
      intro i out h1 h2 h3
      have hi : i < ws.length := by omega
      have hd : ws.drop i = ws[i] :: ws.drop (i + 1) := List.drop_eq_getElem_cons hi
      rw [hd, rdV_cons]
      have hw : ws[i].length ≤ 1048576 := by have := hmem ws[i] (List.getElem_mem hi); simp only [List.length_nil] at this; omega
      refine ev_step (fun k => ?_) (wordI ws[i] hw (ws.drop (i + 1)) out (by omega) (fun k o => impl_ReadSail.l0 k o (ws.map bs) (ws.length : Int) ((i + 1 : Nat) : Int)) (fun p _ => ih (i + 1) (out ++ [p]) (by omega) (by omega) (by simp; omega)))
      simp only [impl_ReadSail.l0]
      rw [List.length_map, if_pos (by omega), if_pos (by omega), if_pos (by omega), rd_bs ws i hi, succ_cast i (by omega)]
  exact key ws.length 0 [] (by omega) (by omega) (by simp)
theorem FnExactReadSail : Say.FnExactReadSail := by
  intro s hl
  apply Ev.rounds
  unfold laws_FnExactReadSail.f
  by_cases h : s.size ≤ 1048576
  · have hs : s = bs s.data.toList := (bs_of s).symm
    have hz : s.size = s.data.toList.length := Lib.size_eq s
    generalize s.data.toList = l at hs hz
    subst hs
    have k1 := readS l (by omega)
    have k2 := readI l (by omega)
    have h8 := rdV_le (spA 32 [] l) []
    generalize rdV (spA 32 [] l) [] = r at k1 k2 h8
    obtain ⟨x, b⟩ := r
    have h8 : x.length ≤ 8 := h8
    have e1 := eqSpots x (by omega)
    have m1 := marks x (by omega)
    have d1 := held x.length (by omega)
    have eb : (b != b) = false := by cases b <;> rfl
    refine ev_if_neg (by omega) (ev_bind k1 (ev_bind k2 (ev_bind e1 (ev_if_pos rfl ?_))))
    show Ev (fun k => laws_FnExactReadSail.j0 k (bs l) x b x (b != b)) true
    rw [eb]
    refine ev_step (f := fun k => (laws_markSpotS.f k x 1).bind fun bt293 => ((laws_heldSpotS.f k bt293.2 1).bind fun t295 => (if t295 < 0 then (some false) else (if t295 = bt293.1 then ((impl_ReadSail.f k (bs l)).bind fun bt296 => ((laws_eqSpotS.f k bt296.1 x).bind fun t300 => (if t300 = true then (laws_FnExactReadSail.j1 k bt293.2 bt293.1 (bt296.2 != b)) else (laws_FnExactReadSail.j1 k bt293.2 bt293.1 true)))) else (some false))))) (fun k => ?_) (ev_bind m1 ?_)
    · simp only [laws_FnExactReadSail.j0]
      rw [if_neg Bool.false_ne_true]
    refine ev_bind (g := fun k => laws_heldSpotS.f k (mks x.length) 1) d1 (ev_if_neg (by omega) (ev_if_pos rfl (ev_bind k2 (ev_bind (g := fun k => laws_eqSpotS.f k x x) e1 (ev_if_pos rfl ?_)))))
    · show Ev (fun k => laws_FnExactReadSail.j1 k (mks x.length) (1 + 2 * (x.length : Int)) (b != b)) true
      rw [eb]
      refine ev_step (f := fun k => (laws_heldSpotS.f k (mks x.length) 1).bind fun t301 => (if t301 < 0 then (some false) else (if t301 = 1 + 2 * (x.length : Int) then (some true) else (some false)))) (fun k => ?_) (ev_bind d1 (ev_if_neg (by omega) (ev_if_pos rfl (ev_now fun _ => rfl))))
      simp only [laws_FnExactReadSail.j1]
      rw [if_neg Bool.false_ne_true]
  · exact ev_if_pos (by omega) (ev_now fun _ => rfl)
end Go.Proofs.YtchngbjpjbahiaaDoor.Pure
