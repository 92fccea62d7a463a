/- The walks of the functions that the law reaches: each computes what its Lean function says. No condition beyond each contract's own. -/
import Derived.Test.YthfpaldhdohnkaaHFnExactCountTurnsx0
import Derived.Test.YthfpaldhdohnkaaHFnExactCountTurnsx2
namespace Go.Proofs.Ythfpaldhdohnkaa.PFnExactCountTurns
open Go.RowKit Go.Proofs.YthfpaldhdohnkaaW.PrintWords Go.Proofs.YthfpaldhdohnkaaW.PrintLast Go.Proofs.YthfpaldhdohnkaaW.PrintMore
attribute [local go_sem] max2_int min2_int max_two min_two max_three min_three max_four min_four   -- for this text's walks alone
set_option linter.unusedVariables false
set_option linter.unusedSimpArgs false

/-! ### spec_l00Size: function 64 -/
def spec_l00Size.f (a0 : Int) : Option (Int) := if a0 < 0 then (some (wrap64 (-a0))) else (some a0)
set_option maxHeartbeats 8000000 in
set_option maxRecDepth 100000 in
theorem spec_l00Size.calls (a0 : Int) (r : Int) (w : World) (h : spec_l00Size.f a0 = some r) :
    Calls Try.prog 64 #[.int .i64 a0] w fun e w' => e = .returned (.int .i64 r) ∧ Drawn0 w w' := by
  have H : (if a0 < 0 then (some (wrap64 (-a0))) else (some a0)) = some r := h
  clear h
  by_cases c2 : a0 < 0
  · rw [if_pos c2] at H
    have c2b0 : decide (a0 < 0) = true := decide_eq_true c2
    clear c2
    obtain rfl := Option.some.inj H
    go_enter Try.func64, Try.ntmps64
    go_wp2
    go_ret
    exact ⟨by first | rfl | (simp; done) | (simp [*]; done), by repeat (first | exact Drawn0.refl _ | apply Drawn0.step)⟩
  · rw [if_neg c2] at H
    have c2b0 : decide (a0 < 0) = false := decide_eq_false c2
    clear c2
    obtain rfl := Option.some.inj H
    go_enter Try.func64, Try.ntmps64
    go_wp2
    go_ret
    exact ⟨by first | rfl | (simp; done) | (simp [*]; done), by repeat (first | exact Drawn0.refl _ | apply Drawn0.step)⟩

/-! ### spec_l12Count: function 67 -/
def spec_l12Count.l0 : Nat → List Int → Int → Int → Option (Int)
  | 0, _, _, _ => none
  | k + 1, x0, x3, x4 => if x4 < (x0.length : Int) then (if 0 ≤ x4 then ((spec_l00Size.f (rd x0 x4)).bind fun t151 => (spec_l12Count.l0 k x0 (wrap64 (x3 + t151)) (wrap64 (x4 + 1)))) else (none)) else (some x3)
def spec_l12Count.f (k : Nat) (l0 : List Int) : Option (Int) := spec_l12Count.l0 k l0 0 0
theorem spec_l12Count.mono_l : ∀ k, (∀ y0 y1 y2, LeO (spec_l12Count.l0 k y0 y1 y2) (spec_l12Count.l0 (k + 1) y0 y1 y2))
  | 0 => fun _ _ _ r h => by simp [spec_l12Count.l0] at h
  | k + 1 => by
    have ih0 := spec_l12Count.mono_l k
    · intro y0 y1 y2
      unfold spec_l12Count.l0
      repeat' first
      | (with_reducible exact ih0 _ _ _)
      | (with_reducible exact LeO.refl _)
      | (with_reducible exact LeO.none _)
      | (with_reducible refine LeO.ite ?_ ?_)
      | (with_reducible refine LeO.bind ?_ (fun _ => ?_))
      | exact ih0 _ _ _
      | exact LeO.none _
      | refine LeO.ite ?_ ?_
      | refine LeO.bind ?_ (fun _ => ?_)
theorem spec_l12Count.mono : ∀ a0 k, LeO (spec_l12Count.f k a0) (spec_l12Count.f (k + 1) a0) := by
  intro a0 k
  have ih0 := spec_l12Count.mono_l k
  unfold spec_l12Count.f
  repeat' first
      | (with_reducible exact ih0 _ _ _)
      | (with_reducible exact LeO.refl _)
      | (with_reducible exact LeO.none _)
      | (with_reducible refine LeO.ite ?_ ?_)
      | (with_reducible refine LeO.bind ?_ (fun _ => ?_))
      | exact ih0 _ _ _
      | exact LeO.none _
      | refine LeO.ite ?_ ?_
      | refine LeO.bind ?_ (fun _ => ?_)
set_option maxHeartbeats 8000000 in
set_option maxRecDepth 100000 in
theorem spec_l12Count.calls (k : Nat) (A0 : Option Addr) (c0 : Nat) (l0 : List Int) (r : Int) (w : World) (hr0 : Kd.C (Kd.int .i64) w A0 l0.length l0) (hc0 : l0.length ≤ c0) (h : spec_l12Count.f k l0 = some r) :
    Calls Try.prog 67 #[.slice A0 l0.length c0] w fun e w' => e = .returned (.int .i64 r) ∧ Drawn0 w w' := by
  have HR0 := Aside0.mk hr0
  have HC0 := Aside0.mk hc0
  clear hr0 hc0
  have H : (spec_l12Count.l0 k l0 0 0) = some r := h
  clear h
  have H' := Aside0.mk H
  clear H
  go_enter Try.func67, Try.ntmps67
  go_wp2
  go_loopg [3, 4] k (fun kq v3 v4 w' => ∃ (x3_1 : Int) (x4_1 : Int), v3 = .int .i64 x3_1 ∧ v4 = .int .i64 x4_1 ∧ Aside0 (spec_l12Count.l0 kq l0 x3_1 x4_1 = some r) ∧ Aside0 (kq ≤ k) ∧ Drawn0 w w')
  case atStart => exact ⟨(0), (0), (by first | rfl | (simp; done) | (simp [*]; done)), (by first | rfl | (simp; done) | (simp [*]; done)), H', ⟨Nat.le_refl _⟩, by repeat (first | exact Drawn0.refl _ | apply Drawn0.step)⟩
  case round =>
    clear H'
    obtain ⟨x3_1, x4_1, rfl, rfl, HA, HK1, ⟨m1, rfl⟩⟩ := hrel
    cases gk with
    | zero => exact absurd HA.out (by simp [spec_l12Count.l0])
    | succ k1 =>
      have H := HA.out
      clear HA
      simp only [spec_l12Count.l0] at H
      by_cases c2 : x4_1 < (l0.length : Int)
      · rw [if_pos c2] at H
        have c2b0 : decide (x4_1 < (l0.length : Int)) = true := decide_eq_true c2
        clear c2
        by_cases c3 : 0 ≤ x4_1
        · rw [if_pos c3] at H
          have c3b0 : decide (0 ≤ x4_1) = true := decide_eq_true c3
          clear c3
          replace H := Option.bind_eq_some_iff.mp H
          obtain ⟨t151, A40, H⟩ := H
          replace H : (spec_l12Count.l0 k1 l0 (wrap64 (x3_1 + t151)) (wrap64 (x4_1 + 1))) = some r := H
          have A4 := Aside0.mk A40
          clear A40
          have H' := Aside0.mk H
          clear H
          have p150 : 0 ≤ (x4_1 : Int) := of_decide_eq_true (by first | (with_reducible assumption) | assumption)
          have q150 : x4_1 < (l0.length : Int) := of_decide_eq_true (by first | (with_reducible assumption) | assumption)
          obtain ⟨ad150, e150, hx150_0⟩ := Kd.at_int HR0.out x4_1 p150 q150
          cases e150
          replace p150 := eq_true p150
          replace q150 := eq_true q150
          go_wp2_with (first | ((with_reducible refine gate_callee (f := 64) rfl ?_); refine goesL_ (some 16) rfl rfl Try.func64 (by kernel_rfl) rfl #[.int .i64 (rd l0 x4_1)] rfl (by (try simp only [List.map_toArray, List.map_cons, List.map_nil]); first | done | rfl | (simp only [List.length_drop, List.length_take]; rfl)) ?_; (with_reducible refine (spec_l00Size.calls (rd l0 x4_1) t151 _ A4.out).mono ?_); rintro e w' ⟨rfl, ⟨nd, rfl⟩⟩; refine ⟨_, rfl, ?_⟩))
          go_roundg k1
          case measure => have := HK1.out; omega
          case rel => exact ⟨(wrap64 (x3_1 + t151)), (wrap64 (x4_1 + 1)), (by first | rfl | (simp; done) | (simp [*]; done)), (by first | rfl | (simp; done) | (simp [*]; done)), H', ⟨by have := HK1.out; omega⟩, by repeat (first | exact Drawn0.refl _ | apply Drawn0.step)⟩
        · rw [if_neg c3] at H
          exact absurd H (by simp)
      · rw [if_neg c2] at H
        have c2b0 : decide (x4_1 < (l0.length : Int)) = false := decide_eq_false c2
        clear c2
        obtain rfl := Option.some.inj H
        go_wp2
        go_ret
        exact ⟨by first | rfl | (simp; done) | (simp [*]; done), by repeat (first | exact Drawn0.refl _ | apply Drawn0.step)⟩

/-! ### spec_CountTurns: function 31 -/
/-! by hand: is a tuning valid (by its address) -/
def okRowB (n : Nat) (row : List Int) : Bool := decide (row.length = n) && row.all (fun x => decide (-1000 ≤ x) && decide (x ≤ 1000))
def okTB (ts : List Int) (es : List (List Int)) : Bool := decide (es.length = ts.length) && ts.all (fun x => decide (0 ≤ x) && decide (x ≤ 1000000)) && es.all (okRowB ts.length) && decide (1 ≤ ts.length) && decide (ts.length ≤ 4)
theorem qcall {P : Program} {f : FuncId} {args : Array Value} {w : World} {n a : Nat} {v : Value} (h : Calls P f args (w.drewN (n + a)) fun e w' => e = .returned v ∧ Drawn0 (w.drewN (n + a)) w') :
    Calls P f args (w.drewN (n + a)) fun e w'' => e = .returned v ∧ ∃ k, w'' = w.drewN (n + k) :=
  h.mono fun _ _ ⟨he, m, hm⟩ => ⟨he, a + m, by rw [hm, World.drewN_drewN, Nat.add_assoc]⟩
theorem in_true {a b c : Int} (h : b ≤ a ∧ a ≤ c) : spec_l00In.f a b c = some true := by
  unfold spec_l00In.f; rw [if_pos h.1]; simp [h.2]
theorem in_false {a b c : Int} (h : ¬ (b ≤ a ∧ a ≤ c)) : spec_l00In.f a b c = some false := by
  unfold spec_l00In.f
  split
  · simp; omega
  · rfl
theorem row_at {w : World} {A : Option Addr} {n : Nat} {es : List (List Int)} (h : Kd.C (Kd.slice 2 (Kd.int .i64)) w A n es) (i : Nat) (hi : i < n) :
    ∃ ad B c, A = some ad ∧ w.cell? (ad.add i) = some (.slice B (es.getD i []).length c) ∧ (es.getD i []).length ≤ c ∧ Kd.C (Kd.int .i64) w B (es.getD i []).length (es.getD i []) := by
  obtain ⟨ad, cs, e, _, ⟨B, c, rfl, hl, hC⟩, hc⟩ := Kd.C_get h [] (i : Int) (by omega) (by omega)
  have := hc 0 _ rfl
  simp only [Int.toNat_natCast] at this hl hC
  refine ⟨ad, B, c, e, ?_, hl, hC⟩
  have this := this.trans (congrArg some (show Value.slice B _ c = _ from rfl))
  rw [show i * (Kd.slice 2 (Kd.int .i64)).sz = i from Nat.mul_one i] at this
  simpa using this
theorem int_at {w : World} {A : Option Addr} {n : Nat} {xs : List Int} (h : Kd.C (Kd.int .i64) w A n xs) (i : Nat) (hi : i < n) : ∃ ad, A = some ad ∧ w.cell? (ad.add i) = some (.int .i64 (xs.getD i 0)) := by
  obtain ⟨ad, e, hc⟩ := Kd.at_int h (i : Int) (by omega) (by omega)
  exact ⟨ad, e, by simpa [rd] using hc⟩
theorem bad_row {ts : List Int} {es : List (List Int)} (i : Nat) (h : i < es.length) (h2 : okRowB ts.length (es.getD i []) = false) : okTB ts es = false := by
  cases hq : okTB ts es with
  | false => rfl
  | true =>
    simp only [okTB, Bool.and_eq_true, List.all_eq_true] at hq
    have := hq.1.1.2 (es.getD i []) (by rw [List.getD_eq_getElem?_getD, List.getElem?_eq_getElem h]; exact List.getElem_mem h)
    rw [h2] at this; cases this
theorem bad_num {ts : List Int} {es : List (List Int)} (i : Nat) (h : i < ts.length) (h2 : ¬ (0 ≤ ts.getD i 0 ∧ ts.getD i 0 ≤ 1000000)) : okTB ts es = false := by
  cases hq : okTB ts es with
  | false => rfl
  | true =>
    simp only [okTB, Bool.and_eq_true, List.all_eq_true, decide_eq_true_eq] at hq
    exact absurd (hq.1.1.1.2 (ts.getD i 0) (by rw [List.getD_eq_getElem?_getD, List.getElem?_eq_getElem h]; exact List.getElem_mem h)) h2
theorem all_step {p : Nat → Prop} {i : Nat} (h : ∀ j < i, p j) (h2 : p i) : ∀ j < i + 1, p j := by
  intro j hj
  rcases Nat.lt_succ_iff_lt_or_eq.mp hj with h3 | h3
  · exact h j h3
  · rw [h3]; exact h2
theorem row_good {n : Nat} {row : List Int} (h : row.length = n) (h2 : ∀ j < row.length, -1000 ≤ row.getD j 0 ∧ row.getD j 0 ≤ 1000) : okRowB n row = true := by
  simp only [okRowB, Bool.and_eq_true, List.all_eq_true, decide_eq_true_eq]
  refine ⟨h, fun x hx => ?_⟩
  obtain ⟨j, hj, rfl⟩ := List.getElem_of_mem hx
  have := h2 j hj
  rwa [List.getD_eq_getElem?_getD, List.getElem?_eq_getElem hj] at this
theorem okT_end {ts : List Int} {es : List (List Int)} (hl : es.length = ts.length) (h : ∀ j < ts.length, (0 ≤ ts.getD j 0 ∧ ts.getD j 0 ≤ 1000000) ∧ okRowB ts.length (es.getD j []) = true) : okTB ts es = (decide (1 ≤ ts.length) && decide (ts.length ≤ 4)) := by
  have h1 : ts.all (fun x => decide (0 ≤ x) && decide (x ≤ 1000000)) = true := by
    simp only [Bool.and_eq_true, List.all_eq_true, decide_eq_true_eq]
    intro x hx
    obtain ⟨j, hj, rfl⟩ := List.getElem_of_mem hx
    have := (h j hj).1
    rwa [List.getD_eq_getElem?_getD, List.getElem?_eq_getElem hj] at this
  have h2 : es.all (okRowB ts.length) = true := by
    simp only [List.all_eq_true]
    intro x hx
    obtain ⟨j, hj, rfl⟩ := List.getElem_of_mem hx
    have := (h j (by omega)).2
    rwa [List.getD_eq_getElem?_getD, List.getElem?_eq_getElem hj] at this
  simp [okTB, hl, h1, h2]
theorem row_bad {n : Nat} {row : List Int} (i : Nat) (h : i < row.length) (h2 : ¬ (-1000 ≤ row.getD i 0 ∧ row.getD i 0 ≤ 1000)) : okRowB n row = false := by
  cases hq : okRowB n row with
  | false => rfl
  | true =>
    simp only [okRowB, Bool.and_eq_true, List.all_eq_true, decide_eq_true_eq] at hq
    exact absurd (hq.2 (row.getD i 0) (by rw [List.getD_eq_getElem?_getD, List.getElem?_eq_getElem h]; exact List.getElem_mem h)) h2
set_option maxHeartbeats 8000000 in
set_option maxRecDepth 100000 in
theorem l12Ok_calls (g : Nat) (A0 : Option Addr) (c0 : Nat) (ts : List Int) (A1 : Option Addr) (c1 : Nat) (es : List (List Int)) (w : World) (b0 : w.cell? ⟨g, 0, none⟩ = some (.slice A0 ts.length c0)) (b1 : w.cell? ⟨g, 1, none⟩ = some (.slice A1 es.length c1))
    (h0 : Kd.C (Kd.int .i64) w A0 ts.length ts) (h1 : Kd.C (Kd.slice 2 (Kd.int .i64)) w A1 es.length es) :
    Calls Try.prog 60 #[.pointer (some ⟨g, 0, none⟩)] w fun e w' => e = .returned (.bool (okTB ts es)) ∧ Drawn0 w w' := by
  have hm : ts.length ≤ 9223372036854775807 := h0.2.1
  have hm1 : es.length ≤ 9223372036854775807 := h1.2.1
  by_cases hlen : es.length = ts.length
  · have H0 := Aside0.mk h0
    have H1 := Aside0.mk h1
    clear h0 h1
    go_enter Try.func60, Try.ntmps60
    have hne : ((es.length : Int) != (ts.length : Int)) = false := by simp [hlen]
    have hnn : (es.length != ts.length) = false := by simp [hlen]
    go_wp2
    go_loopw [4] (fun v4 wr => ∃ (i : Nat) (n : Nat), v4 = .int .i64 (i : Int) ∧ i ≤ ts.length ∧ (∀ j < i, (0 ≤ ts.getD j 0 ∧ ts.getD j 0 ≤ 1000000) ∧ okRowB ts.length (es.getD j []) = true) ∧ wr = w.drewN n) (fun v4 _ => (ts.length : Int).toNat - (intOf v4).toNat)
    case atStart => exact ⟨0, 0, rfl, by omega, by intro j hj; omega, rfl⟩
    case round =>
      obtain ⟨i, n, rfl, hi, hok, rfl⟩ := hrel
      by_cases hlt : i < ts.length
      · have hltb : decide ((i : Int) < (ts.length : Int)) = true := decide_eq_true (by omega)
        obtain ⟨ad, e0, hc0⟩ := int_at H0.out i hlt
        subst e0
        obtain ⟨ad1, B, c, e1, hc1, hl1, hC1⟩ := row_at H1.out i (by omega)
        subst e1
        obtain ⟨x, hx⟩ : ∃ x, ts.getD i 0 = x := ⟨_, rfl⟩
        obtain ⟨row, hrow⟩ : ∃ row, es.getD i [] = row := ⟨_, rfl⟩
        rw [hx] at hc0
        rw [hrow] at hc1 hl1 hC1
        by_cases hin : 0 ≤ x ∧ x ≤ 1000000
        · have hin0 : decide (x ≥ 0) = true := decide_eq_true hin.1
          have hin1 : decide (x ≤ 1000000) = true := decide_eq_true hin.2
          by_cases hrl : row.length = ts.length
          · have hrb : ((row.length : Int) != (ts.length : Int)) = false := by simp [hrl]
            have hrc : (row.length != ts.length) = false := by simp [hrl]
            have HC1 := Aside0.mk hC1
            clear hC1
            go_wp2
            go_loopw [5] (fun v5 wr => ∃ (k : Nat) (m : Nat), v5 = .int .i64 (k : Int) ∧ k ≤ ts.length ∧ (∀ j < k, -1000 ≤ row.getD j 0 ∧ row.getD j 0 ≤ 1000) ∧ wr = w.drewN m) (fun v5 _ => (ts.length : Int).toNat - (intOf v5).toNat)
            case atStart => exact ⟨0, n, rfl, by omega, by intro j hj; omega, rfl⟩
            case round =>
              obtain ⟨k, m, rfl, hk, hrk, rfl⟩ := hrel
              by_cases hkt : k < ts.length
              · have hktb : decide ((k : Int) < (ts.length : Int)) = true := decide_eq_true (by omega)
                obtain ⟨ad2, e2, hc2⟩ := int_at HC1.out k (by omega)
                subst e2
                obtain ⟨y, hy⟩ : ∃ y, row.getD k 0 = y := ⟨_, rfl⟩
                rw [hy] at hc2
                by_cases hyn : -1000 ≤ y ∧ y ≤ 1000
                · have hyn0 : decide (y ≥ -1000) = true := decide_eq_true hyn.1
                  have hyn1 : decide (y ≤ 1000) = true := decide_eq_true hyn.2
                  go_wp2
                  go_roundw
                  case rel => exact ⟨k + 1, _, by simp, by omega, all_step hrk (by rw [hy]; exact hyn), rfl⟩
                  case measure => simp [intOf]; omega
                · have e : okTB ts es = false := by
                    apply bad_row i (by omega) (by rw [hrow]; exact row_bad k (by omega) (by rw [hy]; exact hyn))
                  have hyo : (decide (y ≥ -1000) && decide (y ≤ 1000)) = false := by simpa using hyn
                  by_cases hy0 : y ≥ -1000
                  · have hyn0 : decide (y ≥ -1000) = true := decide_eq_true hy0
                    have hyn1 : decide (y ≤ 1000) = false := decide_eq_false (by omega)
                    go_wp2
                    go_ret
                    exact ⟨by first | rfl | (rw [e]; done) | (rw [e]; rfl) | (rw [e, h1c]; rfl) | (rw [e, h1c, h4c]; rfl) | (rw [e, h1c, h4c]; simp; done), _, rfl⟩
                  · have hyn0 : decide (y ≥ -1000) = false := decide_eq_false hy0
                    go_wp2
                    go_ret
                    exact ⟨by first | rfl | (rw [e]; done) | (rw [e]; rfl) | (rw [e, h1c]; rfl) | (rw [e, h1c, h4c]; rfl) | (rw [e, h1c, h4c]; simp; done), _, rfl⟩
              · have hktb : decide ((k : Int) < (ts.length : Int)) = false := decide_eq_false (by omega)
                go_wp2
                go_roundw
                case rel => exact ⟨i + 1, _, by simp, by omega, all_step hok ⟨by rw [hx]; exact hin, by rw [hrow]; exact row_good hrl (fun j hj => hrk j (by omega))⟩, rfl⟩
                case measure => simp [intOf]; omega
          · have hrb : ((row.length : Int) != (ts.length : Int)) = true := by simp; omega
            have hrc : (row.length != ts.length) = true := by simp [hrl]
            have e : okTB ts es = false := by
              apply bad_row i (by omega) (by rw [hrow]; simp [okRowB, hrl])
            go_wp2
            go_ret
            exact ⟨by first | rfl | (rw [e]; done) | (rw [e]; rfl) | (rw [e, h1c]; rfl) | (rw [e, h1c, h4c]; rfl) | (rw [e, h1c, h4c]; simp; done), _, rfl⟩
        · have e : okTB ts es = false := bad_num i (by omega) (by rw [hx]; exact hin)
          by_cases hx0 : x ≥ 0
          · have hin0 : decide (x ≥ 0) = true := decide_eq_true hx0
            have hin1 : decide (x ≤ 1000000) = false := decide_eq_false (by omega)
            go_wp2
            go_ret
            exact ⟨by first | rfl | (rw [e]; done) | (rw [e]; rfl) | (rw [e, h1c]; rfl) | (rw [e, h1c, h4c]; rfl) | (rw [e, h1c, h4c]; simp; done), _, rfl⟩
          · have hin0 : decide (x ≥ 0) = false := decide_eq_false hx0
            go_wp2
            go_ret
            exact ⟨by first | rfl | (rw [e]; done) | (rw [e]; rfl) | (rw [e, h1c]; rfl) | (rw [e, h1c, h4c]; rfl) | (rw [e, h1c, h4c]; simp; done), _, rfl⟩
      · have hltb : decide ((i : Int) < (ts.length : Int)) = false := decide_eq_false (by omega)
        have e : okTB ts es = (decide (1 ≤ ts.length) && decide (ts.length ≤ 4)) := okT_end hlen (fun j hj => hok j (by omega))
        by_cases h1 : (ts.length : Int) ≥ 1
        · have h1b : decide ((ts.length : Int) ≥ 1) = true := decide_eq_true h1
          have h1c : decide (1 ≤ ts.length) = true := decide_eq_true (by omega)
          have h4c : decide (ts.length ≤ 4) = decide ((ts.length : Int) ≤ 4) := by simp; omega
          go_wp2
          go_ret
          exact ⟨by first | rfl | (rw [e]; done) | (rw [e]; rfl) | (rw [e, h1c]; rfl) | (rw [e, h1c, h4c]; rfl) | (rw [e, h1c, h4c]; simp; done), _, rfl⟩
        · have h1b : decide ((ts.length : Int) ≥ 1) = false := decide_eq_false h1
          have h1c : decide (1 ≤ ts.length) = false := decide_eq_false (by omega)
          go_wp2
          go_ret
          exact ⟨by first | rfl | (rw [e]; done) | (rw [e]; rfl) | (rw [e, h1c]; rfl) | (rw [e, h1c, h4c]; rfl) | (rw [e, h1c, h4c]; simp; done), _, rfl⟩
  · have e : okTB ts es = false := by simp [okTB, hlen]
    have hne : ((es.length : Int) != (ts.length : Int)) = true := by simp; omega
    have hnn : (es.length != ts.length) = true := by simp [hlen]
    go_enter Try.func60, Try.ntmps60
    go_wp2
    repeat (go_quiet (fail); try go_wp2)
    go_ret
    exact ⟨by first | rfl | (rw [e]; done) | (rw [e]; rfl) | (rw [e, h1c]; rfl) | (rw [e, h1c, h4c]; rfl) | (rw [e, h1c, h4c]; simp; done), by repeat (first | exact Drawn0.refl _ | apply Drawn0.step)⟩
def codeT (ts : List Int) (es : List (List Int)) (tn : List Int) : Int := if okTB ts es = true then (if (tn.all (fun x => decide (-6 ≤ x) && decide (x ≤ 6)) && decide (tn.length = ts.length)) = true then 0 else 2) else 1
theorem codeT_bad {ts : List Int} {es : List (List Int)} {tn : List Int} (h0 : okTB ts es = true) (i : Nat) (h : i < tn.length) (h2 : ¬ (-6 ≤ tn.getD i 0 ∧ tn.getD i 0 ≤ 6)) : codeT ts es tn = 2 := by
  unfold codeT
  rw [if_pos h0, if_neg]
  intro hq
  simp only [Bool.and_eq_true, List.all_eq_true, decide_eq_true_eq] at hq
  exact absurd (hq.1 (tn.getD i 0) (by rw [List.getD_eq_getElem?_getD, List.getElem?_eq_getElem h]; exact List.getElem_mem h)) h2
theorem codeT_end {ts : List Int} {es : List (List Int)} {tn : List Int} (h0 : okTB ts es = true) (h : ∀ j < tn.length, -6 ≤ tn.getD j 0 ∧ tn.getD j 0 ≤ 6) : codeT ts es tn = if tn.length = ts.length then 0 else 2 := by
  have h1 : tn.all (fun x => decide (-6 ≤ x) && decide (x ≤ 6)) = true := by
    simp only [Bool.and_eq_true, List.all_eq_true, decide_eq_true_eq]
    intro x hx
    obtain ⟨j, hj, rfl⟩ := List.getElem_of_mem hx
    have := h j hj
    rwa [List.getD_eq_getElem?_getD, List.getElem?_eq_getElem hj] at this
  unfold codeT
  rw [if_pos h0, h1]
  simp
set_option maxHeartbeats 8000000 in
set_option maxRecDepth 100000 in
theorem l12Code_calls (g : Nat) (A0 : Option Addr) (c0 : Nat) (ts : List Int) (A1 : Option Addr) (c1 : Nat) (es : List (List Int)) (A2 : Option Addr) (c2 : Nat) (tn : List Int) (w : World) (b0 : w.cell? ⟨g, 0, none⟩ = some (.slice A0 ts.length c0)) (b1 : w.cell? ⟨g, 1, none⟩ = some (.slice A1 es.length c1))
    (h0 : Kd.C (Kd.int .i64) w A0 ts.length ts) (h1 : Kd.C (Kd.slice 2 (Kd.int .i64)) w A1 es.length es) (h2 : Kd.C (Kd.int .i64) w A2 tn.length tn) :
    Calls Try.prog 66 #[.pointer (some ⟨g, 0, none⟩), .slice A2 tn.length c2] w fun e w' => e = .returned (.int .i64 (codeT ts es tn)) ∧ Drawn0 w w' := by
  have hm : ts.length ≤ 9223372036854775807 := h0.2.1
  have hm2 : tn.length ≤ 9223372036854775807 := h2.2.1
  have H0 := Aside0.mk h0
  have H1 := Aside0.mk h1
  have H2 := Aside0.mk h2
  clear h0 h1 h2
  cases hv : okTB ts es with
  | false =>
    have e : codeT ts es tn = 1 := by simp [codeT, hv]
    go_enter Try.func66, Try.ntmps66
    go_wp2_with (go_at_call 60; refine (l12Ok_calls g A0 c0 ts A1 c1 es _ b0 b1 H0.out H1.out).mono ?_; rintro e w1 ⟨rfl, nd, rfl⟩; simp only [hv])
    go_ret
    exact ⟨by first | rfl | (rw [e]; rfl), _, rfl⟩
  | true =>
    go_enter Try.func66, Try.ntmps66
    go_wp2_with (go_at_call 60; refine (l12Ok_calls g A0 c0 ts A1 c1 es _ b0 b1 H0.out H1.out).mono ?_; rintro e w1 ⟨rfl, nd, rfl⟩; simp only [hv])
    go_loopw [5] (fun v5 wr => ∃ (i : Nat) (n : Nat), v5 = .int .i64 (i : Int) ∧ i ≤ tn.length ∧ (∀ j < i, -6 ≤ tn.getD j 0 ∧ tn.getD j 0 ≤ 6) ∧ wr = w.drewN n) (fun v5 _ => (tn.length : Int).toNat - (intOf v5).toNat)
    case atStart => exact ⟨0, nd, rfl, by omega, by intro j hj; omega, rfl⟩
    case round =>
      obtain ⟨i, n, rfl, hi, hok, rfl⟩ := hrel
      by_cases hlt : i < tn.length
      · have hltb : decide ((i : Int) < (tn.length : Int)) = true := decide_eq_true (by omega)
        obtain ⟨ad, e0, hc0⟩ := int_at H2.out i hlt
        subst e0
        obtain ⟨x, hx⟩ : ∃ x, tn.getD i 0 = x := ⟨_, rfl⟩
        rw [hx] at hc0
        by_cases hin : -6 ≤ x ∧ x ≤ 6
        · have hin0 : decide (x ≥ -6) = true := decide_eq_true hin.1
          have hin1 : decide (x ≤ 6) = true := decide_eq_true hin.2
          go_wp2
          go_roundw
          case rel => exact ⟨i + 1, _, by simp, by omega, all_step hok (by rw [hx]; exact hin), rfl⟩
          case measure => simp [intOf]; omega
        · have e : codeT ts es tn = 2 := codeT_bad hv i hlt (by rw [hx]; exact hin)
          by_cases hx0 : x ≥ -6
          · have hin0 : decide (x ≥ -6) = true := decide_eq_true hx0
            have hin1 : decide (x ≤ 6) = false := decide_eq_false (by omega)
            go_wp2
            go_ret
            exact ⟨by first | rfl | (rw [e]; rfl), _, rfl⟩
          · have hin0 : decide (x ≥ -6) = false := decide_eq_false hx0
            go_wp2
            go_ret
            exact ⟨by first | rfl | (rw [e]; rfl), _, rfl⟩
      · have hltb : decide ((i : Int) < (tn.length : Int)) = false := decide_eq_false (by omega)
        have e := codeT_end hv (fun j hj => hok j (by omega))
        by_cases hl : tn.length = ts.length
        · rw [if_pos hl] at e
          have hb : ((tn.length : Int) != (ts.length : Int)) = false := by simp [hl]
          have hb2 : (tn.length != ts.length) = false := by simp [hl]
          go_wp2
          go_ret
          exact ⟨by first | rfl | (rw [e]; rfl), _, rfl⟩
        · rw [if_neg hl] at e
          have hb : ((tn.length : Int) != (ts.length : Int)) = true := by simp; omega
          have hb2 : (tn.length != ts.length) = true := by simp [hl]
          go_wp2
          go_ret
          exact ⟨by first | rfl | (rw [e]; rfl), _, rfl⟩
def spec_CountTurns.f (k : Nat) (l0_0 : List Int) (l0_1 : List (List Int)) (l1 : List Int) : Option (Int × Int) := if codeT l0_0 l0_1 l1 = 0 then ((spec_l12Count.f k l1).bind fun t => (some (t, 0))) else (some (0, codeT l0_0 l0_1 l1))
theorem spec_CountTurns.mono : ∀ a0 a1 a2 k, LeO (spec_CountTurns.f k a0 a1 a2) (spec_CountTurns.f (k + 1) a0 a1 a2) := by
  intro a0 a1 a2 k
  unfold spec_CountTurns.f
  exact LeO.ite (LeO.bind (spec_l12Count.mono _ _) (fun _ => LeO.refl _)) (LeO.refl _)
set_option maxHeartbeats 8000000 in
set_option maxRecDepth 100000 in
theorem spec_CountTurns.calls (k : Nat) (A0_0 : Option Addr) (c0_0 : Nat) (l0_0 : List Int) (A0_1 : Option Addr) (c0_1 : Nat) (l0_1 : List (List Int)) (A1 : Option Addr) (c1 : Nat) (l1 : List Int) (r1 : Int) (r2 : Int) (w : World) (hr0_0 : Kd.C (Kd.int .i64) w A0_0 l0_0.length l0_0) (hc0_0 : l0_0.length ≤ c0_0) (hr0_1 : Kd.C (Kd.slice 2 (Kd.int .i64)) w A0_1 l0_1.length l0_1) (hc0_1 : l0_1.length ≤ c0_1) (hr1 : Kd.C (Kd.int .i64) w A1 l1.length l1) (hc1 : l1.length ≤ c1) (h : spec_CountTurns.f k l0_0 l0_1 l1 = some (r1, r2)) :
    Calls Try.prog 31 #[.agg #[.slice A0_0 l0_0.length c0_0, .slice A0_1 l0_1.length c0_1], .slice A1 l1.length c1] w fun e w' => e = .returned (.tuple #[.int .i64 r1, .int .i64 r2]) ∧ Below w.heap.size w w' := by
  have HR0 := Aside0.mk hr0_0
  have HR1 := Aside0.mk hr0_1
  have HR2 := Aside0.mk hr1
  clear hr0_0 hr0_1 hr1
  unfold spec_CountTurns.f at h
  by_cases hz : codeT l0_0 l0_1 l1 = 0
  · rw [if_pos hz] at h
    obtain ⟨t, ht, h⟩ := Option.bind_eq_some_iff.mp h
    simp at h
    obtain ⟨rfl, rfl⟩ := h
    have HT := Aside0.mk ht
    clear ht
    go_enter Try.func31, Try.ntmps31
    go_wp2_with (first | (go_at_call 66; refine (l12Code_calls w.heap.size A0_0 c0_0 l0_0 A0_1 c0_1 l0_1 A1 c1 l1 _ (by go_simp) (by go_simp) (Kd.C_alloc HR0.out _) (Kd.C_alloc HR1.out _) (Kd.C_alloc HR2.out _)).mono ?_; rintro e w1 ⟨rfl, nd, rfl⟩; simp only [hz]) | (go_at_call 67; refine (spec_l12Count.calls k _ _ l1 t _ ?_ hc1 HT.out).mono ?_; (repeat (first | exact HR2.out | (with_reducible refine Kd.C_drewN ?_ _) | (with_reducible refine Kd.C_alloc ?_ _))); rintro e w1 ⟨rfl, nd2, rfl⟩))
    go_ret2
    exact ⟨rfl, by repeat (first | exact Below.refl _ _ | apply below_alloc | apply pw_below_drewN | apply below_drew1)⟩
  · rw [if_neg hz] at h
    simp at h
    obtain ⟨rfl, rfl⟩ := h
    have hzb : (codeT l0_0 l0_1 l1 != 0) = true := by simp [hz]
    have hzd : decide (codeT l0_0 l0_1 l1 = 0) = false := by simp [hz]
    go_enter Try.func31, Try.ntmps31
    go_wp2_with (first | (go_at_call 66; refine (l12Code_calls w.heap.size A0_0 c0_0 l0_0 A0_1 c0_1 l0_1 A1 c1 l1 _ (by go_simp) (by go_simp) (Kd.C_alloc HR0.out _) (Kd.C_alloc HR1.out _) (Kd.C_alloc HR2.out _)).mono ?_; rintro e w1 ⟨rfl, nd, rfl⟩))
    go_ret2
    exact ⟨rfl, by repeat (first | exact Below.refl _ _ | apply below_alloc | apply pw_below_drewN | apply below_drew1)⟩

end Go.Proofs.Ythfpaldhdohnkaa.PFnExactCountTurns
