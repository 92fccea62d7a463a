import Derived.Test.YthfpaldhdohnkaaHTune0
namespace Go.Proofs.Ythfpaldhdohnkaa.PTune
noncomputable section
open Go.RowKit Go.Proofs.YthfpaldhdohnkaaW.PrintWords Go.Proofs.YthfpaldhdohnkaaW.PrintLast Go.Proofs.YthfpaldhdohnkaaW.PrintMore
attribute [local go_sem] max2_int min2_int max_two min_two max_three min_three max_four min_four   -- for this text's walks alone
set_option linter.unusedVariables false
set_option linter.unusedSimpArgs false
set_option maxHeartbeats 8000000
set_option maxRecDepth 100000

def laws_a2Long.f (l0 : List Int) (l1 : List Int) : Option (Bool) := if (l0.length : Int) > 3000 then (some true) else (some (decide ((l1.length : Int) > 3000)))
theorem laws_a2Long.calls (A0 : Option Addr) (c0 : Nat) (l0 : List Int) (A1 : Option Addr) (c1 : Nat) (l1 : List Int) (r : Bool) (w : World) (hr0 : Kd.C (Kd.int .u8) w A0 l0.length l0) (hc0 : l0.length ≤ c0) (hr1 : Kd.C (Kd.int .u8) w A1 l1.length l1) (hc1 : l1.length ≤ c1) (h : laws_a2Long.f l0 l1 = some r) :
  Calls Try.prog 14 #[.slice A0 l0.length c0, .slice A1 l1.length c1] w fun e w' => e = .returned (.bool r) ∧ Drawn0 w w' := by
 have HR0 := zQ hr0
 have HC0 := zQ hc0
 clear hr0 hc0
 have HR1 := zQ hr1
 have HC1 := zQ hc1
 clear hr1 hc1
 have H := h; unfold laws_a2Long.f at H
 clear h
 by_cases c3 : (l0.length : Int) > 3000
 ·rw [if_pos c3] at H
  have c3b0 := decide_eq_true c3; have c3b1 : decide (3000 < l0.length) = true := decide_eq_true (by omega); clear c3; obtain rfl := Option.some.inj H
  go_enter Try.func14, Try.ntmps14
  go_wp2
  go_ret
  exact ⟨zF, by repeat (first | exact Drawn0.refl _ | apply Drawn0.step)⟩
 ·rw [if_neg c3] at H
  have c3b0 := decide_eq_false c3; have c3b1 : decide (3000 < l0.length) = false := decide_eq_false (by omega); clear c3; obtain rfl := Option.some.inj H
  go_enter Try.func14, Try.ntmps14
  go_wp2
  go_ret
  exact ⟨zF, by repeat (first | exact Drawn0.refl _ | apply Drawn0.step)⟩

def IsS78 (w0 W : World) (g : Nat) (f0 : List Int) (f1 : Int) (f2 : Int) : Prop := ∃ A0 c0, W.heap[g]? = some (.cells #[.slice A0 f0.length c0, .int .i64 f1, .int .u64 f2] 78 (0, 0)) ∧ w0.heap.size ≤ g ∧ Kd.C (Kd.int .u8) w0 A0 f0.length f0
theorem IsS78.grown {w0 W : World} {g : Nat} {f0 : List Int} {f1 : Int} {f2 : Int} {W1 : World} {row : Option Nat} (h : IsS78 w0 W g f0 f1 f2) (hw : W.grownBy W1 row) (hne : some g ≠ row) : IsS78 w0 W1 g f0 f1 f2 := by
 obtain ⟨A0, c0, hb, hg, hr0⟩ := h
 exact ⟨A0, c0, blk_grown hb hw hne, hg, hr0⟩
theorem IsS78.own_neN {w0 W : World} {g : Nat} {f0 : List Int} {f1 : Int} {f2 : Int} {α : Type} {d : Kd α} {e : Nat} {base : Nat} {ok : Nat → Prop} {v : Value} {xs : List α} (h : IsS78 w0 W g f0 f1 f2) (ho : Kd.N d e W base ok v xs) (ht : e ≠ 78) : some g ≠ v.ownBlock := by
 obtain ⟨A0, c0, hb, hg, hr0⟩ := h
 exact Kd.N_ne ho hb ht
theorem IsS78.fresh {w0 W : World} {g : Nat} {f0 : List Int} {f1 : Int} {f2 : Int} (h : IsS78 w0 W g f0 f1 f2) : ∀ k, W.heap.size ≤ k → k ≠ g := by
 obtain ⟨A0, c0, hb, hg, hr0⟩ := h
 exact Kd.freshB hb
theorem IsS78.kept {w0 W : World} {g : Nat} {f0 : List Int} {f1 : Int} {f2 : Int} {W1 : World} {S : Nat → Prop} (h : IsS78 w0 W g f0 f1 f2) (hk : Kept W W1 S) (hne : ¬ S g) : IsS78 w0 W1 g f0 f1 f2 := by
 obtain ⟨A0, c0, hb, hg, hr0⟩ := h
 exact ⟨A0, c0, blk_kept hb hk hne, hg, hr0⟩
theorem IsS78.below {w0 W : World} {g : Nat} {f0 : List Int} {f1 : Int} {f2 : Int} {W1 : World} (h : IsS78 w0 W g f0 f1 f2) (hw : Below W.heap.size W W1) : IsS78 w0 W1 g f0 f1 f2 := h.grown (grown_of_below hw none) (by simp)
theorem IsS78.alloc {w0 W : World} {g : Nat} {f0 : List Int} {f1 : Int} {f2 : Int} (h : IsS78 w0 W g f0 f1 f2) (o : Obj) : IsS78 w0 (W.alloc o) g f0 f1 f2 := h.below (below_alloc (Below.refl _ _) o)
theorem IsS78.drewN {w0 W : World} {g : Nat} {f0 : List Int} {f1 : Int} {f2 : Int} (h : IsS78 w0 W g f0 f1 f2) (m : Nat) : IsS78 w0 (W.drewN m) g f0 f1 f2 := h
theorem IsS78.drew {w0 W : World} {g : Nat} {f0 : List Int} {f1 : Int} {f2 : Int} (h : IsS78 w0 W g f0 f1 f2) : IsS78 w0 W.drew g f0 f1 f2 := h
theorem IsS78.at_ {w0 W : World} {g : Nat} {f0 : List Int} {f1 : Int} {f2 : Int} {w' : World} {m : Nat} (hq : W.drewN m = w') (h : IsS78 w0 W g f0 f1 f2) : IsS78 w0 w' g f0 f1 f2 := by subst hq; exact IsS78.drewN h m
theorem IsS78.apart {w0 W : World} {g : Nat} {f0 : List Int} {f1 : Int} {f2 : Int} {α : Type} {d : Kd α} {e : Nat} {base : Nat} {ok : Nat → Prop} {v : Value} {xs : List α} (h : IsS78 w0 W g f0 f1 f2) (ho : d.R e W base ok v xs) (ht : ∀ q, q ∈ e :: d.E → q ≠ 78) : d.R e W base (fun k => ok k ∧ k ≠ g) v xs := by
 obtain ⟨A0, c0, hb, hg, hr0⟩ := h
 exact Kd.R_types ho hb ht
theorem IsS78.own_ne {w0 W : World} {g : Nat} {f0 : List Int} {f1 : Int} {f2 : Int} {α : Type} {d : Kd α} {e : Nat} {base : Nat} {ok : Nat → Prop} {v : Value} {xs : List α} (h : IsS78 w0 W g f0 f1 f2) (ho : d.R e W base ok v xs) (ht : e ≠ 78) : some g ≠ v.ownBlock := by
 obtain ⟨A0, c0, hb, hg, hr0⟩ := h
 exact Kd.R_ne ho hb ht
theorem IsS78.apartQ {w0 W : World} {g : Nat} {f0 : List Int} {f1 : Int} {f2 : Int} {α : Type} {d : Kd α} {e : Nat} {base : Nat} {ok : Nat → Prop} {v : Value} {xs : List α} (h : IsS78 w0 W g f0 f1 f2) (ho : d.Q e W base ok v xs) (ht : ∀ q, q ∈ e :: d.E → q ≠ 78) : d.Q e W base (fun k => ok k ∧ k ≠ g) v xs := by
 obtain ⟨A0, c0, hb, hg, hr0⟩ := h
 exact Kd.Q_types ho hb ht
theorem IsS78.own_neQ {w0 W : World} {g : Nat} {f0 : List Int} {f1 : Int} {f2 : Int} {α : Type} {d : Kd α} {e : Nat} {base : Nat} {ok : Nat → Prop} {v : Value} {xs : List α} (h : IsS78 w0 W g f0 f1 f2) (ho : d.Q e W base ok v xs) (ht : e ≠ 78) : some g ≠ v.ownBlock := by
 obtain ⟨A0, c0, hb, hg, hr0⟩ := h
 exact Kd.Q_ne ho hb ht
theorem IsS78.apartS {w0 W : World} {g : Nat} {f0 : List Int} {f1 : Int} {f2 : Int} {α : Type} {d : Kd α} {e : Nat} {base : Nat} {ok : Nat → Prop} {v : Value} {xs : List α} (h : IsS78 w0 W g f0 f1 f2) (ho : d.S e W base ok v xs) (ht : ∀ q, q ∈ e :: d.E → q ≠ 78) : d.S e W base (fun k => ok k ∧ k ≠ g) v xs := by
 obtain ⟨A0, c0, hb, hg, hr0⟩ := h
 exact Kd.S_types ho hb ht
theorem IsS78.own_neS {w0 W : World} {g : Nat} {f0 : List Int} {f1 : Int} {f2 : Int} {α : Type} {d : Kd α} {e : Nat} {base : Nat} {ok : Nat → Prop} {v : Value} {xs : List α} (h : IsS78 w0 W g f0 f1 f2) (ho : d.S e W base ok v xs) (ht : e ≠ 78) : some g ≠ v.ownBlock := by
 obtain ⟨A0, c0, hb, hg, hr0⟩ := h
 exact Kd.S_ne ho hb ht
theorem IsS78.lt {w0 W : World} {g : Nat} {f0 : List Int} {f1 : Int} {f2 : Int} (h : IsS78 w0 W g f0 f1 f2) : g < W.heap.size := by
 obtain ⟨A0, c0, hb, hg, hr0⟩ := h
 exact blk_lt hb
theorem IsS78.ge {w0 W : World} {g : Nat} {f0 : List Int} {f1 : Int} {f2 : Int} (h : IsS78 w0 W g f0 f1 f2) : w0.heap.size ≤ g := by
 obtain ⟨A0, c0, hb, hg, hr0⟩ := h
 exact hg
theorem IsS78.ne_blk {w0 W : World} {g : Nat} {f0 : List Int} {f1 : Int} {f2 : Int} {a : Nat} {cs : Array Value} {t : TypeId} {fr : Nat × Nat} (h : IsS78 w0 W g f0 f1 f2) (hb2 : W.heap[a]? = some (.cells cs t fr)) (ht : t ≠ 78) : g ≠ a := by
 obtain ⟨A0, c0, hb, hg, hr0⟩ := h
 rintro rfl
 rw [hb] at hb2
 injection hb2 with hb2
 injection hb2 with _ ht2
 exact ht ht2.symm
theorem IsS78.far {w0 W : World} {g : Nat} {f0 : List Int} {f1 : Int} {f2 : Int} {p : Addr} (h : IsS78 w0 W g f0 f1 f2) (hne : g ≠ p.block) (u : Value) : IsS78 w0 (W.setCell p u) g f0 f1 f2 := by
 obtain ⟨A0, c0, hb, hg, hr0⟩ := h
 exact ⟨A0, c0, blk_far hb hne u, hg, hr0⟩
theorem cellS78_0 {W : World} {g : Nat} {A0 : Option Addr} {c0 : Nat} {f0 : List Int} {f1 : Int} {f2 : Int} (h : W.heap[g]? = some (.cells #[.slice A0 f0.length c0, .int .i64 f1, .int .u64 f2] 78 (0, 0))) : W.cell? ⟨g, 0, none⟩ = some (.slice A0 f0.length c0) := (blk_cell h 0).trans rfl
theorem cellS78_1 {W : World} {g : Nat} {A0 : Option Addr} {c0 : Nat} {f0 : List Int} {f1 : Int} {f2 : Int} (h : W.heap[g]? = some (.cells #[.slice A0 f0.length c0, .int .i64 f1, .int .u64 f2] 78 (0, 0))) : W.cell? ⟨g, 1, none⟩ = some (.int .i64 f1) := (blk_cell h 1).trans rfl
theorem IsS78.set_1 {w0 W : World} {g : Nat} {f0 : List Int} {f1 : Int} {f2 : Int} (h : IsS78 w0 W g f0 f1 f2) (x : Int) : IsS78 w0 (W.setCell ⟨g, 1, none⟩ (.int .i64 x)) g f0 x f2 := by
 obtain ⟨A0, c0, hb, hg, hr0⟩ := h
 exact ⟨A0, c0, by simpa using blk_set hb 1 (.int .i64 x), hg, hr0⟩
theorem cellS78_2 {W : World} {g : Nat} {A0 : Option Addr} {c0 : Nat} {f0 : List Int} {f1 : Int} {f2 : Int} (h : W.heap[g]? = some (.cells #[.slice A0 f0.length c0, .int .i64 f1, .int .u64 f2] 78 (0, 0))) : W.cell? ⟨g, 2, none⟩ = some (.int .u64 f2) := (blk_cell h 2).trans rfl
theorem IsS78.set_2 {w0 W : World} {g : Nat} {f0 : List Int} {f1 : Int} {f2 : Int} (h : IsS78 w0 W g f0 f1 f2) (x : Int) : IsS78 w0 (W.setCell ⟨g, 2, none⟩ (.int .u64 x)) g f0 f1 x := by
 obtain ⟨A0, c0, hb, hg, hr0⟩ := h
 exact ⟨A0, c0, by simpa using blk_set hb 2 (.int .u64 x), hg, hr0⟩
theorem IsS78.new (w0 W : World) (A0 : Option Addr) (c0 : Nat) (f0 : List Int) (f1 : Int) (f2 : Int) (hB : Below w0.heap.size w0 W) (hr0 : Kd.C (Kd.int .u8) w0 A0 f0.length f0) : IsS78 w0 (W.alloc (.cells #[.slice A0 f0.length c0, .int .i64 f1, .int .u64 f2] 78)) W.heap.size f0 f1 f2 := ⟨A0, c0, by simpa using heap_alloc_new W _, hB.size, hr0⟩

def spec_l00From.f (l0 : List Int) : Option (List Int × Int × Int) := some (l0, 0, 0)
theorem spec_l00From.calls (A0 : Option Addr) (c0 : Nat) (l0 : List Int) (r1 : List Int) (r2 : Int) (r3 : Int) (w0 w : World) (hB : Below w0.heap.size w0 w) (hr0 : Kd.C (Kd.int .u8) w0 A0 l0.length l0) (hc0 : l0.length ≤ c0) (h : spec_l00From.f l0 = some (r1, r2, r3)) :
  Calls Try.prog 46 #[.slice A0 l0.length c0] w fun e w' => ∃ g_ : Nat, e = .returned (.pointer (some ⟨g_, 0, none⟩)) ∧ IsS78 w0 w' g_ r1 r2 r3 ∧ Below w0.heap.size w0 w' ∧ Below w.heap.size w w' := by
 have hu78 := Try.underlying78
 have HR0 := zQ hr0
 have HC0 := zQ hc0
 clear hr0 hc0
 have HBW := zQ (Below.refl w.heap.size w)
 have HW0 := zQ hB.size
 have HB := zQ hB
 clear hB
 have H : (some (l0, 0, 0)) = some (r1, r2, r3) := h
 clear h
 simp only [Option.some.injEq, Prod.mk.injEq] at H
 obtain ⟨rfl, rfl, rfl⟩ := H
 go_enter Try.func46, Try.ntmps46
 go_wp2_with (first | ((with_reducible refine zd 5 ?_); refine zbx (N := 5) (cs := #[.slice A0 l0.length c0, .int .i64 0, .int .u64 0]) (t := 78) ?_; intro gb101 hg w2 hbox hb; have BK101 := zQ (hbox); have GW101 := zQ ((by rw [hg]; exact (below_size (by repeat (first | (with_reducible first | exact HBW.out | apply below_alloc | apply pw_below_drewN | apply below_drew1) | exact HBW.out))) : w.heap.size ≤ gb101)); have GE101 := zQ ((Nat.le_trans HW0.out (by rw [hg]; exact (below_size (by repeat (first | (with_reducible first | exact HBW.out | apply below_alloc | apply pw_below_drewN | apply below_drew1) | exact HBW.out))) : w.heap.size ≤ gb101) : w0.heap.size ≤ gb101)); replace HBW := zQ (below_step HBW.out hb); replace HB := zbs HB.out hb; clear hb hbox hg))
 go_ret
 exact ⟨_, rfl, (show IsS78 w0 _ gb101 l0 0 0 from ⟨_, _, zb BK101.out, GE101.out, HR0.out⟩), zB2 HB.out GE101.out, by repeat (first | (with_reducible first | exact HBW.out | apply below_alloc | apply pw_below_drewN | apply below_drew1 | refine below_set ?_ GW101.out) | exact HBW.out)⟩

def spec_l00Src_next.f (s0_0 : List Int) (s0_1 : Int) (s0_2 : Int) : Option (Int × Int × Int) := if s0_1 < (s0_0.length : Int) then (if 0 ≤ s0_1 then (if (wrap64 (s0_1 + 1)) ≤ (s0_0.length : Int) then (some (wrap64 (rd s0_0 s0_1), wrap64 (s0_1 + 1), IntKind.u64.wrap ((IntKind.u64.wrap ((IntKind.u64.wrap (s0_2 * 6364136223846793005)) + (IntKind.u64.wrap (wrap64 (rd s0_0 s0_1))))) + 1442695040888963407))) else (some (wrap64 (Go.bits .and .u64 ((IntKind.u64.wrap ((IntKind.u64.wrap ((IntKind.u64.wrap (s0_2 * 6364136223846793005)) + (IntKind.u64.wrap (wrap64 (rd s0_0 s0_1))))) + 1442695040888963407)) / 1099511627776) 255), wrap64 (s0_1 + 1), IntKind.u64.wrap ((IntKind.u64.wrap ((IntKind.u64.wrap (s0_2 * 6364136223846793005)) + (IntKind.u64.wrap (wrap64 (rd s0_0 s0_1))))) + 1442695040888963407)))) else (none)) else (if (wrap64 (s0_1 + 1)) ≤ (s0_0.length : Int) then (some (0, wrap64 (s0_1 + 1), IntKind.u64.wrap ((IntKind.u64.wrap (IntKind.u64.wrap (s0_2 * 6364136223846793005))) + 1442695040888963407))) else (some (wrap64 (Go.bits .and .u64 ((IntKind.u64.wrap ((IntKind.u64.wrap (IntKind.u64.wrap (s0_2 * 6364136223846793005))) + 1442695040888963407)) / 1099511627776) 255), wrap64 (s0_1 + 1), IntKind.u64.wrap ((IntKind.u64.wrap (IntKind.u64.wrap (s0_2 * 6364136223846793005))) + 1442695040888963407))))
theorem spec_l00Src_next.calls (g : Nat) (s0_0 : List Int) (s0_1 : Int) (s0_2 : Int) (r1 : Int) (r2 : Int) (r3 : Int) (w0 w : World) (hI : IsS78 w0 w g s0_0 s0_1 s0_2) (hB : Below w0.heap.size w0 w) (h : spec_l00Src_next.f s0_0 s0_1 s0_2 = some (r1, r2, r3)) :
  Calls Try.prog 75 #[.pointer (some ⟨g, 0, none⟩)] w fun e w' => e = .returned (.int .i64 r1) ∧ IsS78 w0 w' g s0_0 r2 r3 ∧ Below w0.heap.size w0 w' ∧ KeepBut w w' g none := by
 have HI0 := zQ hI
 have HK := zQ (KeepBut.refl w g none)
 have HL := zQ hB.size
 clear hI
 have HW0 := zQ hB.size
 have HB := zQ hB
 clear hB
 have H := h; unfold spec_l00Src_next.f at H
 clear h
 by_cases c2 : s0_1 < (s0_0.length : Int)
 ·rw [if_pos c2] at H
  have c2b0 := decide_eq_true c2; clear c2
  by_cases c3 : 0 ≤ s0_1
  ·rw [if_pos c3] at H
   have c3b0 := decide_eq_true c3; clear c3
   by_cases c4 : (wrap64 (s0_1 + 1)) ≤ (s0_0.length : Int)
   ·rw [if_pos c4] at H
    have c4b0 := decide_eq_true c4; clear c4
    simp only [Option.some.injEq, Prod.mk.injEq] at H
    obtain ⟨rfl, rfl, rfl⟩ := H; obtain ⟨ASz5_0, cSz5_0, HGz5, hgz5, HSz5_0⟩ := HI0.out; have hcz5_0 := cellS78_0 HGz5; have hcz5_1 := cellS78_1 HGz5; have hcz5_2 := cellS78_2 HGz5; have hfz5_1 := zfz HGz5 1; have hfz5_2 := zfz HGz5 2; clear HGz5 hgz5; have p102 : 0 ≤ (s0_1 : Int) := zD; have q102 : s0_1 < (s0_0.length : Int) := zD; obtain ⟨ad102, e102, hx102_0⟩ := Kd.at_int HSz5_0 s0_1 p102 q102
    cases e102
    replace hx102_0 := pw_cell_below HB.out hx102_0; replace p102 := eq_true p102; replace q102 := eq_true q102
    go_enter Try.func75, Try.ntmps75
    go_wp2
    repeat (go_quiet (fail); try go_wp2)
    go_ret
    exact ⟨zE, by repeat (first | (with_reducible first | exact HI0.out | apply IsS78.alloc | apply IsS78.drewN | apply IsS78.drew | apply IsS78.set_1 | apply IsS78.set_2) | exact HI0.out), by repeat (first | (with_reducible first | exact HB.out | apply below_alloc | apply pw_below_drewN | apply below_drew1 | refine below_set ?_ (IsS78.ge HI0.out)) | exact HB.out), by repeat (first | (with_reducible first | exact HK.out | apply KeepBut.set_ | apply keep_drewN | apply keep_drew | apply keep_alloc) | exact HK.out)⟩
   ·rw [if_neg c4] at H
    have c4b0 := decide_eq_false c4; clear c4
    simp only [Option.some.injEq, Prod.mk.injEq] at H
    obtain ⟨rfl, rfl, rfl⟩ := H; obtain ⟨ASz6_0, cSz6_0, HGz6, hgz6, HSz6_0⟩ := HI0.out; have hcz6_0 := cellS78_0 HGz6; have hcz6_1 := cellS78_1 HGz6; have hcz6_2 := cellS78_2 HGz6; have hfz6_1 := zfz HGz6 1; have hfz6_2 := zfz HGz6 2; clear HGz6 hgz6; have p102 : 0 ≤ (s0_1 : Int) := zD; have q102 : s0_1 < (s0_0.length : Int) := zD; obtain ⟨ad102, e102, hx102_0⟩ := Kd.at_int HSz6_0 s0_1 p102 q102
    cases e102
    replace hx102_0 := pw_cell_below HB.out hx102_0; replace p102 := eq_true p102; replace q102 := eq_true q102
    go_enter Try.func75, Try.ntmps75
    go_wp2
    repeat (go_quiet (fail); try go_wp2)
    go_ret
    exact ⟨zE, by repeat (first | (with_reducible first | exact HI0.out | apply IsS78.alloc | apply IsS78.drewN | apply IsS78.drew | apply IsS78.set_1 | apply IsS78.set_2) | exact HI0.out), by repeat (first | (with_reducible first | exact HB.out | apply below_alloc | apply pw_below_drewN | apply below_drew1 | refine below_set ?_ (IsS78.ge HI0.out)) | exact HB.out), by repeat (first | (with_reducible first | exact HK.out | apply KeepBut.set_ | apply keep_drewN | apply keep_drew | apply keep_alloc) | exact HK.out)⟩
  ·rw [if_neg c3] at H
   exact absurd H (by simp)
 ·rw [if_neg c2] at H
  have c2b0 := decide_eq_false c2; clear c2
  by_cases c7 : (wrap64 (s0_1 + 1)) ≤ (s0_0.length : Int)
  ·rw [if_pos c7] at H
   have c7b0 := decide_eq_true c7; clear c7
   simp only [Option.some.injEq, Prod.mk.injEq] at H
   obtain ⟨rfl, rfl, rfl⟩ := H; obtain ⟨ASz8_0, cSz8_0, HGz8, hgz8, HSz8_0⟩ := HI0.out; have hcz8_0 := cellS78_0 HGz8; have hcz8_1 := cellS78_1 HGz8; have hcz8_2 := cellS78_2 HGz8; have hfz8_1 := zfz HGz8 1; have hfz8_2 := zfz HGz8 2; clear HGz8 hgz8
   go_enter Try.func75, Try.ntmps75
   go_wp2
   repeat (go_quiet (fail); try go_wp2)
   go_ret
   exact ⟨zE, by repeat (first | (with_reducible first | exact HI0.out | apply IsS78.alloc | apply IsS78.drewN | apply IsS78.drew | apply IsS78.set_1 | apply IsS78.set_2) | exact HI0.out), by repeat (first | (with_reducible first | exact HB.out | apply below_alloc | apply pw_below_drewN | apply below_drew1 | refine below_set ?_ (IsS78.ge HI0.out)) | exact HB.out), by repeat (first | (with_reducible first | exact HK.out | apply KeepBut.set_ | apply keep_drewN | apply keep_drew | apply keep_alloc) | exact HK.out)⟩
  ·rw [if_neg c7] at H
   have c7b0 := decide_eq_false c7; clear c7
   simp only [Option.some.injEq, Prod.mk.injEq] at H
   obtain ⟨rfl, rfl, rfl⟩ := H; obtain ⟨ASz9_0, cSz9_0, HGz9, hgz9, HSz9_0⟩ := HI0.out; have hcz9_0 := cellS78_0 HGz9; have hcz9_1 := cellS78_1 HGz9; have hcz9_2 := cellS78_2 HGz9; have hfz9_1 := zfz HGz9 1; have hfz9_2 := zfz HGz9 2; clear HGz9 hgz9
   go_enter Try.func75, Try.ntmps75
   go_wp2
   repeat (go_quiet (fail); try go_wp2)
   go_ret
   exact ⟨zE, by repeat (first | (with_reducible first | exact HI0.out | apply IsS78.alloc | apply IsS78.drewN | apply IsS78.drew | apply IsS78.set_1 | apply IsS78.set_2) | exact HI0.out), by repeat (first | (with_reducible first | exact HB.out | apply below_alloc | apply pw_below_drewN | apply below_drew1 | refine below_set ?_ (IsS78.ge HI0.out)) | exact HB.out), by repeat (first | (with_reducible first | exact HK.out | apply KeepBut.set_ | apply keep_drewN | apply keep_drew | apply keep_alloc) | exact HK.out)⟩

def spec_l00Src_pick.f (s0_0 : List Int) (s0_1 : Int) (s0_2 : Int) (a1 : Int) : Option (Int × Int × Int) := if a1 ≤ 1 then (some (0, s0_1, s0_2)) else ((spec_l00Src_next.f s0_0 s0_1 s0_2).bind fun bt103 => (if a1 > 200 then ((spec_l00Src_next.f s0_0 bt103.2.1 bt103.2.2).bind fun bt106 => (if a1 = 0 then (none) else (some (Int.tmod (wrap64 ((wrap64 (bt103.1 * 256)) + bt106.1)) a1, bt106.2.1, bt106.2.2)))) else (if a1 = 0 then (none) else (some (Int.tmod bt103.1 a1, bt103.2.1, bt103.2.2)))))
theorem spec_l00Src_pick.calls (g : Nat) (s0_0 : List Int) (s0_1 : Int) (s0_2 : Int) (a1 : Int) (r1 : Int) (r2 : Int) (r3 : Int) (w0 w : World) (hI : IsS78 w0 w g s0_0 s0_1 s0_2) (hB : Below w0.heap.size w0 w) (h : spec_l00Src_pick.f s0_0 s0_1 s0_2 a1 = some (r1, r2, r3)) :
  Calls Try.prog 47 #[.pointer (some ⟨g, 0, none⟩), .int .i64 a1] w fun e w' => e = .returned (.int .i64 r1) ∧ IsS78 w0 w' g s0_0 r2 r3 ∧ Below w0.heap.size w0 w' ∧ KeepBut w w' g none := by
 have HI0 := zQ hI
 have HK := zQ (KeepBut.refl w g none)
 have HL := zQ hB.size
 clear hI
 have HW0 := zQ hB.size
 have HB := zQ hB
 clear hB
 have H := h; unfold spec_l00Src_pick.f at H
 clear h
 by_cases c3 : a1 ≤ 1
 ·rw [if_pos c3] at H
  have c3b0 := decide_eq_true c3; clear c3
  simp only [Option.some.injEq, Prod.mk.injEq] at H
  obtain ⟨rfl, rfl, rfl⟩ := H
  go_enter Try.func47, Try.ntmps47
  go_wp2
  go_ret
  exact ⟨zE, by repeat (first | (with_reducible first | exact HI0.out | apply IsS78.alloc | apply IsS78.drewN | apply IsS78.drew | apply IsS78.set_1 | apply IsS78.set_2) | exact HI0.out), by repeat (first | (with_reducible first | exact HB.out | apply below_alloc | apply pw_below_drewN | apply below_drew1 | refine below_set ?_ (IsS78.ge HI0.out)) | exact HB.out), by repeat (first | (with_reducible first | exact HK.out | apply KeepBut.set_ | apply keep_drewN | apply keep_drew | apply keep_alloc) | exact HK.out)⟩
 ·rw [if_neg c3] at H
  have c3b0 := decide_eq_false c3; clear c3; replace H := zob H; obtain ⟨⟨t103, t104, t105⟩, A4, H⟩ := H
  by_cases c5 : a1 > 200
  ·rw [if_pos c5] at H
   have c5b0 := decide_eq_true c5; clear c5; replace H := zob H; obtain ⟨⟨t106, t107, t108⟩, A6, H⟩ := H
   by_cases c7 : a1 = 0
   ·rw [if_pos c7] at H
    exact absurd H (by simp)
   ·rw [if_neg c7] at H
    have c7b0 : (a1 == 0) = false := beq_eq_false_iff_ne.mpr c7; have c7b1 : (a1 != 0) = true := bne_iff_ne.mpr c7
    simp only [Option.some.injEq, Prod.mk.injEq] at H
    obtain ⟨rfl, rfl, rfl⟩ := H
    go_enter Try.func47, Try.ntmps47
    go_wp2_with (first | ((with_reducible refine zgc 75 ?_); refine zgo (some 9) Try.func75 #[.pointer (some ⟨g, 0, none⟩)] ?_; (with_reducible refine (spec_l00Src_next.calls g s0_0 s0_1 s0_2 t103 t104 t105 w0 _ ?side1 ?side2 A4.out).mono ?_); (case side1 => repeat (first | (with_reducible first | exact HI0.out | apply IsS78.alloc | apply IsS78.drewN | apply IsS78.drew | apply IsS78.set_1 | apply IsS78.set_2) | exact HI0.out)); (case side2 => repeat (first | (with_reducible first | exact HB.out | apply below_alloc | apply pw_below_drewN | apply below_drew1 | refine below_set ?_ (IsS78.ge HI0.out)) | exact HB.out)); rintro e w8 ⟨rfl, hi, hb, hk⟩; refine ⟨_, rfl, ?_⟩; replace HK := zQ (KeepBut.trans (by repeat (first | (with_reducible first | exact HK.out | apply KeepBut.set_ | apply keep_drewN | apply keep_drew | apply keep_alloc) | exact HK.out)) hk (.inl rfl)); replace HB := zQ (hb); replace HI0 := zQ (hi); (try clear hb); (try clear hk); (try clear hi)) | ((with_reducible refine zgc 75 ?_); refine zgo (some 15) Try.func75 #[.pointer (some ⟨g, 0, none⟩)] ?_; (with_reducible refine (spec_l00Src_next.calls g s0_0 t104 t105 t106 t107 t108 w0 _ ?side1 ?side2 A6.out).mono ?_); (case side1 => repeat (first | (with_reducible first | exact HI0.out | apply IsS78.alloc | apply IsS78.drewN | apply IsS78.drew | apply IsS78.set_1 | apply IsS78.set_2) | exact HI0.out)); (case side2 => repeat (first | (with_reducible first | exact HB.out | apply below_alloc | apply pw_below_drewN | apply below_drew1 | refine below_set ?_ (IsS78.ge HI0.out)) | exact HB.out)); rintro e w9 ⟨rfl, hi, hb, hk⟩; refine ⟨_, rfl, ?_⟩; replace HK := zQ (KeepBut.trans (by repeat (first | (with_reducible first | exact HK.out | apply KeepBut.set_ | apply keep_drewN | apply keep_drew | apply keep_alloc) | exact HK.out)) hk (.inl rfl)); replace HB := zQ (hb); replace HI0 := zQ (hi); (try clear hb); (try clear hk); (try clear hi)))
    go_ret
    exact ⟨zE, by repeat (first | (with_reducible first | exact HI0.out | apply IsS78.alloc | apply IsS78.drewN | apply IsS78.drew | apply IsS78.set_1 | apply IsS78.set_2) | exact HI0.out), by repeat (first | (with_reducible first | exact HB.out | apply below_alloc | apply pw_below_drewN | apply below_drew1 | refine below_set ?_ (IsS78.ge HI0.out)) | exact HB.out), by repeat (first | (with_reducible first | exact HK.out | apply KeepBut.set_ | apply keep_drewN | apply keep_drew | apply keep_alloc) | exact HK.out)⟩
  ·rw [if_neg c5] at H
   have c5b0 := decide_eq_false c5; clear c5
   by_cases c10 : a1 = 0
   ·rw [if_pos c10] at H
    exact absurd H (by simp)
   ·rw [if_neg c10] at H
    have c10b0 : (a1 == 0) = false := beq_eq_false_iff_ne.mpr c10; have c10b1 : (a1 != 0) = true := bne_iff_ne.mpr c10
    simp only [Option.some.injEq, Prod.mk.injEq] at H
    obtain ⟨rfl, rfl, rfl⟩ := H
    go_enter Try.func47, Try.ntmps47
    go_wp2_with (first | ((with_reducible refine zgc 75 ?_); refine zgo (some 9) Try.func75 #[.pointer (some ⟨g, 0, none⟩)] ?_; (with_reducible refine (spec_l00Src_next.calls g s0_0 s0_1 s0_2 t103 t104 t105 w0 _ ?side1 ?side2 A4.out).mono ?_); (case side1 => repeat (first | (with_reducible first | exact HI0.out | apply IsS78.alloc | apply IsS78.drewN | apply IsS78.drew | apply IsS78.set_1 | apply IsS78.set_2) | exact HI0.out)); (case side2 => repeat (first | (with_reducible first | exact HB.out | apply below_alloc | apply pw_below_drewN | apply below_drew1 | refine below_set ?_ (IsS78.ge HI0.out)) | exact HB.out)); rintro e w11 ⟨rfl, hi, hb, hk⟩; refine ⟨_, rfl, ?_⟩; replace HK := zQ (KeepBut.trans (by repeat (first | (with_reducible first | exact HK.out | apply KeepBut.set_ | apply keep_drewN | apply keep_drew | apply keep_alloc) | exact HK.out)) hk (.inl rfl)); replace HB := zQ (hb); replace HI0 := zQ (hi); (try clear hb); (try clear hk); (try clear hi)))
    go_ret
    exact ⟨zE, by repeat (first | (with_reducible first | exact HI0.out | apply IsS78.alloc | apply IsS78.drewN | apply IsS78.drew | apply IsS78.set_1 | apply IsS78.set_2) | exact HI0.out), by repeat (first | (with_reducible first | exact HB.out | apply below_alloc | apply pw_below_drewN | apply below_drew1 | refine below_set ?_ (IsS78.ge HI0.out)) | exact HB.out), by repeat (first | (with_reducible first | exact HK.out | apply KeepBut.set_ | apply keep_drewN | apply keep_drew | apply keep_alloc) | exact HK.out)⟩

mutual
def spec_l12Draw.l0 : Nat → Int → Int → List Int → Int → Int → List Int → List (List Int) → Option (List Int × (List (List Int)) × Int × Int)
 | 0, _, _, _, _, _, _, _ => none
 | k + 1, x1, x6, x1000, x1001, x1002, x117000, x117001 => if x6 < x1 then ((spec_l00Src_pick.f x1000 x1001 x1002 20).bind fun bt117 => (if x117000.length < 17592186044416 then (spec_l12Draw.l1 k x1 x6 (([] : List Int)) 0 x1000 bt117.2.1 bt117.2.2 (x117000 ++ [wrap64 (50 * bt117.1)]) x117001) else (none))) else (some (x117000, x117001, x1001, x1002))
def spec_l12Draw.l1 : Nat → Int → Int → List Int → Int → List Int → Int → Int → List Int → List (List Int) → Option (List Int × (List (List Int)) × Int × Int)
 | 0, _, _, _, _, _, _, _, _, _ => none
 | k + 1, x1, x6, x7, x8, x1000, x1001, x1002, x117000, x117001 => if x8 < x1 then (if x6 = x8 then ((spec_l00Src_pick.f x1000 x1001 x1002 10).bind fun bt129 => (if x7.length < 17592186044416 then (spec_l12Draw.l1 k x1 x6 (x7 ++ [wrap64 (10 * (wrap64 (1 + bt129.1)))]) (wrap64 (x8 + 1)) x1000 bt129.2.1 bt129.2.2 x117000 x117001) else (none))) else ((spec_l00Src_pick.f x1000 x1001 x1002 7).bind fun bt135 => (if x7.length < 17592186044416 then (spec_l12Draw.l1 k x1 x6 (x7 ++ [wrap64 ((wrap64 (10 * bt135.1)) - 30)]) (wrap64 (x8 + 1)) x1000 bt135.2.1 bt135.2.2 x117000 x117001) else (none)))) else (if x117001.length < 5864062014805 then (spec_l12Draw.l0 k x1 (wrap64 (x6 + 1)) x1000 x1001 x1002 x117000 (x117001 ++ [x7])) else (none))
end
def spec_l12Draw.f (k : Nat) (s0_0 : List Int) (s0_1 : Int) (s0_2 : Int) (a1 : Int) : Option (List Int × (List (List Int)) × Int × Int) := spec_l12Draw.l0 k a1 0 s0_0 s0_1 s0_2 (([] : List Int)) (([] : List (List Int)))
def spec_l12Draw.T5 : Bool × List (List Nat × List Nat) := (true, [([], []), ([0], [0]), ([], []), ([2], [2]), ([3], [3]), ([4], [4]), ([1, 5, 3], [1, 5]), ([0, 1, 2, 3, 4, 5, 6], []), ([7, 6, 6, 0, 1, 2, 3, 4, 5, 6], [6, 7])])
def spec_l12Draw.B5 : List Nat := [0, 1, 0, 4, 12, 28, 63, 127, 255]
theorem spec_l12Draw.tab5 : rtab .any (opsOf Try.f48 5) = spec_l12Draw.T5 := by kernel_rfl
theorem spec_l12Draw.bits5 : waitsOk spec_l12Draw.T5.2 spec_l12Draw.B5 = true := by kernel_rfl
theorem spec_l12Draw.calls (k : Nat) (g : Nat) (s0_0 : List Int) (s0_1 : Int) (s0_2 : Int) (a1 : Int) (r1 : List Int) (r2 : List (List Int)) (r3 : Int) (r4 : Int) (w0 w : World) (hI : IsS78 w0 w g s0_0 s0_1 s0_2) (hB : Below w0.heap.size w0 w) (h : spec_l12Draw.f k s0_0 s0_1 s0_2 a1 = some (r1, r2, r3, r4)) :
  Calls Try.prog 48 #[.pointer (some ⟨g, 0, none⟩), .int .i64 a1] w fun e w' => ∃ v0_ v1_ : Value, e = .returned (.agg #[v0_, v1_]) ∧ Kd.R (Kd.int .i64) 2 w' w.heap.size (fun _ => True) v0_ r1 ∧ Kd.S (Kd.slice 2 (Kd.int .i64)) 24 w' w.heap.size (fun k_ => some k_ ≠ (v0_ : Value).ownBlock) v1_ r2 ∧ IsS78 w0 w' g s0_0 r3 r4 ∧ Below w0.heap.size w0 w' ∧ KeepBut w w' g none := by
 have hu27 := Try.underlying27
 have HI0 := zQ hI
 have HK := zQ (KeepBut.refl w g none)
 have HL := zQ hB.size
 clear hI
 have HW0 := zQ hB.size
 have HB := zQ hB
 clear hB
 have H := h; unfold spec_l12Draw.f at H
 clear h
 obtain ⟨y110, hy110⟩ : ∃ y_ : List Int, y_ = (([] : List Int)) := ⟨_, rfl⟩
 replace H : (spec_l12Draw.l0 k a1 0 s0_0 s0_1 s0_2 y110 (([] : List (List Int)))) = some (r1, r2, r3, r4) := zh H
 have Ny110 := zQ hy110
 clear hy110
 obtain ⟨y113, hy113⟩ : ∃ y_ : List (List Int), y_ = (([] : List (List Int))) := ⟨_, rfl⟩
 replace H : (spec_l12Draw.l0 k a1 0 s0_0 s0_1 s0_2 y110 y113) = some (r1, r2, r3, r4) := zh H
 have Ny113 := zQ hy113
 clear hy113
 have H' := zQ H
 clear H
 go_enter Try.func48, Try.ntmps48
 go_wp2_with (first | ((with_reducible refine zd 4 ?_); refine zbx (N := 4) (cs := #[.slice none 0 0, .slice none 0 0]) (t := 27) ?_; intro gb109 hg w3 hbox hb; have BK109 := zQ (hbox); have GW109 := zQ ((by rw [hg]; exact (keep_size (w := w) (g := g) (row := none) (by repeat (first | (with_reducible first | exact HK.out | apply KeepBut.set_ | apply keep_drewN | apply keep_drew | apply keep_alloc) | exact HK.out))) : w.heap.size ≤ gb109)); have GE109 := zQ ((Nat.le_trans HW0.out (by rw [hg]; exact (keep_size (w := w) (g := g) (row := none) (by repeat (first | (with_reducible first | exact HK.out | apply KeepBut.set_ | apply keep_drewN | apply keep_drew | apply keep_alloc) | exact HK.out))) : w.heap.size ≤ gb109) : w0.heap.size ≤ gb109)); have NB0_109 := zQ ((by rw [hg]; exact Nat.ne_of_lt (IsS78.lt (show IsS78 w0 _ g s0_0 s0_1 s0_2 from by repeat (first | (with_reducible first | exact HI0.out | apply IsS78.alloc | apply IsS78.drewN | apply IsS78.drew | apply IsS78.set_1 | apply IsS78.set_2) | exact HI0.out))) : g ≠ gb109)); have NB109_0 := zQ ((by rw [hg]; exact Nat.ne_of_gt (IsS78.lt (show IsS78 w0 _ g s0_0 s0_1 s0_2 from by repeat (first | (with_reducible first | exact HI0.out | apply IsS78.alloc | apply IsS78.drewN | apply IsS78.drew | apply IsS78.set_1 | apply IsS78.set_2) | exact HI0.out))) : gb109 ≠ g)); replace HK := zQ (KeepBut.trans (by repeat (first | (with_reducible first | exact HK.out | apply KeepBut.set_ | apply keep_drewN | apply keep_drew | apply keep_alloc) | exact HK.out)) (KeepBut.of_below hb g none) (.inl rfl)); replace HB := zQ (below_step (by repeat (first | (with_reducible first | exact HB.out | apply below_alloc | apply pw_below_drewN | apply below_drew1 | refine below_set ?_ (IsS78.ge HI0.out)) | exact HB.out)) hb); replace HI0 := zQ (IsS78.below (by repeat (first | (with_reducible first | exact HI0.out | apply IsS78.alloc | apply IsS78.drewN | apply IsS78.drew | apply IsS78.set_1 | apply IsS78.set_2) | exact HI0.out)) hb); clear hb hbox hg) | ((with_reducible refine zd 9 ?_); refine Kd.R_lit (Kd.int .i64) _ 2 ?hg (N := 9) ?hd (xs := ([] : List Int)) (inner := []) (ok := fun _ => True) (okp := fun _ => True) ?hr ?hp (fun _ hk => hk) trivial (Below.refl _ _) (Nat.le_refl _) (by simp) ?_; (case hd => rfl); (case hg => rfl); (case hr => first | (go_simp; done) | (go_simp; rfl)); (case hp => exact (Reps.none _ _)); intro v111 w4 ho5 hb hg_ hnew_; clear hg_ hnew_; (first | rw [← Ny110.out] at ho5 | (simp only [Int.reduceToNat] at ho5; rw [← Ny110.out] at ho5)); have HO112 := zQ (Kd.R_lower ho5 (keep_size (w := w) (g := g) (row := none) (by repeat (first | (with_reducible first | exact HK.out | apply KeepBut.set_ | apply keep_drewN | apply keep_drew | apply keep_alloc | refine keep_far ?_ GW109.out _) | exact HK.out)))); replace BK109 := zbl BK109.out hb; replace HK := zQ (KeepBut.trans (by repeat (first | (with_reducible first | exact HK.out | apply KeepBut.set_ | apply keep_drewN | apply keep_drew | apply keep_alloc | refine keep_far ?_ GW109.out _) | exact HK.out)) (KeepBut.of_below hb g none) (.inl rfl)); replace HB := zQ (below_step (by repeat (first | (with_reducible first | exact HB.out | apply below_alloc | apply pw_below_drewN | apply below_drew1 | refine below_set ?_ (IsS78.ge HI0.out) | refine below_set ?_ GE109.out) | exact HB.out)) hb); replace HI0 := zQ (IsS78.below (by repeat (first | (with_reducible first | exact HI0.out | apply IsS78.alloc | apply IsS78.drewN | apply IsS78.drew | apply IsS78.set_1 | apply IsS78.set_2 | refine IsS78.far ?_ NB0_109.out _) | exact HI0.out)) hb); clear hb ho5) | ((with_reducible refine zd 10 ?_); refine Kd.S_lit (Kd.slice 2 (Kd.int .i64)) _ 24 ?hg (N := 10) ?hd (xs := ([] : List (List Int))) (inner := []) (ok := fun _ => True) (okp := fun _ => True) ?hr ?hp (fun _ hk => hk) trivial (Below.refl _ _) (Nat.le_refl _) (by simp) ?_; (case hd => rfl); (case hg => rfl); (case hr => first | (go_simp; done) | (go_simp; rfl)); (case hp => exact (Reps.none _ _)); intro v114 w6 ho7 hb hg_ hnew_; clear hg_ hnew_; (first | rw [← Ny113.out] at ho7 | (simp only [Int.reduceToNat] at ho7; rw [← Ny113.out] at ho7)); have HO115 := zQ (Kd.S_lower (Kd.S_new' ho7 (Kd.R_lt (zR HO112.out))) (keep_size (w := w) (g := g) (row := none) (by repeat (first | (with_reducible first | exact HK.out | apply KeepBut.set_ | apply keep_drewN | apply keep_drew | apply keep_alloc | refine keep_far ?_ GW109.out _) | exact HK.out)))); replace HO112 := zRb HO112.out hb; replace BK109 := zbl BK109.out hb; replace HK := zQ (KeepBut.trans (by repeat (first | (with_reducible first | exact HK.out | apply KeepBut.set_ | apply keep_drewN | apply keep_drew | apply keep_alloc | refine keep_far ?_ GW109.out _) | exact HK.out)) (KeepBut.of_below hb g none) (.inl rfl)); replace HB := zQ (below_step (by repeat (first | (with_reducible first | exact HB.out | apply below_alloc | apply pw_below_drewN | apply below_drew1 | refine below_set ?_ (IsS78.ge HI0.out) | refine below_set ?_ GE109.out) | exact HB.out)) hb); replace HI0 := zQ (IsS78.below (by repeat (first | (with_reducible first | exact HI0.out | apply IsS78.alloc | apply IsS78.drewN | apply IsS78.drew | apply IsS78.set_1 | apply IsS78.set_2 | refine IsS78.far ?_ NB0_109.out _) | exact HI0.out)) hb); clear hb ho7; obtain ⟨Ao8, co8, eo8⟩ := Kd.S_slice HO115.out; subst eo8; obtain ⟨Ao9, co9, eo9⟩ := Kd.R_slice HO112.out; subst eo9) | ((with_reducible refine zd 5 ?_); refine zbx (N := 5) (cs := #[.slice none 0 0, .slice none 0 0]) (t := 27) ?_; intro gb116 hg w10 hbox hb; have BK116 := zQ (hbox); have GW116 := zQ ((by rw [hg]; exact (keep_size (w := w) (g := g) (row := none) (by repeat (first | (with_reducible first | exact HK.out | apply KeepBut.set_ | apply keep_drewN | apply keep_drew | apply keep_alloc | refine keep_far ?_ GW109.out _) | exact HK.out))) : w.heap.size ≤ gb116)); have GE116 := zQ ((Nat.le_trans HW0.out (by rw [hg]; exact (keep_size (w := w) (g := g) (row := none) (by repeat (first | (with_reducible first | exact HK.out | apply KeepBut.set_ | apply keep_drewN | apply keep_drew | apply keep_alloc | refine keep_far ?_ GW109.out _) | exact HK.out))) : w.heap.size ≤ gb116) : w0.heap.size ≤ gb116)); have NB109_116 := zn1 hg BK109.out; have NB116_109 := zn2 hg BK109.out; have NB0_116 := zQ ((by rw [hg]; exact Nat.ne_of_lt (IsS78.lt (show IsS78 w0 _ g s0_0 s0_1 s0_2 from by repeat (first | (with_reducible first | exact HI0.out | apply IsS78.alloc | apply IsS78.drewN | apply IsS78.drew | apply IsS78.set_1 | apply IsS78.set_2 | refine IsS78.far ?_ NB0_109.out _) | exact HI0.out))) : g ≠ gb116)); have NB116_0 := zQ ((by rw [hg]; exact Nat.ne_of_gt (IsS78.lt (show IsS78 w0 _ g s0_0 s0_1 s0_2 from by repeat (first | (with_reducible first | exact HI0.out | apply IsS78.alloc | apply IsS78.drewN | apply IsS78.drew | apply IsS78.set_1 | apply IsS78.set_2 | refine IsS78.far ?_ NB0_109.out _) | exact HI0.out))) : gb116 ≠ g)); replace HO112 := zRb HO112.out hb; replace HO115 := zQ (Kd.S_below (zS HO115.out) hb); replace BK109 := zbl BK109.out hb; replace HK := zQ (KeepBut.trans (by repeat (first | (with_reducible first | exact HK.out | apply KeepBut.set_ | apply keep_drewN | apply keep_drew | apply keep_alloc | refine keep_far ?_ GW109.out _) | exact HK.out)) (KeepBut.of_below hb g none) (.inl rfl)); replace HB := zQ (below_step (by repeat (first | (with_reducible first | exact HB.out | apply below_alloc | apply pw_below_drewN | apply below_drew1 | refine below_set ?_ (IsS78.ge HI0.out) | refine below_set ?_ GE109.out) | exact HB.out)) hb); replace HI0 := zQ (IsS78.below (by repeat (first | (with_reducible first | exact HI0.out | apply IsS78.alloc | apply IsS78.drewN | apply IsS78.drew | apply IsS78.set_1 | apply IsS78.set_2 | refine IsS78.far ?_ NB0_109.out _) | exact HI0.out)) hb); clear hb hbox hg; have hnb11 := NB116_109.out; have hnc11 := NB109_116.out; have hnb12 := NB116_0.out; have hnc12 := NB0_116.out; obtain ⟨hcz13_0, hcz13_1, hfz13_0, hfz13_1⟩ := zy2 BK116.out))
 go_loopg [6] k (fun kq v6 w' => ∃ (x6_1 : Int) (x1001_1 : Int) (x1002_1 : Int) (x117000_1 : List Int) (x117001_1 : List (List Int)) (u117000 : Value) (u117001 : Value), v6 = .int .i64 x6_1 ∧ Aside0 (spec_l12Draw.l0 kq a1 x6_1 s0_0 x1001_1 x1002_1 x117000_1 x117001_1 = some (r1, r2, r3, r4)) ∧ Aside0 (kq ≤ k) ∧ Aside0 (Kd.R (Kd.int .i64) 2 w' w.heap.size (fun _ => True) u117000 x117000_1) ∧ Aside0 (Kd.S (Kd.slice 2 (Kd.int .i64)) 24 w' w.heap.size (fun k_ => some k_ ≠ (u117000 : Value).ownBlock) u117001 x117001_1) ∧ Aside0 (w'.heap[gb109]? = some (.cells #[(.slice none 0 0), (.slice none 0 0)] 27 (0, 0))) ∧ Aside0 (w'.heap[gb116]? = some (.cells #[u117000, u117001] 27 (0, 0))) ∧ Aside0 (IsS78 w0 w' g s0_0 x1001_1 x1002_1) ∧ Aside0 (KeepBut w w' g none) ∧ Aside0 (Below w0.heap.size w0 w'))
 case atStart => exact ⟨(0), (s0_1), (s0_2), (y110), (y113), (.slice Ao9 y110.length co9), (.slice Ao8 y113.length co8), (zF), H', ⟨Nat.le_refl _⟩, ⟨by (with_reducible repeat (first | apply Kd.R_alloc | apply Kd.R_drewN | apply Kd.R_drew)); exact Kd.R_mono (Kd.R_far (p := ⟨gb116, 1, none⟩) (Kd.R_far (p := ⟨gb116, 0, none⟩) (Kd.R_types HO112.out BK116.out (by decide)) (fun _ hk => hk.2) (.slice Ao9 y110.length co9)) (fun _ hk => hk.2) (.slice Ao8 y113.length co8)) (fun _ hk => trivial)⟩, ⟨by (with_reducible repeat (first | apply Kd.S_alloc | apply Kd.S_drewN | apply Kd.S_drew)); exact Kd.S_mono (Kd.S_far (p := ⟨gb116, 1, none⟩) (Kd.S_far (p := ⟨gb116, 0, none⟩) (Kd.S_types HO115.out BK116.out (by decide)) (fun _ hk => hk.2) (.slice Ao9 y110.length co9)) (fun _ hk => hk.2) (.slice Ao8 y113.length co8)) (fun _ hk => hk.1.2)⟩, ⟨by refine zb ?_; refine blk_far ?_ NB109_116.out _; refine zb ?_; refine blk_far ?_ NB109_116.out _; refine zb ?_; exact BK109.out⟩, ⟨by refine zb ?_; refine blk_put (cs := #[.slice Ao9 y110.length co9, .slice none 0 0]) ?_ 1 _ rfl; refine zb ?_; refine blk_put (cs := #[.slice none 0 0, .slice none 0 0]) ?_ 0 _ rfl; refine zb ?_; exact BK116.out⟩, ⟨by repeat (first | (with_reducible first | exact HI0.out | apply IsS78.alloc | apply IsS78.drewN | apply IsS78.drew | apply IsS78.set_1 | apply IsS78.set_2 | refine IsS78.far ?_ NB0_109.out _ | refine IsS78.far ?_ NB0_116.out _) | exact HI0.out)⟩, ⟨by repeat (first | (with_reducible first | exact HK.out | apply KeepBut.set_ | apply keep_drewN | apply keep_drew | apply keep_alloc | refine keep_far ?_ GW109.out _ | refine keep_far ?_ GW116.out _) | exact HK.out)⟩, ⟨by repeat (first | (with_reducible first | exact HB.out | apply below_alloc | apply pw_below_drewN | apply below_drew1 | refine below_set ?_ (IsS78.ge HI0.out) | refine below_set ?_ GE109.out | refine below_set ?_ GE116.out) | exact HB.out)⟩⟩
 case round =>
  clear H'; (try clear c1); (try clear p2); (try clear c4); (try clear c11); (try clear c12); (try clear hcz13_0 hcz13_1 hfz13_0 hfz13_1); obtain ⟨x6_1, x1001_1, x1002_1, x117000_1, x117001_1, u117000, u117001, rfl, HA, HK1, HO_117000, HO_117001, BK109, BK116, HI0, HK, HB⟩ := hrel
  cases gk with
  | zero => exact absurd HA.out (by simp [spec_l12Draw.l0])
  | succ k1 =>
   have H := HA.out; clear HA
   simp only [spec_l12Draw.l0] at H
   by_cases c14 : x6_1 < a1
   ·rw [if_pos c14] at H
    have c14b0 := decide_eq_true c14; clear c14; replace H := zob H; obtain ⟨⟨t117, t118, t119⟩, A15, H⟩ := H
    by_cases c16 : x117000_1.length < 17592186044416
    ·rw [if_pos c16] at H
     have LMc16 := zQ c16; clear c16; obtain ⟨y120, hy120⟩ : ∃ y_ : List Int, y_ = (x117000_1 ++ [wrap64 (50 * t117)]) := ⟨_, rfl⟩; replace H : (spec_l12Draw.l1 k1 a1 x6_1 (([] : List Int)) 0 s0_0 t118 t119 y120 x117001_1) = some (r1, r2, r3, r4) := zh H; have Ny120 := zQ hy120; clear hy120; obtain ⟨y123, hy123⟩ : ∃ y_ : List Int, y_ = (([] : List Int)) := ⟨_, rfl⟩; replace H : (spec_l12Draw.l1 k1 a1 x6_1 y123 0 s0_0 t118 t119 y120 x117001_1) = some (r1, r2, r3, r4) := zh H; have Ny123 := zQ hy123; clear hy123; have H' := zQ H; clear H
     try go_wp2
     have n0_ := zQ (Kd.R_drew HO_117000.out); have n1_ := zQ (Kd.S_drew HO_117001.out); have n2_ := zQ (blk_drew BK109.out); have n3_ := zQ (blk_drew BK116.out); have n4_ := zQ (IsS78.drew HI0.out); have n5_ := zQ (keep_drew HK.out); have n6_ := zQ (below_drew1 HB.out); clear HO_117000; clear HO_117001; clear BK109; clear BK116; clear HI0; clear HK; clear HB; have HO_117000 := n0_; have HO_117001 := n1_; have BK109 := n2_; have BK116 := n3_; have HI0 := n4_; have HK := n5_; have HB := n6_; clear n0_ n1_ n2_ n3_ n4_ n5_ n6_
     refine zs (fun w' => w'.cell? ⟨gb116, 0, none⟩ = some (u117000) ∧ w'.cell? ⟨gb116, 1, none⟩ = some (u117001)) [8] 9 ⟨(blk_cell BK116.out 0).trans rfl, (blk_cell BK116.out 1).trans rfl⟩ (fun hHeld => ?_); refine with_tabW spec_l12Draw.tab5 spec_l12Draw.bits5 (fun HT_ HW_ => ?_)
     generalize wr.drew = w17 at HO_117000 HO_117001 BK109 BK116 HI0 HK HB hHeld ⊢
     refine zp 0 17 ?_
     refine zp 2 19 ?_
     refine zt 1 18 hHeld ?_
     refine zo 3 (some 20) (fun K hK => ?_)
     refine goes_ Try.func47 (by kernel_rfl) rfl #[.pointer (some ⟨g, 0, none⟩), .int .i64 20] (by rfl) rfl rfl zM ?_
     with_reducible refine (spec_l00Src_pick.calls g s0_0 x1001_1 x1002_1 20 t117 t118 t119 w0 _ ?side1 ?side2 A15.out).mono ?_
     (case side1 => repeat (first | (with_reducible first | exact HI0.out | apply IsS78.alloc | apply IsS78.drewN | apply IsS78.drew | apply IsS78.set_1 | apply IsS78.set_2 | refine IsS78.far ?_ NB0_109.out _ | refine IsS78.far ?_ NB0_116.out _) | exact HI0.out))
     (case side2 => repeat (first | (with_reducible first | exact HB.out | apply below_alloc | apply pw_below_drewN | apply below_drew1 | refine below_set ?_ (IsS78.ge HI0.out) | refine below_set ?_ GE109.out | refine below_set ?_ GE116.out) | exact HB.out))
     rintro e w18 ⟨rfl, hi, hb, hk⟩
     refine ⟨_, rfl, ?_⟩
     have n0_ := zQ (Kd.R_mono (Kd.R_keep (IsS78.apart (show IsS78 w0 _ g s0_0 x1001_1 x1002_1 from by repeat (first | (with_reducible first | exact HI0.out | apply IsS78.alloc | apply IsS78.drewN | apply IsS78.drew | apply IsS78.set_1 | apply IsS78.set_2 | refine IsS78.far ?_ NB0_109.out _ | refine IsS78.far ?_ NB0_116.out _) | exact HI0.out)) (zR HO_117000.out) (by decide)) hk (fun _ h => h.2)) (fun _ h => h.1)); have n1_ := zQ (Kd.S_mono (Kd.S_keep (IsS78.apartS (show IsS78 w0 _ g s0_0 x1001_1 x1002_1 from by repeat (first | (with_reducible first | exact HI0.out | apply IsS78.alloc | apply IsS78.drewN | apply IsS78.drew | apply IsS78.set_1 | apply IsS78.set_2 | refine IsS78.far ?_ NB0_109.out _ | refine IsS78.far ?_ NB0_116.out _) | exact HI0.out)) (zS HO_117001.out) (by decide)) hk (fun _ h => h.2)) (fun _ h => h.1)); have n2_ := zQ (KeepBut.blk hk (g' := gb109) (o := .cells #[.slice none 0 0, .slice none 0 0] 27 (0, 0)) (zb BK109.out) NB109_0.out (by simp)); have n3_ := zQ (KeepBut.blk hk (g' := gb116) (o := .cells #[u117000, u117001] 27 (0, 0)) (zb BK116.out) NB116_0.out (by simp)); have n4_ := zQ (KeepBut.trans (by repeat (first | (with_reducible first | exact HK.out | apply KeepBut.set_ | apply keep_drewN | apply keep_drew | apply keep_alloc | refine keep_far ?_ GW109.out _ | refine keep_far ?_ GW116.out _) | exact HK.out)) hk (.inl rfl)); have n5_ := zQ (hb); have n6_ := zQ (hi); clear HO_117000; clear HO_117001; clear BK109; clear BK116; clear HK; clear HB
     clear HI0; have HO_117000 := n0_; have HO_117001 := n1_; have BK109 := n2_; have BK116 := n3_; have HK := n4_; have HB := n5_; have HI0 := n6_; clear n0_ n1_ n2_ n3_ n4_ n5_ n6_
     (try clear hb)
     (try clear hb2)
     (try clear hk)
     (try clear hi)
     refine hK.out _ _ ⟨(blk_cell BK116.out 0).trans rfl, (blk_cell BK116.out 1).trans rfl⟩ (fun hHeld => ?_)
     clear hK K
     refine zn 20 ?_
     refine zp 4 21 ?_
     refine zo 5 (some 22) (fun K hK => ?_)
     refine value_ (w1 := ?_) (v := ?_) (by rfl) rfl ?_ ?_
     rotate_left 2
     ·go_simp
      constructor
      ·rfl
      ·rfl
     refine hK.out _ _ ⟨(blk_cell (blk_alloc BK116.out _) 0).trans rfl, (blk_cell (blk_alloc BK116.out _) 1).trans rfl⟩ (fun hHeld => ?_)
     clear hK K
     refine zn 22 ?_
     refine zo 6 (some 23) (fun K hK => ?_)
     refine Kd.R_append_step (Kd.int .i64) w.heap.size (by rfl) (.tmp 18) (.tmp 22) 24 2 (.int .i64 0) 8 rfl Try.underlying24 info2 rfl (by decide) (by omega) u117000 x117000_1 (wrap64 (50 * t117)) [.int .i64 (wrap64 (50 * t117))] (fun _ => True) (fun _ => False) rfl rfl ?aP (fun _ hk => hk.elim) ?aF ?aO (Below.refl _ _) ?aS ?aL ?_
     (case aP => exact rfl)
     (case aF => exact (fun _ _ => trivial))
     (case aO => exact (zR HO_117000.out))
     (case aS => exact (keep_size (w := w) (g := g) (row := none) (by repeat (first | (with_reducible first | exact HK.out | apply KeepBut.set_ | apply keep_drewN | apply keep_drew | apply keep_alloc | refine keep_far ?_ GW109.out _ | refine keep_far ?_ GW116.out _) | exact HK.out))))
     (case aL => have := LMc16.out; omega)
     intro v121 w19 ho hb hg hat
     rw [← Ny120.out] at ho; have n0_ := zQ (Kd.S_after (ok := (fun _ => True)) (by (with_reducible repeat (first | apply Kd.S_alloc | apply Kd.S_drewN | apply Kd.S_drew)); exact Kd.S_mono HO_117001.out (fun _ hk => ⟨trivial, hk⟩)) hg hat); have n1_ := zQ (blk_grown (g := gb109) (o := .cells #[.slice none 0 0, .slice none 0 0] 27 (0, 0)) (zb BK109.out) hg (Kd.R_ne HO_117000.out BK109.out (by decide))); have n2_ := zQ (blk_grown (g := gb116) (o := .cells #[u117000, u117001] 27 (0, 0)) (zb BK116.out) hg (Kd.R_ne HO_117000.out BK116.out (by decide))); have n3_ := zQ (IsS78.grown (by repeat (first | (with_reducible first | exact HI0.out | apply IsS78.alloc | apply IsS78.drewN | apply IsS78.drew | apply IsS78.set_1 | apply IsS78.set_2 | refine IsS78.far ?_ NB0_109.out _ | refine IsS78.far ?_ NB0_116.out _) | exact HI0.out)) hg (IsS78.own_ne HI0.out HO_117000.out (by decide))); have n4_ := zQ (below_weaken (by repeat (first | (with_reducible first | exact HB.out | apply below_alloc | apply pw_below_drewN | apply below_drew1 | refine below_set ?_ (IsS78.ge HI0.out) | refine below_set ?_ GE109.out | refine below_set ?_ GE116.out) | exact HB.out)) HL.out hb); have n5_ := zQ (KeepBut.trans (by repeat (first | (with_reducible first | exact HK.out | apply KeepBut.set_ | apply keep_drewN | apply keep_drew | apply keep_alloc | refine keep_far ?_ GW109.out _ | refine keep_far ?_ GW116.out _) | exact HK.out)) (KeepBut.of_grown hg g) (Kd.R_base2 HO_117000.out)); have n6_ := zQ (ho)
     clear HO_117001; clear BK109; clear BK116; clear HI0; clear HB; clear HK; clear HO_117000; have HO_117001 := n0_; have BK109 := n1_; have BK116 := n2_; have HI0 := n3_; have HB := n4_; have HK := n5_; have HO122 := n6_; clear n0_ n1_ n2_ n3_ n4_ n5_ n6_; clear ho hb hg hat; obtain ⟨Ao20, co20, eo20⟩ := Kd.R_slice HO122.out
     (first | subst eo20 | (injection eo20 with f1_ f2_ f3_; have f4_ := f1_.symm; have f5_ := f3_.symm; clear f1_ f2_ f3_; subst f4_; subst f5_))
     refine hK.out _ _ ⟨(blk_cell BK116.out 0).trans rfl, (blk_cell BK116.out 1).trans rfl⟩ (fun hHeld => ?_)
     clear hK K
     refine zn 23 ?_
     refine zp 7 24 ?_
     refine last_ (i := 8) (N := none) (zm 9 511) rfl rfl (one_of HT_.out (by kernel_rfl)) (by decide) (fun K hK => ?_)
     have hs21 : w19.cell? ⟨gb116, 0, none⟩ = some (u117000) := (blk_cell BK116.out 0).trans rfl; have hfs21 := zfz BK116.out 0; have hns21_0 := NB109_116.out; have hms21_0 := NB116_109.out
     refine skip_ (w1 := ?_) (by rfl) rfl ?_ ?_
     rotate_left
     ·go_simp
      rfl
     refine hK.out _ _ ?_
     clear hK K
     refine done_ (done_of HT_.out (by kernel_rfl)) ?_
     try go_wp2_with (first | ((with_reducible refine zd 25 ?_); refine Kd.R_lit (Kd.int .i64) _ 2 ?hg (N := 25) ?hd (xs := ([] : List Int)) (inner := []) (ok := fun _ => True) (okp := fun _ => True) ?hr ?hp (fun _ hk => hk) trivial (Below.refl _ _) (Nat.le_refl _) (by simp) ?_; (case hd => rfl); (case hg => rfl); (case hr => first | (go_simp; done) | (go_simp; rfl)); (case hp => exact (Reps.none _ _)); intro v124 w22 ho23 hb hg_ hnew_; clear hg_ hnew_; (first | rw [← Ny123.out] at ho23 | (simp only [Int.reduceToNat] at ho23; rw [← Ny123.out] at ho23)); have HO125 := zQ (Kd.R_lower (Kd.R_new' ho23 (Kd.R_lt (by (with_reducible repeat (first | apply Kd.R_alloc | apply Kd.R_drewN | apply Kd.R_drew)); exact (Kd.R_mono (Kd.R_far (p := ⟨gb116, 0, none⟩) (Kd.R_types HO122.out BK116.out (by decide)) (fun _ hk => hk.2) (.slice Ao20 y120.length co20)) (fun _ h_ => h_.1))))) (keep_size (w := w) (g := g) (row := none) (by repeat (first | (with_reducible first | exact HK.out | apply KeepBut.set_ | apply keep_drewN | apply keep_drew | apply keep_alloc | refine keep_far ?_ GW109.out _ | refine keep_far ?_ GW116.out _) | exact HK.out)))); replace HO_117001 := zQ (Kd.S_elder' (by (with_reducible repeat (first | apply Kd.S_alloc | apply Kd.S_drewN | apply Kd.S_drew)); exact (Kd.S_mono (Kd.S_far (p := ⟨gb116, 0, none⟩) (Kd.S_types HO_117001.out BK116.out (by decide)) (fun _ hk => hk.2) (.slice Ao20 y120.length co20)) (fun _ h_ => h_.1))) (Kd.R_base ho23) hb); replace HO122 := zQ (Kd.R_elder' (by (with_reducible repeat (first | apply Kd.R_alloc | apply Kd.R_drewN | apply Kd.R_drew)); exact (Kd.R_mono (Kd.R_far (p := ⟨gb116, 0, none⟩) (Kd.R_types HO122.out BK116.out (by decide)) (fun _ hk => hk.2) (.slice Ao20 y120.length co20)) (fun _ h_ => h_.1))) (Kd.R_base ho23) hb); replace BK109 := zQ (blk_below (g := gb109) (o := .cells #[.slice none 0 0, .slice none 0 0] 27 (0, 0)) (by refine zb ?_; refine blk_far ?_ NB109_116.out _; refine zb ?_; exact BK109.out) hb); replace BK116 := zQ (blk_below (g := gb116) (o := .cells #[.slice Ao20 y120.length co20, u117001] 27 (0, 0)) (by refine zb ?_; refine blk_put (cs := #[u117000, u117001]) ?_ 0 _ rfl; refine zb ?_; exact BK116.out) hb); replace HK := zQ (KeepBut.trans (by repeat (first | (with_reducible first | exact HK.out | apply KeepBut.set_ | apply keep_drewN | apply keep_drew | apply keep_alloc | refine keep_far ?_ GW109.out _ | refine keep_far ?_ GW116.out _) | exact HK.out)) (KeepBut.of_below hb g none) (.inl rfl)); replace HB := zQ (below_step (by repeat (first | (with_reducible first | exact HB.out | apply below_alloc | apply pw_below_drewN | apply below_drew1 | refine below_set ?_ (IsS78.ge HI0.out) | refine below_set ?_ GE109.out | refine below_set ?_ GE116.out) | exact HB.out)) hb); replace HI0 := zQ (IsS78.below (show IsS78 w0 (w19.setCell ⟨gb116, 0, none⟩ (.slice Ao20 y120.length co20)) g s0_0 t118 t119 from by repeat (first | (with_reducible first | exact HI0.out | apply IsS78.alloc | apply IsS78.drewN | apply IsS78.drew | apply IsS78.set_1 | apply IsS78.set_2 | refine IsS78.far ?_ NB0_109.out _ | refine IsS78.far ?_ NB0_116.out _) | exact HI0.out)) hb); clear hb ho23))
     go_loopg [7, 8] k1 (fun kq v7 v8 w' => ∃ (x7_2 : List Int) (x8_2 : Int) (x1001_2 : Int) (x1002_2 : Int), v8 = .int .i64 x8_2 ∧ Aside0 (spec_l12Draw.l1 kq a1 x6_1 x7_2 x8_2 s0_0 x1001_2 x1002_2 y120 x117001_1 = some (r1, r2, r3, r4)) ∧ Aside0 (kq ≤ k1) ∧ Aside0 (Kd.R (Kd.int .i64) 2 w' w.heap.size (fun k_ => some k_ ≠ ((.slice Ao20 y120.length co20) : Value).ownBlock) v7 x7_2) ∧ Aside0 (Kd.R (Kd.int .i64) 2 w' w.heap.size (fun k_ => some k_ ≠ (v7 : Value).ownBlock) (.slice Ao20 y120.length co20) y120) ∧ Aside0 (Kd.S (Kd.slice 2 (Kd.int .i64)) 24 w' w.heap.size (fun k_ => some k_ ≠ (v7 : Value).ownBlock ∧ some k_ ≠ ((.slice Ao20 y120.length co20) : Value).ownBlock) u117001 x117001_1) ∧ Aside0 (w'.heap[gb109]? = some (.cells #[(.slice none 0 0), (.slice none 0 0)] 27 (0, 0))) ∧ Aside0 (w'.heap[gb116]? = some (.cells #[(.slice Ao20 y120.length co20), u117001] 27 (0, 0))) ∧ Aside0 (IsS78 w0 w' g s0_0 x1001_2 x1002_2) ∧ Aside0 (KeepBut w w' g none) ∧ Aside0 (Below w0.heap.size w0 w'))
     case atStart => exact ⟨(y123), (0), (t118), (t119), (zF), H', ⟨Nat.le_refl _⟩, ⟨by (with_reducible repeat (first | apply Kd.R_alloc | apply Kd.R_drewN | apply Kd.R_drew)); exact Kd.R_mono HO125.out (fun _ hk => hk.2)⟩, ⟨by (with_reducible repeat (first | apply Kd.R_alloc | apply Kd.R_drewN | apply Kd.R_drew)); exact Kd.R_mono HO122.out (fun _ hk => hk.2)⟩, ⟨by (with_reducible repeat (first | apply Kd.S_alloc | apply Kd.S_drewN | apply Kd.S_drew)); exact Kd.S_mono HO_117001.out (fun _ hk => ⟨hk.2, hk.1.2⟩)⟩, ⟨zb BK109.out⟩, ⟨zb BK116.out⟩, ⟨by repeat (first | (with_reducible first | exact HI0.out | apply IsS78.alloc | apply IsS78.drewN | apply IsS78.drew | apply IsS78.set_1 | apply IsS78.set_2 | refine IsS78.far ?_ NB0_109.out _ | refine IsS78.far ?_ NB0_116.out _) | exact HI0.out)⟩, ⟨by repeat (first | (with_reducible first | exact HK.out | apply KeepBut.set_ | apply keep_drewN | apply keep_drew | apply keep_alloc | refine keep_far ?_ GW109.out _ | refine keep_far ?_ GW116.out _) | exact HK.out)⟩, ⟨by repeat (first | (with_reducible first | exact HB.out | apply below_alloc | apply pw_below_drewN | apply below_drew1 | refine below_set ?_ (IsS78.ge HI0.out) | refine below_set ?_ GE109.out | refine below_set ?_ GE116.out) | exact HB.out)⟩⟩
     case round =>
      clear H'; (try clear c1); (try clear p2); (try clear c4); (try clear p6); (try clear c11); (try clear c12); (try clear c14); (try clear c14b0); (try clear c16); (try clear hcz13_0 hcz13_1 hfz13_0 hfz13_1); (try clear p2); obtain ⟨x7_2, x8_2, x1001_2, x1002_2, rfl, HA, HK2, HO_7, HO_117000, HO_117001, BK109, BK116, HI0, HK, HB⟩ := hrel
      cases gk with
      | zero => exact absurd HA.out (by simp [spec_l12Draw.l1])
      | succ k2 =>
       have H := HA.out; clear HA
       simp only [spec_l12Draw.l1] at H
       by_cases c24 : x8_2 < a1
       ·rw [if_pos c24] at H
        have c24b0 := decide_eq_true c24; clear c24
        by_cases c25 : x6_1 = x8_2
        ·rw [if_pos c25] at H
         have c25b0 : (x6_1 == x8_2) = true := beq_iff_eq.mpr c25; have c25b1 : (x6_1 != x8_2) = false := bne_eq_false_iff_eq.mpr c25; clear c25; replace H := zob H; obtain ⟨⟨t129, t130, t131⟩, A26, H⟩ := H
         by_cases c27 : x7_2.length < 17592186044416
         ·rw [if_pos c27] at H
          have LMc27 := zQ c27; clear c27; obtain ⟨y132, hy132⟩ : ∃ y_ : List Int, y_ = (x7_2 ++ [wrap64 (10 * (wrap64 (1 + t129)))]) := ⟨_, rfl⟩; replace H : (spec_l12Draw.l1 k2 a1 x6_1 y132 (wrap64 (x8_2 + 1)) s0_0 t130 t131 y120 x117001_1) = some (r1, r2, r3, r4) := zh H; have Ny132 := zQ hy132; clear hy132; have H' := zQ H; clear H
          go_wp2_with (first | ((with_reducible refine zgc 47 ?_); refine zgo (some 36) Try.func47 #[.pointer (some ⟨g, 0, none⟩), .int .i64 10] ?_; (with_reducible refine (spec_l00Src_pick.calls g s0_0 x1001_2 x1002_2 10 t129 t130 t131 w0 _ ?side1 ?side2 A26.out).mono ?_); (case side1 => repeat (first | (with_reducible first | exact HI0.out | apply IsS78.alloc | apply IsS78.drewN | apply IsS78.drew | apply IsS78.set_1 | apply IsS78.set_2 | refine IsS78.far ?_ NB0_109.out _ | refine IsS78.far ?_ NB0_116.out _) | exact HI0.out)); (case side2 => repeat (first | (with_reducible first | exact HB.out | apply below_alloc | apply pw_below_drewN | apply below_drew1 | refine below_set ?_ (IsS78.ge HI0.out) | refine below_set ?_ GE109.out | refine below_set ?_ GE116.out) | exact HB.out)); rintro e w28 ⟨rfl, hi, hb, hk⟩; refine ⟨_, rfl, ?_⟩; replace HO_7 := zQ (Kd.R_mono (Kd.R_keep (IsS78.apart (show IsS78 w0 _ g s0_0 x1001_2 x1002_2 from by repeat (first | (with_reducible first | exact HI0.out | apply IsS78.alloc | apply IsS78.drewN | apply IsS78.drew | apply IsS78.set_1 | apply IsS78.set_2 | refine IsS78.far ?_ NB0_109.out _ | refine IsS78.far ?_ NB0_116.out _) | exact HI0.out)) (zR HO_7.out) (by decide)) hk (fun _ h => h.2)) (fun _ h => h.1)); replace HO_117000 := zQ (Kd.R_mono (Kd.R_keep (IsS78.apart (show IsS78 w0 _ g s0_0 x1001_2 x1002_2 from by repeat (first | (with_reducible first | exact HI0.out | apply IsS78.alloc | apply IsS78.drewN | apply IsS78.drew | apply IsS78.set_1 | apply IsS78.set_2 | refine IsS78.far ?_ NB0_109.out _ | refine IsS78.far ?_ NB0_116.out _) | exact HI0.out)) (zR HO_117000.out) (by decide)) hk (fun _ h => h.2)) (fun _ h => h.1)); replace HO_117001 := zQ (Kd.S_mono (Kd.S_keep (IsS78.apartS (show IsS78 w0 _ g s0_0 x1001_2 x1002_2 from by repeat (first | (with_reducible first | exact HI0.out | apply IsS78.alloc | apply IsS78.drewN | apply IsS78.drew | apply IsS78.set_1 | apply IsS78.set_2 | refine IsS78.far ?_ NB0_109.out _ | refine IsS78.far ?_ NB0_116.out _) | exact HI0.out)) (zS HO_117001.out) (by decide)) hk (fun _ h => h.2)) (fun _ h => h.1)); replace BK109 := zQ (KeepBut.blk hk (g' := gb109) (o := .cells #[.slice none 0 0, .slice none 0 0] 27 (0, 0)) (zb BK109.out) NB109_0.out (by simp)); replace BK116 := zQ (KeepBut.blk hk (g' := gb116) (o := .cells #[.slice Ao20 y120.length co20, u117001] 27 (0, 0)) (zb BK116.out) NB116_0.out (by simp)); replace HK := zQ (KeepBut.trans (by repeat (first | (with_reducible first | exact HK.out | apply KeepBut.set_ | apply keep_drewN | apply keep_drew | apply keep_alloc | refine keep_far ?_ GW109.out _ | refine keep_far ?_ GW116.out _) | exact HK.out)) hk (.inl rfl)); replace HB := zQ (hb); replace HI0 := zQ (hi); (try clear hb); (try clear hk); (try clear hi)) | ((with_reducible refine gate_builtin (b := .append) (xs := #[.tmp 34, .tmp 39]) rfl ?_); at_builtin; refine Kd.R_append (Kd.int .i64) w.heap.size rfl (.tmp 34) (.tmp 39) 24 2 (.int .i64 0) 8 rfl Try.underlying24 info2 rfl (by decide) (by omega) u7 x7_2 (wrap64 (10 * (wrap64 (1 + t129)))) [.int .i64 (wrap64 (10 * (wrap64 (1 + t129))))] (fun k_ => some k_ ≠ (.slice Ao20 y120.length co20 : Value).ownBlock) (fun _ => False) rfl rfl ?aP (fun _ hk => hk.elim) ?aF ?aO (Below.refl _ _) ?aS ?aL ?_; (case aP => exact rfl); (case aF => exact (fun k_ hk => Kd.fresh' (Kd.R_lt (zR HO_117000.out)) k_ hk)); (case aO => exact (zR HO_7.out)); (case aS => exact (keep_size (w := w) (g := g) (row := none) (by repeat (first | (with_reducible first | exact HK.out | apply KeepBut.set_ | apply keep_drewN | apply keep_drew | apply keep_alloc | refine keep_far ?_ GW109.out _ | refine keep_far ?_ GW116.out _) | exact HK.out)))); (case aL => have := LMc27.out; omega); intro v133 w29 ho hb hg hat; rw [← Ny132.out] at ho; have HO134 := zQ (ho); replace HO_117000 := zQ (Kd.R_after (ok := (fun _ => True)) (by (with_reducible repeat (first | apply Kd.R_alloc | apply Kd.R_drewN | apply Kd.R_drew)); exact Kd.R_mono HO_117000.out (fun _ hk => ⟨trivial, hk⟩)) hg hat); replace HO_117001 := zQ (Kd.S_after (ok := (fun k_ => some k_ ≠ (.slice Ao20 y120.length co20 : Value).ownBlock)) (by (with_reducible repeat (first | apply Kd.S_alloc | apply Kd.S_drewN | apply Kd.S_drew)); exact Kd.S_mono HO_117001.out (fun _ hk => ⟨hk.2, hk.1⟩)) hg hat); replace BK109 := zQ (blk_grown (g := gb109) (o := .cells #[.slice none 0 0, .slice none 0 0] 27 (0, 0)) (zb BK109.out) hg (Kd.R_ne HO_7.out BK109.out (by decide))); replace BK116 := zQ (blk_grown (g := gb116) (o := .cells #[.slice Ao20 y120.length co20, u117001] 27 (0, 0)) (zb BK116.out) hg (Kd.R_ne HO_7.out BK116.out (by decide))); replace HB := zQ (below_weaken (by repeat (first | (with_reducible first | exact HB.out | apply below_alloc | apply pw_below_drewN | apply below_drew1 | refine below_set ?_ (IsS78.ge HI0.out) | refine below_set ?_ GE109.out | refine below_set ?_ GE116.out) | exact HB.out)) HL.out hb); replace HI0 := zQ (IsS78.grown (by repeat (first | (with_reducible first | exact HI0.out | apply IsS78.alloc | apply IsS78.drewN | apply IsS78.drew | apply IsS78.set_1 | apply IsS78.set_2 | refine IsS78.far ?_ NB0_109.out _ | refine IsS78.far ?_ NB0_116.out _) | exact HI0.out)) hg (IsS78.own_ne HI0.out HO_7.out (by decide))); replace HK := zQ (KeepBut.trans (by repeat (first | (with_reducible first | exact HK.out | apply KeepBut.set_ | apply keep_drewN | apply keep_drew | apply keep_alloc | refine keep_far ?_ GW109.out _ | refine keep_far ?_ GW116.out _) | exact HK.out)) (KeepBut.of_grown hg g) (Kd.R_base2 HO_7.out)); clear HO_7 ho hb hg hat))
          go_roundg k2
          case measure => have := HK1.out; have := HK2.out; omega
          case rel => exact ⟨(y132), (wrap64 (x8_2 + 1)), (t130), (t131), (zF), H', ⟨by have := HK1.out; have := HK2.out; omega⟩, ⟨zR HO134.out⟩, ⟨by (with_reducible repeat (first | apply Kd.R_alloc | apply Kd.R_drewN | apply Kd.R_drew)); exact Kd.R_mono HO_117000.out (fun _ hk => hk.2)⟩, ⟨by (with_reducible repeat (first | apply Kd.S_alloc | apply Kd.S_drewN | apply Kd.S_drew)); exact Kd.S_mono HO_117001.out (fun _ hk => ⟨hk.2, hk.1⟩)⟩, ⟨zb BK109.out⟩, ⟨zb BK116.out⟩, ⟨by repeat (first | (with_reducible first | exact HI0.out | apply IsS78.alloc | apply IsS78.drewN | apply IsS78.drew | apply IsS78.set_1 | apply IsS78.set_2 | refine IsS78.far ?_ NB0_109.out _ | refine IsS78.far ?_ NB0_116.out _) | exact HI0.out)⟩, ⟨by repeat (first | (with_reducible first | exact HK.out | apply KeepBut.set_ | apply keep_drewN | apply keep_drew | apply keep_alloc | refine keep_far ?_ GW109.out _ | refine keep_far ?_ GW116.out _) | exact HK.out)⟩, ⟨by repeat (first | (with_reducible first | exact HB.out | apply below_alloc | apply pw_below_drewN | apply below_drew1 | refine below_set ?_ (IsS78.ge HI0.out) | refine below_set ?_ GE109.out | refine below_set ?_ GE116.out) | exact HB.out)⟩⟩
         ·rw [if_neg c27] at H
          exact absurd H (by simp)
        ·rw [if_neg c25] at H
         have c25b0 : (x6_1 == x8_2) = false := beq_eq_false_iff_ne.mpr c25; have c25b1 : (x6_1 != x8_2) = true := bne_iff_ne.mpr c25; replace H := zob H; obtain ⟨⟨t135, t136, t137⟩, A30, H⟩ := H
         by_cases c31 : x7_2.length < 17592186044416
         ·rw [if_pos c31] at H
          have LMc31 := zQ c31; clear c31; obtain ⟨y138, hy138⟩ : ∃ y_ : List Int, y_ = (x7_2 ++ [wrap64 ((wrap64 (10 * t135)) - 30)]) := ⟨_, rfl⟩; replace H : (spec_l12Draw.l1 k2 a1 x6_1 y138 (wrap64 (x8_2 + 1)) s0_0 t136 t137 y120 x117001_1) = some (r1, r2, r3, r4) := zh H; have Ny138 := zQ hy138; clear hy138; have H' := zQ H; clear H
          go_wp2_with (first | ((with_reducible refine zgc 47 ?_); refine zgo (some 43) Try.func47 #[.pointer (some ⟨g, 0, none⟩), .int .i64 7] ?_; (with_reducible refine (spec_l00Src_pick.calls g s0_0 x1001_2 x1002_2 7 t135 t136 t137 w0 _ ?side1 ?side2 A30.out).mono ?_); (case side1 => repeat (first | (with_reducible first | exact HI0.out | apply IsS78.alloc | apply IsS78.drewN | apply IsS78.drew | apply IsS78.set_1 | apply IsS78.set_2 | refine IsS78.far ?_ NB0_109.out _ | refine IsS78.far ?_ NB0_116.out _) | exact HI0.out)); (case side2 => repeat (first | (with_reducible first | exact HB.out | apply below_alloc | apply pw_below_drewN | apply below_drew1 | refine below_set ?_ (IsS78.ge HI0.out) | refine below_set ?_ GE109.out | refine below_set ?_ GE116.out) | exact HB.out)); rintro e w32 ⟨rfl, hi, hb, hk⟩; refine ⟨_, rfl, ?_⟩; replace HO_7 := zQ (Kd.R_mono (Kd.R_keep (IsS78.apart (show IsS78 w0 _ g s0_0 x1001_2 x1002_2 from by repeat (first | (with_reducible first | exact HI0.out | apply IsS78.alloc | apply IsS78.drewN | apply IsS78.drew | apply IsS78.set_1 | apply IsS78.set_2 | refine IsS78.far ?_ NB0_109.out _ | refine IsS78.far ?_ NB0_116.out _) | exact HI0.out)) (zR HO_7.out) (by decide)) hk (fun _ h => h.2)) (fun _ h => h.1)); replace HO_117000 := zQ (Kd.R_mono (Kd.R_keep (IsS78.apart (show IsS78 w0 _ g s0_0 x1001_2 x1002_2 from by repeat (first | (with_reducible first | exact HI0.out | apply IsS78.alloc | apply IsS78.drewN | apply IsS78.drew | apply IsS78.set_1 | apply IsS78.set_2 | refine IsS78.far ?_ NB0_109.out _ | refine IsS78.far ?_ NB0_116.out _) | exact HI0.out)) (zR HO_117000.out) (by decide)) hk (fun _ h => h.2)) (fun _ h => h.1)); replace HO_117001 := zQ (Kd.S_mono (Kd.S_keep (IsS78.apartS (show IsS78 w0 _ g s0_0 x1001_2 x1002_2 from by repeat (first | (with_reducible first | exact HI0.out | apply IsS78.alloc | apply IsS78.drewN | apply IsS78.drew | apply IsS78.set_1 | apply IsS78.set_2 | refine IsS78.far ?_ NB0_109.out _ | refine IsS78.far ?_ NB0_116.out _) | exact HI0.out)) (zS HO_117001.out) (by decide)) hk (fun _ h => h.2)) (fun _ h => h.1)); replace BK109 := zQ (KeepBut.blk hk (g' := gb109) (o := .cells #[.slice none 0 0, .slice none 0 0] 27 (0, 0)) (zb BK109.out) NB109_0.out (by simp)); replace BK116 := zQ (KeepBut.blk hk (g' := gb116) (o := .cells #[.slice Ao20 y120.length co20, u117001] 27 (0, 0)) (zb BK116.out) NB116_0.out (by simp)); replace HK := zQ (KeepBut.trans (by repeat (first | (with_reducible first | exact HK.out | apply KeepBut.set_ | apply keep_drewN | apply keep_drew | apply keep_alloc | refine keep_far ?_ GW109.out _ | refine keep_far ?_ GW116.out _) | exact HK.out)) hk (.inl rfl)); replace HB := zQ (hb); replace HI0 := zQ (hi); (try clear hb); (try clear hk); (try clear hi)) | ((with_reducible refine gate_builtin (b := .append) (xs := #[.tmp 41, .tmp 46]) rfl ?_); at_builtin; refine Kd.R_append (Kd.int .i64) w.heap.size rfl (.tmp 41) (.tmp 46) 24 2 (.int .i64 0) 8 rfl Try.underlying24 info2 rfl (by decide) (by omega) u7 x7_2 (wrap64 ((wrap64 (10 * t135)) - 30)) [.int .i64 (wrap64 ((wrap64 (10 * t135)) - 30))] (fun k_ => some k_ ≠ (.slice Ao20 y120.length co20 : Value).ownBlock) (fun _ => False) rfl rfl ?aP (fun _ hk => hk.elim) ?aF ?aO (Below.refl _ _) ?aS ?aL ?_; (case aP => exact rfl); (case aF => exact (fun k_ hk => Kd.fresh' (Kd.R_lt (zR HO_117000.out)) k_ hk)); (case aO => exact (zR HO_7.out)); (case aS => exact (keep_size (w := w) (g := g) (row := none) (by repeat (first | (with_reducible first | exact HK.out | apply KeepBut.set_ | apply keep_drewN | apply keep_drew | apply keep_alloc | refine keep_far ?_ GW109.out _ | refine keep_far ?_ GW116.out _) | exact HK.out)))); (case aL => have := LMc31.out; omega); intro v139 w33 ho hb hg hat; rw [← Ny138.out] at ho; have HO140 := zQ (ho); replace HO_117000 := zQ (Kd.R_after (ok := (fun _ => True)) (by (with_reducible repeat (first | apply Kd.R_alloc | apply Kd.R_drewN | apply Kd.R_drew)); exact Kd.R_mono HO_117000.out (fun _ hk => ⟨trivial, hk⟩)) hg hat); replace HO_117001 := zQ (Kd.S_after (ok := (fun k_ => some k_ ≠ (.slice Ao20 y120.length co20 : Value).ownBlock)) (by (with_reducible repeat (first | apply Kd.S_alloc | apply Kd.S_drewN | apply Kd.S_drew)); exact Kd.S_mono HO_117001.out (fun _ hk => ⟨hk.2, hk.1⟩)) hg hat); replace BK109 := zQ (blk_grown (g := gb109) (o := .cells #[.slice none 0 0, .slice none 0 0] 27 (0, 0)) (zb BK109.out) hg (Kd.R_ne HO_7.out BK109.out (by decide))); replace BK116 := zQ (blk_grown (g := gb116) (o := .cells #[.slice Ao20 y120.length co20, u117001] 27 (0, 0)) (zb BK116.out) hg (Kd.R_ne HO_7.out BK116.out (by decide))); replace HB := zQ (below_weaken (by repeat (first | (with_reducible first | exact HB.out | apply below_alloc | apply pw_below_drewN | apply below_drew1 | refine below_set ?_ (IsS78.ge HI0.out) | refine below_set ?_ GE109.out | refine below_set ?_ GE116.out) | exact HB.out)) HL.out hb); replace HI0 := zQ (IsS78.grown (by repeat (first | (with_reducible first | exact HI0.out | apply IsS78.alloc | apply IsS78.drewN | apply IsS78.drew | apply IsS78.set_1 | apply IsS78.set_2 | refine IsS78.far ?_ NB0_109.out _ | refine IsS78.far ?_ NB0_116.out _) | exact HI0.out)) hg (IsS78.own_ne HI0.out HO_7.out (by decide))); replace HK := zQ (KeepBut.trans (by repeat (first | (with_reducible first | exact HK.out | apply KeepBut.set_ | apply keep_drewN | apply keep_drew | apply keep_alloc | refine keep_far ?_ GW109.out _ | refine keep_far ?_ GW116.out _) | exact HK.out)) (KeepBut.of_grown hg g) (Kd.R_base2 HO_7.out)); clear HO_7 ho hb hg hat))
          go_roundg k2
          case measure => have := HK1.out; have := HK2.out; omega
          case rel => exact ⟨(y138), (wrap64 (x8_2 + 1)), (t136), (t137), (zF), H', ⟨by have := HK1.out; have := HK2.out; omega⟩, ⟨zR HO140.out⟩, ⟨by (with_reducible repeat (first | apply Kd.R_alloc | apply Kd.R_drewN | apply Kd.R_drew)); exact Kd.R_mono HO_117000.out (fun _ hk => hk.2)⟩, ⟨by (with_reducible repeat (first | apply Kd.S_alloc | apply Kd.S_drewN | apply Kd.S_drew)); exact Kd.S_mono HO_117001.out (fun _ hk => ⟨hk.2, hk.1⟩)⟩, ⟨zb BK109.out⟩, ⟨zb BK116.out⟩, ⟨by repeat (first | (with_reducible first | exact HI0.out | apply IsS78.alloc | apply IsS78.drewN | apply IsS78.drew | apply IsS78.set_1 | apply IsS78.set_2 | refine IsS78.far ?_ NB0_109.out _ | refine IsS78.far ?_ NB0_116.out _) | exact HI0.out)⟩, ⟨by repeat (first | (with_reducible first | exact HK.out | apply KeepBut.set_ | apply keep_drewN | apply keep_drew | apply keep_alloc | refine keep_far ?_ GW109.out _ | refine keep_far ?_ GW116.out _) | exact HK.out)⟩, ⟨by repeat (first | (with_reducible first | exact HB.out | apply below_alloc | apply pw_below_drewN | apply below_drew1 | refine below_set ?_ (IsS78.ge HI0.out) | refine below_set ?_ GE109.out | refine below_set ?_ GE116.out) | exact HB.out)⟩⟩
         ·rw [if_neg c31] at H
          exact absurd H (by simp)
       ·rw [if_neg c24] at H
        have c24b0 := decide_eq_false c24; clear c24
        by_cases c34 : x117001_1.length < 5864062014805
        ·rw [if_pos c34] at H
         have LMc34 := zQ c34; clear c34; obtain ⟨y126, hy126⟩ : ∃ y_ : List (List Int), y_ = (x117001_1 ++ [x7_2]) := ⟨_, rfl⟩; replace H : (spec_l12Draw.l0 k2 a1 (wrap64 (x6_1 + 1)) s0_0 x1001_2 x1002_2 y120 y126) = some (r1, r2, r3, r4) := zh H; have Ny126 := zQ hy126; clear hy126; have H' := zQ H; clear H; have hnb35 := NB116_109.out; have hnc35 := NB109_116.out; have hnb36 := NB116_0.out; have hnc36 := NB0_116.out; obtain ⟨hcz37_0, hcz37_1, hfz37_0, hfz37_1⟩ := zy2 BK116.out; obtain ⟨Ao39, co39, eo39⟩ := Kd.R_slice HO_7.out; subst eo39
         go_wp2_with (first | ((with_reducible refine gate_builtin (b := .append) (xs := #[.tmp 49, .tmp 51]) rfl ?_); at_builtin; refine Kd.S_append (Kd.slice 2 (Kd.int .i64)) w.heap.size rfl (.tmp 49) (.tmp 51) 25 24 (.slice none 0 0) 24 rfl Try.underlying25 info24 rfl (by decide) (by omega) u117001 x117001_1 x7_2 [.slice Ao39 x7_2.length co39] (fun k_ => some k_ ≠ (.slice Ao20 y120.length co20 : Value).ownBlock) (fun k_ => some k_ = (.slice Ao39 x7_2.length co39 : Value).ownBlock) rfl rfl ?aP (fun k_ hk_ => ((Kd.R_mono (ok' := fun k_ => ((fun k_ => some k_ ≠ (.slice Ao20 y120.length co20 : Value).ownBlock)) k_ ∧ some k_ ≠ (u117001 : Value).ownBlock) (Kd.R_apart' (HO_7.out) (Kd.S_typed HO_117001.out) (by decide)) (fun k_ hk => ⟨hk.1, hk.2⟩))).1 k_ hk_.symm) ?aF ?aO (Below.refl _ _) ?aS ?aL ?_; (case aP => exact Kd.M_row (Kd.R_mono (Kd.R_tight rfl (Kd.R_mono (ok' := fun k_ => ((fun k_ => some k_ ≠ (.slice Ao20 y120.length co20 : Value).ownBlock)) k_ ∧ some k_ ≠ (u117001 : Value).ownBlock) (Kd.R_apart' (HO_7.out) (Kd.S_typed HO_117001.out) (by decide)) (fun k_ hk => ⟨hk.1, hk.2⟩))) (fun _ h_ => h_))); (case aF => exact (fun k_ hk => Kd.fresh' (Kd.R_lt (zR HO_117000.out)) k_ hk)); (case aO => exact (by (with_reducible repeat (first | apply Kd.S_alloc | apply Kd.S_drewN | apply Kd.S_drew)); exact Kd.S_mono HO_117001.out (fun k_ hk => ⟨hk.2, fun e_ => hk.1 e_⟩))); (case aS => exact (keep_size (w := w) (g := g) (row := none) (by repeat (first | (with_reducible first | exact HK.out | apply KeepBut.set_ | apply keep_drewN | apply keep_drew | apply keep_alloc | refine keep_far ?_ GW109.out _ | refine keep_far ?_ GW116.out _) | exact HK.out)))); (case aL => have := LMc34.out; omega); intro v127 w38 ho hb hg hat; rw [← Ny126.out] at ho; have HO128 := zQ (ho); replace HO_117000 := zQ (Kd.R_over' (zR HO_117000.out) (Kd.S_typed (zS HO_117001.out)) (by decide) hg); replace BK109 := zQ (blk_grown (g := gb109) (o := .cells #[.slice none 0 0, .slice none 0 0] 27 (0, 0)) (zb BK109.out) hg (Kd.S_ne HO_117001.out BK109.out (by decide))); replace BK116 := zQ (blk_grown (g := gb116) (o := .cells #[.slice Ao20 y120.length co20, u117001] 27 (0, 0)) (zb BK116.out) hg (Kd.S_ne HO_117001.out BK116.out (by decide))); replace HB := zQ (below_weaken (by repeat (first | (with_reducible first | exact HB.out | apply below_alloc | apply pw_below_drewN | apply below_drew1 | refine below_set ?_ (IsS78.ge HI0.out) | refine below_set ?_ GE109.out | refine below_set ?_ GE116.out) | exact HB.out)) HL.out hb); replace HI0 := zQ (IsS78.grown (by repeat (first | (with_reducible first | exact HI0.out | apply IsS78.alloc | apply IsS78.drewN | apply IsS78.drew | apply IsS78.set_1 | apply IsS78.set_2 | refine IsS78.far ?_ NB0_109.out _ | refine IsS78.far ?_ NB0_116.out _) | exact HI0.out)) hg (IsS78.own_neS HI0.out HO_117001.out (by decide))); replace HK := zQ (KeepBut.trans (by repeat (first | (with_reducible first | exact HK.out | apply KeepBut.set_ | apply keep_drewN | apply keep_drew | apply keep_alloc | refine keep_far ?_ GW109.out _ | refine keep_far ?_ GW116.out _) | exact HK.out)) (KeepBut.of_grown hg g) (Kd.S_base2 HO_117001.out)); clear HO_117001 HO_7 ho hb hg hat; obtain ⟨Ao40, co40, eo40⟩ := Kd.S_slice HO128.out; subst eo40; obtain ⟨hcz41_0, hcz41_1, hfz41_0, hfz41_1⟩ := zy2 BK116.out))
         go_roundg k2
         case measure => have := HK1.out; have := HK2.out; omega
         case rel => exact ⟨(wrap64 (x6_1 + 1)), (x1001_2), (x1002_2), (y120), (y126), (.slice Ao20 y120.length co20), (.slice Ao40 y126.length co40), (zF), H', ⟨by have := HK1.out; have := HK2.out; omega⟩, ⟨by (with_reducible repeat (first | apply Kd.R_alloc | apply Kd.R_drewN | apply Kd.R_drew)); exact Kd.R_mono (Kd.R_far (p := ⟨gb116, 1, none⟩) (Kd.R_types HO_117000.out BK116.out (by decide)) (fun _ hk => hk.2) (.slice Ao40 y126.length co40)) (fun _ hk => trivial)⟩, ⟨by (with_reducible repeat (first | apply Kd.S_alloc | apply Kd.S_drewN | apply Kd.S_drew)); exact Kd.S_mono (Kd.S_far (p := ⟨gb116, 1, none⟩) (Kd.S_types HO128.out BK116.out (by decide)) (fun _ hk => hk.2) (.slice Ao40 y126.length co40)) (fun _ hk => hk.1)⟩, ⟨by refine zb ?_; refine blk_far ?_ NB109_116.out _; refine zb ?_; exact BK109.out⟩, ⟨by refine zb ?_; refine blk_put (cs := #[.slice Ao20 y120.length co20, u117001]) ?_ 1 _ rfl; refine zb ?_; exact BK116.out⟩, ⟨by repeat (first | (with_reducible first | exact HI0.out | apply IsS78.alloc | apply IsS78.drewN | apply IsS78.drew | apply IsS78.set_1 | apply IsS78.set_2 | refine IsS78.far ?_ NB0_109.out _ | refine IsS78.far ?_ NB0_116.out _) | exact HI0.out)⟩, ⟨by repeat (first | (with_reducible first | exact HK.out | apply KeepBut.set_ | apply keep_drewN | apply keep_drew | apply keep_alloc | refine keep_far ?_ GW109.out _ | refine keep_far ?_ GW116.out _) | exact HK.out)⟩, ⟨by repeat (first | (with_reducible first | exact HB.out | apply below_alloc | apply pw_below_drewN | apply below_drew1 | refine below_set ?_ (IsS78.ge HI0.out) | refine below_set ?_ GE109.out | refine below_set ?_ GE116.out) | exact HB.out)⟩⟩
        ·rw [if_neg c34] at H
         exact absurd H (by simp)
    ·rw [if_neg c16] at H
     exact absurd H (by simp)
   ·rw [if_neg c14] at H
    have c14b0 := decide_eq_false c14; clear c14
    simp only [Option.some.injEq, Prod.mk.injEq] at H
    obtain ⟨rfl, rfl, rfl, rfl⟩ := H; have hnb42 := NB116_109.out; have hnc42 := NB109_116.out; have hnb43 := NB116_0.out; have hnc43 := NB0_116.out; obtain ⟨hcz44_0, hcz44_1, hfz44_0, hfz44_1⟩ := zy2 BK116.out; obtain ⟨Ao45, co45, eo45⟩ := Kd.R_slice HO_117000.out; subst eo45; have hnb46 := NB109_0.out; have hnc46 := NB0_109.out; obtain ⟨hcz47_0, hcz47_1, hfz47_0, hfz47_1⟩ := zy2 BK109.out; obtain ⟨Ao48, co48, eo48⟩ := Kd.S_slice HO_117001.out; subst eo48
    go_wp2
    refine bodyPost_ret (results_cell_row rfl _ _ gb109 27 #[.slice Ao45 x117000_1.length co45, .slice Ao48 x117001_1.length co48] (0, 0) _ rfl (by refine zb ?_; refine blk_put (cs := #[.slice Ao45 x117000_1.length co45, .slice none 0 0]) ?_ 1 _ rfl; refine zb ?_; refine blk_put (cs := #[.slice none 0 0, .slice none 0 0]) ?_ 0 _ rfl; refine zb ?_; exact BK109.out) Try.underlying27 rfl (by kernel_rfl)) rfl ?_
    exact ⟨_, _, zE, by (with_reducible repeat (first | apply Kd.R_alloc | apply Kd.R_drewN | apply Kd.R_drew)); exact Kd.R_mono (Kd.R_far (p := ⟨gb109, 1, none⟩) (Kd.R_far (p := ⟨gb109, 0, none⟩) (Kd.R_types HO_117000.out BK109.out (by decide)) (fun _ hk => hk.2) (.slice Ao45 x117000_1.length co45)) (fun _ hk => hk.2) (.slice Ao48 x117001_1.length co48)) (fun _ hk => trivial), by (with_reducible repeat (first | apply Kd.S_alloc | apply Kd.S_drewN | apply Kd.S_drew)); exact Kd.S_mono (Kd.S_far (p := ⟨gb109, 1, none⟩) (Kd.S_far (p := ⟨gb109, 0, none⟩) (Kd.S_types HO_117001.out BK109.out (by decide)) (fun _ hk => hk.2) (.slice Ao45 x117000_1.length co45)) (fun _ hk => hk.2) (.slice Ao48 x117001_1.length co48)) (fun _ hk => hk.1), by repeat (first | (with_reducible first | exact HI0.out | apply IsS78.alloc | apply IsS78.drewN | apply IsS78.drew | apply IsS78.set_1 | apply IsS78.set_2 | refine IsS78.far ?_ NB0_109.out _ | refine IsS78.far ?_ NB0_116.out _) | exact HI0.out), by repeat (first | (with_reducible first | exact HB.out | apply below_alloc | apply pw_below_drewN | apply below_drew1 | refine below_set ?_ (IsS78.ge HI0.out) | refine below_set ?_ GE109.out | refine below_set ?_ GE116.out) | exact HB.out), by repeat (first | (with_reducible first | exact HK.out | apply KeepBut.set_ | apply keep_drewN | apply keep_drew | apply keep_alloc | refine keep_far ?_ GW109.out _ | refine keep_far ?_ GW116.out _) | exact HK.out)⟩

def spec_A2Tuning.f (k : Nat) (l0 : List Int) : Option (List Int × (List (List Int))) := (spec_l00From.f l0).bind fun bt142 => ((spec_l00Src_pick.f bt142.1 bt142.2.1 bt142.2.2 3).bind fun bt146 => ((spec_l12Draw.f k bt142.1 bt146.2.1 bt146.2.2 (wrap64 (1 + bt146.1))).bind fun bt149 => (some (bt149.1, bt149.2.1))))
theorem spec_A2Tuning.calls (k : Nat) (A0 : Option Addr) (c0 : Nat) (l0 : List Int) (r1 : List Int) (r2 : List (List Int)) (w : World) (hr0 : Kd.C (Kd.int .u8) w A0 l0.length l0) (hc0 : l0.length ≤ c0) (h : spec_A2Tuning.f k l0 = some (r1, r2)) :
  Calls Try.prog 15 #[.slice A0 l0.length c0] w fun e w' => ∃ v0_ v1_ : Value, e = .returned (.agg #[v0_, v1_]) ∧ Kd.R (Kd.int .i64) 2 w' w.heap.size (fun _ => True) v0_ r1 ∧ Kd.S (Kd.slice 2 (Kd.int .i64)) 24 w' w.heap.size (fun k_ => some k_ ≠ (v0_ : Value).ownBlock) v1_ r2 ∧ Below w.heap.size w w' := by
 have hu27 := Try.underlying27
 have HR0 := zQ hr0
 have HC0 := zQ hc0
 clear hr0 hc0
 have HB := zQ (Below.refl w.heap.size w)
 have H := h; unfold spec_A2Tuning.f at H
 clear h
 replace H := zob H; obtain ⟨⟨t142, t143, t144⟩, A2, H⟩ := H
 replace H := zob H; obtain ⟨⟨t146, t147, t148⟩, A3, H⟩ := H
 replace H := zob H; obtain ⟨⟨t149, t152, t155, t156⟩, A4, H⟩ := H
 simp only [Option.some.injEq, Prod.mk.injEq] at H
 obtain ⟨rfl, rfl⟩ := H
 go_enter Try.func15, Try.ntmps15
 go_wp2_with (first | ((with_reducible refine zd 2 ?_); refine zbx (N := 2) (cs := #[.slice none 0 0, .slice none 0 0]) (t := 27) ?_; intro gb141 hg w5 hbox hb; have BK141 := zQ (hbox); have GW141 := zgz hg HB.out; have GE141 := GW141; replace HB := zbs HB.out hb; clear hb hbox hg) | ((with_reducible refine zgc 46 ?_); refine zgo (some 6) Try.func46 #[.slice A0 l0.length c0] ?_; (with_reducible refine (spec_l00From.calls _ _ l0 t142 t143 t144 w _ ?side1 HR0.out HC0.out A2.out).mono ?_); (case side1 => exact zB2 HB.out GE141.out); rintro e w6 ⟨g145, rfl, hi, hb, hb2⟩; refine ⟨_, rfl, ?_⟩; have HI145 := zQ (hi); have NB145_141 := zQ (IsS78.ne_blk hi (blk_below (g := gb141) (o := .cells #[.slice none 0 0, .slice none 0 0] 27 (0, 0)) (zb BK141.out) hb2) (by decide)); have NB141_145 := zQ (Ne.symm (IsS78.ne_blk hi (blk_below (g := gb141) (o := .cells #[.slice none 0 0, .slice none 0 0] 27 (0, 0)) (zb BK141.out) hb2) (by decide))); replace BK141 := zbl BK141.out hb2; replace HB := zQ (hb); (try clear hb); (try clear hb2); (try clear hi)) | ((with_reducible refine zgc 47 ?_); refine zgo (some 8) Try.func47 #[.pointer (some ⟨g145, 0, none⟩), .int .i64 3] ?_; (with_reducible refine (spec_l00Src_pick.calls g145 t142 t143 t144 3 t146 t147 t148 w _ ?side1 ?side2 A3.out).mono ?_); (case side1 => repeat (first | (with_reducible first | exact HI145.out | apply IsS78.alloc | apply IsS78.drewN | apply IsS78.drew | apply IsS78.set_1 | apply IsS78.set_2 | refine IsS78.far ?_ NB145_141.out _) | exact HI145.out)); (case side2 => repeat (first | (with_reducible first | exact HB.out | apply below_alloc | apply pw_below_drewN | apply below_drew1 | refine below_set ?_ (IsS78.ge HI145.out) | refine below_set ?_ GE141.out) | exact HB.out)); rintro e w7 ⟨rfl, hi, hb, hk⟩; refine ⟨_, rfl, ?_⟩; replace BK141 := zQ (KeepBut.blk hk (g' := gb141) (o := .cells #[.slice none 0 0, .slice none 0 0] 27 (0, 0)) (zb BK141.out) NB141_145.out (by simp)); replace HB := zQ (hb); replace HI145 := zQ (hi); (try clear hb); (try clear hk); (try clear hi)) | ((with_reducible refine zgc 48 ?_); refine zgo (some 12) Try.func48 #[.pointer (some ⟨g145, 0, none⟩), .int .i64 (wrap64 (1 + t146))] ?_; (with_reducible refine (spec_l12Draw.calls k g145 t142 t147 t148 (wrap64 (1 + t146)) t149 t152 t155 t156 w _ ?side1 ?side2 A4.out).mono ?_); (case side1 => repeat (first | (with_reducible first | exact HI145.out | apply IsS78.alloc | apply IsS78.drewN | apply IsS78.drew | apply IsS78.set_1 | apply IsS78.set_2 | refine IsS78.far ?_ NB145_141.out _) | exact HI145.out)); (case side2 => repeat (first | (with_reducible first | exact HB.out | apply below_alloc | apply pw_below_drewN | apply below_drew1 | refine below_set ?_ (IsS78.ge HI145.out) | refine below_set ?_ GE141.out) | exact HB.out)); rintro e w8 ⟨v150, v153, rfl, ho0, ho1, hi, hb, hk⟩; refine ⟨_, rfl, ?_⟩; have HO151 := zQ (Kd.R_lower ho0 (below_size (by repeat (first | (with_reducible first | exact HB.out | apply below_alloc | apply pw_below_drewN | apply below_drew1 | refine below_set ?_ (IsS78.ge HI145.out) | refine below_set ?_ GE141.out) | exact HB.out)))); have HO154 := zQ (Kd.S_lower ho1 (below_size (by repeat (first | (with_reducible first | exact HB.out | apply below_alloc | apply pw_below_drewN | apply below_drew1 | refine below_set ?_ (IsS78.ge HI145.out) | refine below_set ?_ GE141.out) | exact HB.out)))); replace BK141 := zQ (KeepBut.blk hk (g' := gb141) (o := .cells #[.slice none 0 0, .slice none 0 0] 27 (0, 0)) (zb BK141.out) NB141_145.out (by simp)); replace HB := zQ (hb); replace HI145 := zQ (hi); (try clear hb); (try clear hk); (try clear hi); (try clear ho0); (try clear ho1); obtain ⟨Ao9, co9, eo9⟩ := Kd.R_slice HO151.out; subst eo9; have hnb10 := NB141_145.out; have hnc10 := NB145_141.out; obtain ⟨hcz11_0, hcz11_1, hfz11_0, hfz11_1⟩ := zy2 BK141.out; obtain ⟨Ao12, co12, eo12⟩ := Kd.S_slice HO154.out; subst eo12))
 refine bodyPost_ret (results_cell_row rfl _ _ gb141 27 #[.slice Ao9 t149.length co9, .slice Ao12 t152.length co12] (0, 0) _ rfl (by refine zb ?_; refine blk_put (cs := #[.slice Ao9 t149.length co9, .slice none 0 0]) ?_ 1 _ rfl; refine zb ?_; refine blk_put (cs := #[.slice none 0 0, .slice none 0 0]) ?_ 0 _ rfl; refine zb ?_; exact BK141.out) Try.underlying27 rfl (by kernel_rfl)) rfl ?_
 exact ⟨_, _, zE, by (with_reducible repeat (first | apply Kd.R_alloc | apply Kd.R_drewN | apply Kd.R_drew)); exact Kd.R_mono (Kd.R_far (p := ⟨gb141, 1, none⟩) (Kd.R_far (p := ⟨gb141, 0, none⟩) (Kd.R_types HO151.out BK141.out (by decide)) (fun _ hk => hk.2) (.slice Ao9 t149.length co9)) (fun _ hk => hk.2) (.slice Ao12 t152.length co12)) (fun _ hk => trivial), by (with_reducible repeat (first | apply Kd.S_alloc | apply Kd.S_drewN | apply Kd.S_drew)); exact Kd.S_mono (Kd.S_far (p := ⟨gb141, 1, none⟩) (Kd.S_far (p := ⟨gb141, 0, none⟩) (Kd.S_types HO154.out BK141.out (by decide)) (fun _ hk => hk.2) (.slice Ao9 t149.length co9)) (fun _ hk => hk.2) (.slice Ao12 t152.length co12)) (fun _ hk => hk.1), by repeat (first | (with_reducible first | exact HB.out | apply below_alloc | apply pw_below_drewN | apply below_drew1 | refine below_set ?_ (IsS78.ge HI145.out) | refine below_set ?_ GE141.out) | exact HB.out)⟩

def spec_A2Turns.l0 : Nat → Int → List Int → Int → List Int → Int → Int → Option (List Int)
 | 0, _, _, _, _, _, _ => none
 | k + 1, x1, x6, x7, x161000, x161001, x161002 => if x7 < x1 then ((spec_l00Src_pick.f x161000 x161001 x161002 13).bind fun bt164 => (if x6.length < 17592186044416 then (spec_A2Turns.l0 k x1 (x6 ++ [wrap64 (bt164.1 - 6)]) (wrap64 (x7 + 1)) x161000 bt164.2.1 bt164.2.2) else (none))) else (some x6)
def spec_A2Turns.f (k : Nat) (l0 : List Int) (a1 : Int) : Option (List Int) := (spec_l00From.f l0).bind fun bt157 => (spec_A2Turns.l0 k a1 (([] : List Int)) 0 bt157.1 bt157.2.1 bt157.2.2)
theorem spec_A2Turns.calls (k : Nat) (A0 : Option Addr) (c0 : Nat) (l0 : List Int) (a1 : Int) (r : List Int) (w : World) (hr0 : Kd.C (Kd.int .u8) w A0 l0.length l0) (hc0 : l0.length ≤ c0) (h : spec_A2Turns.f k l0 a1 = some r) :
  Calls Try.prog 16 #[.slice A0 l0.length c0, .int .i64 a1] w fun e w' => ∃ v0_ : Value, e = .returned (v0_) ∧ Kd.R (Kd.int .i64) 2 w' w.heap.size (fun _ => True) v0_ r ∧ Below w.heap.size w w' := by
 have HR0 := zQ hr0
 have HC0 := zQ hc0
 clear hr0 hc0
 have HB := zQ (Below.refl w.heap.size w)
 have H := h; unfold spec_A2Turns.f at H
 clear h
 replace H := zob H; obtain ⟨⟨t157, t158, t159⟩, A3, H⟩ := H
 obtain ⟨y161, hy161⟩ : ∃ y_ : List Int, y_ = (([] : List Int)) := ⟨_, rfl⟩
 replace H : (spec_A2Turns.l0 k a1 y161 0 t157 t158 t159) = some r := zh H
 have Ny161 := zQ hy161
 clear hy161
 have H' := zQ H
 clear H
 go_enter Try.func16, Try.ntmps16
 go_wp2_with (first | ((with_reducible refine zgc 46 ?_); refine zgo (some 9) Try.func46 #[.slice A0 l0.length c0] ?_; (with_reducible refine (spec_l00From.calls _ _ l0 t157 t158 t159 w _ ?side1 HR0.out HC0.out A3.out).mono ?_); (case side1 => exact zB HB.out); rintro e w4 ⟨g160, rfl, hi, hb, hb2⟩; refine ⟨_, rfl, ?_⟩; have HI160 := zQ (hi); replace HB := zQ (hb); (try clear hb); (try clear hb2); (try clear hi)) | ((with_reducible refine zd 10 ?_); refine Kd.R_lit (Kd.int .i64) _ 2 ?hg (N := 10) ?hd (xs := ([] : List Int)) (inner := []) (ok := fun _ => True) (okp := fun _ => True) ?hr ?hp (fun _ hk => hk) trivial (Below.refl _ _) (Nat.le_refl _) (by simp) ?_; (case hd => rfl); (case hg => rfl); (case hr => first | (go_simp; done) | (go_simp; rfl)); (case hp => exact (Reps.none _ _)); intro v162 w5 ho6 hb hg_ hnew_; clear hg_ hnew_; (first | rw [← Ny161.out] at ho6 | (simp only [Int.reduceToNat] at ho6; rw [← Ny161.out] at ho6)); have HO163 := zQ (Kd.R_lower ho6 (below_size (by repeat (first | (with_reducible first | exact HB.out | apply below_alloc | apply pw_below_drewN | apply below_drew1 | refine below_set ?_ (IsS78.ge HI160.out)) | exact HB.out)))); replace HB := zQ (below_step (by repeat (first | (with_reducible first | exact HB.out | apply below_alloc | apply pw_below_drewN | apply below_drew1 | refine below_set ?_ (IsS78.ge HI160.out)) | exact HB.out)) hb); replace HI160 := zQ (IsS78.below (by repeat (first | (with_reducible first | exact HI160.out | apply IsS78.alloc | apply IsS78.drewN | apply IsS78.drew | apply IsS78.set_1 | apply IsS78.set_2) | exact HI160.out)) hb); clear hb ho6))
 go_loopg [6, 7] k (fun kq v6 v7 w' => ∃ (x6_1 : List Int) (x7_1 : Int) (x161001_1 : Int) (x161002_1 : Int), v7 = .int .i64 x7_1 ∧ Aside0 (spec_A2Turns.l0 kq a1 x6_1 x7_1 t157 x161001_1 x161002_1 = some r) ∧ Aside0 (kq ≤ k) ∧ Aside0 (Kd.R (Kd.int .i64) 2 w' w.heap.size (fun _ => True) v6 x6_1) ∧ Aside0 (IsS78 w w' g160 t157 x161001_1 x161002_1) ∧ Aside0 (Below w.heap.size w w'))
 case atStart => exact ⟨(y161), (0), (t158), (t159), (zF), H', ⟨Nat.le_refl _⟩, ⟨zR HO163.out⟩, ⟨by repeat (first | (with_reducible first | exact HI160.out | apply IsS78.alloc | apply IsS78.drewN | apply IsS78.drew | apply IsS78.set_1 | apply IsS78.set_2) | exact HI160.out)⟩, ⟨by repeat (first | (with_reducible first | exact HB.out | apply below_alloc | apply pw_below_drewN | apply below_drew1 | refine below_set ?_ (IsS78.ge HI160.out)) | exact HB.out)⟩⟩
 case round =>
  clear H'; (try clear c1); (try clear p2); (try clear c4); obtain ⟨x6_1, x7_1, x161001_1, x161002_1, rfl, HA, HK1, HO_6, HI160, HB⟩ := hrel
  cases gk with
  | zero => exact absurd HA.out (by simp [spec_A2Turns.l0])
  | succ k1 =>
   have H := HA.out; clear HA
   simp only [spec_A2Turns.l0] at H
   by_cases c7 : x7_1 < a1
   ·rw [if_pos c7] at H
    have c7b0 := decide_eq_true c7; clear c7; replace H := zob H; obtain ⟨⟨t164, t165, t166⟩, A8, H⟩ := H
    by_cases c9 : x6_1.length < 17592186044416
    ·rw [if_pos c9] at H
     have LMc9 := zQ c9; clear c9; obtain ⟨y167, hy167⟩ : ∃ y_ : List Int, y_ = (x6_1 ++ [wrap64 (t164 - 6)]) := ⟨_, rfl⟩; replace H : (spec_A2Turns.l0 k1 a1 y167 (wrap64 (x7_1 + 1)) t157 t165 t166) = some r := zh H; have Ny167 := zQ hy167; clear hy167; have H' := zQ H; clear H
     go_wp2_with (first | ((with_reducible refine zgc 47 ?_); refine zgo (some 18) Try.func47 #[.pointer (some ⟨g160, 0, none⟩), .int .i64 13] ?_; (with_reducible refine (spec_l00Src_pick.calls g160 t157 x161001_1 x161002_1 13 t164 t165 t166 w _ ?side1 ?side2 A8.out).mono ?_); (case side1 => repeat (first | (with_reducible first | exact HI160.out | apply IsS78.alloc | apply IsS78.drewN | apply IsS78.drew | apply IsS78.set_1 | apply IsS78.set_2) | exact HI160.out)); (case side2 => repeat (first | (with_reducible first | exact HB.out | apply below_alloc | apply pw_below_drewN | apply below_drew1 | refine below_set ?_ (IsS78.ge HI160.out)) | exact HB.out)); rintro e w10 ⟨rfl, hi, hb, hk⟩; refine ⟨_, rfl, ?_⟩; replace HO_6 := zQ (Kd.R_mono (Kd.R_keep (IsS78.apart (show IsS78 w _ g160 t157 x161001_1 x161002_1 from by repeat (first | (with_reducible first | exact HI160.out | apply IsS78.alloc | apply IsS78.drewN | apply IsS78.drew | apply IsS78.set_1 | apply IsS78.set_2) | exact HI160.out)) (zR HO_6.out) (by decide)) hk (fun _ h => h.2)) (fun _ h => h.1)); replace HB := zQ (hb); replace HI160 := zQ (hi); (try clear hb); (try clear hk); (try clear hi)) | ((with_reducible refine gate_builtin (b := .append) (xs := #[.tmp 16, .tmp 20]) rfl ?_); at_builtin; refine Kd.R_append (Kd.int .i64) (w0 := w) w.heap.size rfl (.tmp 16) (.tmp 20) 24 2 (.int .i64 0) 8 rfl Try.underlying24 info2 rfl (by decide) (by omega) u6 x6_1 (wrap64 (t164 - 6)) [.int .i64 (wrap64 (t164 - 6))] (fun _ => True) (fun _ => False) rfl rfl ?aP (fun _ hk => hk.elim) ?aF ?aO ?aB ?aS ?aL ?_; (case aP => exact rfl); (case aB => exact (by repeat (first | (with_reducible first | exact HB.out | apply below_alloc | apply pw_below_drewN | apply below_drew1 | refine below_set ?_ (IsS78.ge HI160.out)) | exact HB.out))); (case aF => exact (fun _ _ => trivial)); (case aO => exact (zR HO_6.out)); (case aS => exact (below_size (by repeat (first | (with_reducible first | exact HB.out | apply below_alloc | apply pw_below_drewN | apply below_drew1 | refine below_set ?_ (IsS78.ge HI160.out)) | exact HB.out)))); (case aL => have := LMc9.out; omega); intro v168 w11 ho hb hg hat; rw [← Ny167.out] at ho; have HO169 := zQ (ho); replace HI160 := zQ (IsS78.grown (by repeat (first | (with_reducible first | exact HI160.out | apply IsS78.alloc | apply IsS78.drewN | apply IsS78.drew | apply IsS78.set_1 | apply IsS78.set_2) | exact HI160.out)) hg (IsS78.own_ne HI160.out HO_6.out (by decide))); replace HB := zQ (hb); clear HO_6 ho hb hg hat))
     go_roundg k1
     case measure => have := HK1.out; omega
     case rel => exact ⟨(y167), (wrap64 (x7_1 + 1)), (t165), (t166), (zF), H', ⟨by have := HK1.out; omega⟩, ⟨zR HO169.out⟩, ⟨by repeat (first | (with_reducible first | exact HI160.out | apply IsS78.alloc | apply IsS78.drewN | apply IsS78.drew | apply IsS78.set_1 | apply IsS78.set_2) | exact HI160.out)⟩, ⟨by repeat (first | (with_reducible first | exact HB.out | apply below_alloc | apply pw_below_drewN | apply below_drew1 | refine below_set ?_ (IsS78.ge HI160.out)) | exact HB.out)⟩⟩
    ·rw [if_neg c9] at H
     exact absurd H (by simp)
   ·rw [if_neg c7] at H
    have c7b0 := decide_eq_false c7; clear c7; obtain rfl := Option.some.inj H
    go_wp2
    go_ret
    exact ⟨_, zE, zR HO_6.out, by repeat (first | (with_reducible first | exact HB.out | apply below_alloc | apply pw_below_drewN | apply below_drew1 | refine below_set ?_ (IsS78.ge HI160.out)) | exact HB.out)⟩

end
end Go.Proofs.Ythfpaldhdohnkaa.PTune

