import Derived.Test.YtimjblgepbhoaaaHStays0
namespace Go.Proofs.Ytimjblgepbhoaaa.PStays
noncomputable section
open Go.RowKit Go.Proofs.YtimjblgepbhoaaaW.PrintWords Go.Proofs.YtimjblgepbhoaaaW.PrintLast Go.Proofs.YtimjblgepbhoaaaW.PrintMore
attribute [local go_sem] max2_int min2_int max_two min_two max_three min_three max_four min_four   -- for this text's walks alone
set_option linter.unusedVariables false
set_option linter.unusedSimpArgs false
set_option maxHeartbeats 8000000
set_option maxRecDepth 100000

def impl_allBars.l0 : Nat → List Int → Int → Int → Option (List Int)
 | 0, _, _, _ => none
 | k + 1, x3, x8, x9 => if x9 < x8 then (if x3.length < 17592186044416 then (impl_allBars.l0 k (x3 ++ [x9]) x8 (wrap64 (x9 + 1))) else (none)) else (some x3)
def impl_allBars.f (k : Nat) (l0_0 : List (S164)) (l0_1 : List (S115)) : Option (List Int) := impl_allBars.l0 k (([] : List Int)) (l0_1.length : Int) 0
theorem impl_allBars.calls (k : Nat) (A0_0 : Option Addr) (c0_0 : Nat) (l0_0 : List (S164)) (A0_1 : Option Addr) (c0_1 : Nat) (l0_1 : List (S115)) (r : List Int) (w : World) (hA : Kd.C k164 w A0_0 l0_0.length l0_0) (jA : l0_0.length ≤ c0_0) (gA : Kd.C k115 w A0_1 l0_1.length l0_1) (iA : l0_1.length ≤ c0_1) (h : impl_allBars.f k l0_0 l0_1 = some r) :
  Calls Try.prog 69 #[.agg #[.slice A0_0 l0_0.length c0_0, .slice A0_1 l0_1.length c0_1]] w fun e w' => ∃ v0_ : Value, e = .returned (v0_) ∧ Kd.R (Kd.int .i64) 2 w' w.heap.size (fun _ => True) v0_ r ∧ Below w.heap.size w w' := by
 have kB := Try.underlying27
 have KA := zQ hA
 have RA := zQ jA
 clear hA jA
 have JA := zQ gA
 have QA := zQ iA
 clear gA iA
 have HB := zQ (Below.refl w.heap.size w)
 have H := h; unfold impl_allBars.f at H
 clear h
 obtain ⟨AA, pA⟩ : ∃ y_ : List Int, y_ = (([] : List Int)) := ⟨_, rfl⟩
 replace H : (impl_allBars.l0 k AA (l0_1.length : Int) 0) = some r := zh H
 have sA := zQ pA
 clear pA
 have H' := zQ H
 clear H
 go_enter Try.func69, Try.ntmps69
 go_wp2_with (first | ((with_reducible refine zd 1 ?_); refine zbx (N := 1) (cs := #[.slice A0_0 l0_0.length c0_0, .slice A0_1 l0_1.length c0_1]) (t := 27) ?_; intro qA hg w2 EA hb; have aA := zQ (EA); have SA := zgz hg HB.out; have cA := SA; replace HB := zbs HB.out hb; clear hb EA hg) | ((with_reducible refine zd 5 ?_); refine Kd.R_lit (Kd.int .i64) _ 2 ?hg (N := 5) ?hd (xs := ([] : List Int)) (inner := []) (ok := fun _ => True) (okp := fun _ => True) ?hr ?hp (fun _ hk => hk) trivial (Below.refl _ _) (Nat.le_refl _) (by simp) ?_; (case hd => rfl); (case hg => rfl); (case hr => first | (go_simp; done) | (go_simp; rfl)); (case hp => exact (Reps.none _ _)); intro jB w3 CA hb hg_ hnew_; clear hg_ hnew_; (first | rw [← sA.out] at CA | (simp only [Int.reduceToNat] at CA; rw [← sA.out] at CA)); have OA := zQ (Kd.R_lower CA (below_size (zB2 HB.out cA.out))); replace aA := zbl aA.out hb; replace HB := zbs2 HB.out cA.out hb; clear hb CA; obtain ⟨wA, vA, uA, tA⟩ := zy2 aA.out))
 go_loopg [3, 9] k (fun kq v3 v9 w' => ∃ (bA : List Int) (dA : Int), v9 = .int .i64 dA ∧ Aside0 (impl_allBars.l0 kq bA (l0_1.length : Int) dA = some r) ∧ Aside0 (kq ≤ k) ∧ Aside0 (Kd.R (Kd.int .i64) 2 w' w.heap.size (fun _ => True) v3 bA) ∧ Aside0 (w'.heap[qA]? = some (.cells #[(.slice A0_0 l0_0.length c0_0), (.slice A0_1 l0_1.length c0_1)] 27 (0, 0))) ∧ Aside0 (Below w.heap.size w w'))
 case atStart => exact ⟨(AA), (0), (zF), H', ⟨Nat.le_refl _⟩, ⟨zR OA.out⟩, ⟨zb aA.out⟩, ⟨zB2 HB.out cA.out⟩⟩
 case round =>
  clear H'; (try clear p2); (try clear wA vA uA tA); obtain ⟨bA, dA, rfl, HA, PA, fA, aA, HB⟩ := hrel
  cases gk with
  | zero => exact absurd HA.out (by simp [impl_allBars.l0])
  | succ k1 =>
   have H := HA.out; clear HA
   simp only [impl_allBars.l0] at H
   by_cases c6 : dA < (l0_1.length : Int)
   ·rw [if_pos c6] at H
    have cB := decide_eq_true c6; clear c6
    by_cases c7 : bA.length < 17592186044416
    ·rw [if_pos c7] at H
     have eB := zQ c7; clear c7; obtain ⟨zA, oA⟩ : ∃ y_ : List Int, y_ = (bA ++ [dA]) := ⟨_, rfl⟩; replace H : (impl_allBars.l0 k1 zA (l0_1.length : Int) (wrap64 (dA + 1))) = some r := zh H; have IA := zQ oA; clear oA; have H' := zQ H; clear H
     go_wp2_with (first | ((with_reducible refine gate_builtin (b := .append) (xs := #[.tmp 12, .tmp 14]) rfl ?_); at_builtin; refine Kd.R_append (Kd.int .i64) (w0 := w) w.heap.size rfl (.tmp 12) (.tmp 14) 31 2 (.int .i64 0) 8 rfl Try.underlying31 info2 rfl (by decide) (by omega) u3 bA dA [.int .i64 dA] (fun _ => True) (fun _ => False) rfl rfl ?aP (fun _ hk => hk.elim) ?aF ?aO ?aB ?aS ?aL ?_; (case aP => exact rfl); (case aB => exact (zB2 HB.out cA.out)); (case aF => exact (fun _ _ => trivial)); (case aO => exact (zR fA.out)); (case aS => exact (below_size (zB2 HB.out cA.out))); (case aL => have := eB.out; omega); intro iB w8 ho hb hg hat; rw [← IA.out] at ho; have NA := zQ (ho); replace aA := zQ (blk_grown (g := qA) (o := .cells #[.slice A0_0 l0_0.length c0_0, .slice A0_1 l0_1.length c0_1] 27 (0, 0)) (zb aA.out) hg (Kd.R_ne fA.out aA.out (by decide))); replace HB := zQ (hb); clear fA ho hb hg hat))
     go_roundg k1
     case measure => have := PA.out; omega
     case rel => exact ⟨(zA), (wrap64 (dA + 1)), (zF), H', ⟨by have := PA.out; omega⟩, ⟨zR NA.out⟩, ⟨zb aA.out⟩, ⟨zB2 HB.out cA.out⟩⟩
    ·rw [if_neg c7] at H
     exact absurd H (by simp)
   ·rw [if_neg c6] at H
    have cB := decide_eq_false c6; clear c6; obtain rfl := Option.some.inj H
    go_wp2
    go_ret
    exact ⟨_, zE, zR fA.out, zB2 HB.out cA.out⟩

def spec_l11All.l0 : Nat → List Int → Int → List (S164) → List (S115) → Option (List Int)
 | 0, _, _, _, _ => none
 | k + 1, x3, x4, BA, lA => if x4 < (lA.length : Int) then (if x3.length < 17592186044416 then (spec_l11All.l0 k (x3 ++ [x4]) (wrap64 (x4 + 1)) BA lA) else (none)) else (some x3)
def spec_l11All.f (k : Nat) (l0_0 : List (S164)) (l0_1 : List (S115)) : Option (List Int) := spec_l11All.l0 k (([] : List Int)) 0 l0_0 l0_1
theorem spec_l11All.calls (k : Nat) (g0 : Nat) (A0_0 : Option Addr) (c0_0 : Nat) (l0_0 : List (S164)) (A0_1 : Option Addr) (c0_1 : Nat) (l0_1 : List (S115)) (r : List Int) (w : World) (FA : w.heap[g0]? = some (.cells #[.slice A0_0 l0_0.length c0_0, .slice A0_1 l0_1.length c0_1] 27 (0, 0))) (hA : Kd.C k164 w A0_0 l0_0.length l0_0) (jA : l0_0.length ≤ c0_0) (gA : Kd.C k115 w A0_1 l0_1.length l0_1) (iA : l0_1.length ≤ c0_1) (h : spec_l11All.f k l0_0 l0_1 = some r) :
  Calls Try.prog 109 #[.pointer (some ⟨g0, 0, none⟩)] w fun e w' => ∃ v0_ : Value, e = .returned (v0_) ∧ Kd.R (Kd.int .i64) 2 w' w.heap.size (fun _ => True) v0_ r ∧ Below w.heap.size w w' := by
 have KA := zQ hA
 have RA := zQ jA
 clear hA jA
 have JA := zQ gA
 have QA := zQ iA
 clear gA iA
 have kA := zQ FA
 clear FA
 have HB := zQ (Below.refl w.heap.size w)
 have H := h; unfold spec_l11All.f at H
 clear h
 obtain ⟨yA, nA⟩ : ∃ y_ : List Int, y_ = (([] : List Int)) := ⟨_, rfl⟩
 replace H : (spec_l11All.l0 k yA 0 l0_0 l0_1) = some r := zh H
 have rA := zQ nA
 clear nA
 have H' := zQ H
 clear H
 go_enter Try.func109, Try.ntmps109
 go_wp2_with (first | ((with_reducible refine zd 5 ?_); refine Kd.R_lit (Kd.int .i64) _ 2 ?hg (N := 5) ?hd (xs := ([] : List Int)) (inner := []) (ok := fun _ => True) (okp := fun _ => True) ?hr ?hp (fun _ hk => hk) trivial (Below.refl _ _) (Nat.le_refl _) (by simp) ?_; (case hd => rfl); (case hg => rfl); (case hr => first | (go_simp; done) | (go_simp; rfl)); (case hp => exact (Reps.none _ _)); intro hB w2 DA hb hg_ hnew_; clear hg_ hnew_; (first | rw [← rA.out] at DA | (simp only [Int.reduceToNat] at DA; rw [← rA.out] at DA)); have MA := zQ (Kd.R_lower DA (below_size (zB HB.out))); replace kA := zbl kA.out hb; replace HB := zbs HB.out hb; clear hb DA))
 go_loopg [3, 4] k (fun kq v3 v4 w' => ∃ (bA : List Int) (eA : Int), v4 = .int .i64 eA ∧ Aside0 (spec_l11All.l0 kq bA eA l0_0 l0_1 = some r) ∧ Aside0 (kq ≤ k) ∧ Aside0 (Kd.R (Kd.int .i64) 2 w' w.heap.size (fun _ => True) v3 bA) ∧ Aside0 (w'.heap[g0]? = some (.cells #[(.slice A0_0 l0_0.length c0_0), (.slice A0_1 l0_1.length c0_1)] 27 (0, 0))) ∧ Aside0 (Below w.heap.size w w'))
 case atStart => exact ⟨(yA), (0), (zF), H', ⟨Nat.le_refl _⟩, ⟨zR MA.out⟩, ⟨zb kA.out⟩, ⟨zB HB.out⟩⟩
 case round =>
  clear H'; (try clear c1); (try clear p2); obtain ⟨bA, eA, rfl, HA, PA, fA, kA, HB⟩ := hrel
  cases gk with
  | zero => exact absurd HA.out (by simp [spec_l11All.l0])
  | succ k1 =>
   have H := HA.out; clear HA
   simp only [spec_l11All.l0] at H
   by_cases c4 : eA < (l0_1.length : Int)
   ·rw [if_pos c4] at H
    have dB := decide_eq_true c4; clear c4
    by_cases c5 : bA.length < 17592186044416
    ·rw [if_pos c5] at H
     have fB := zQ c5; clear c5; obtain ⟨xA, mA⟩ : ∃ y_ : List Int, y_ = (bA ++ [eA]) := ⟨_, rfl⟩; replace H : (spec_l11All.l0 k1 xA (wrap64 (eA + 1)) l0_0 l0_1) = some r := zh H; have GA := zQ mA; clear mA; have H' := zQ H; clear H; obtain ⟨bB, ZA, WA, VA⟩ := zy2 kA.out
     go_wp2_with (first | ((with_reducible refine gate_builtin (b := .append) (xs := #[.tmp 15, .tmp 17]) rfl ?_); at_builtin; refine Kd.R_append (Kd.int .i64) (w0 := w) w.heap.size rfl (.tmp 15) (.tmp 17) 31 2 (.int .i64 0) 8 rfl Try.underlying31 info2 rfl (by decide) (by omega) u3 bA eA [.int .i64 eA] (fun _ => True) (fun _ => False) rfl rfl ?aP (fun _ hk => hk.elim) ?aF ?aO ?aB ?aS ?aL ?_; (case aP => exact rfl); (case aB => exact (zB HB.out)); (case aF => exact (fun _ _ => trivial)); (case aO => exact (zR fA.out)); (case aS => exact (below_size (zB HB.out))); (case aL => have := fB.out; omega); intro gB w7 ho hb hg hat; rw [← GA.out] at ho; have LA := zQ (ho); replace kA := zQ (blk_grown (g := g0) (o := .cells #[.slice A0_0 l0_0.length c0_0, .slice A0_1 l0_1.length c0_1] 27 (0, 0)) (zb kA.out) hg (Kd.R_ne fA.out kA.out (by decide))); replace HB := zQ (hb); clear fA ho hb hg hat))
     go_roundg k1
     case measure => have := PA.out; omega
     case rel => exact ⟨(xA), (wrap64 (eA + 1)), (zF), H', ⟨by have := PA.out; omega⟩, ⟨zR LA.out⟩, ⟨zb kA.out⟩, ⟨zB HB.out⟩⟩
    ·rw [if_neg c5] at H
     exact absurd H (by simp)
   ·rw [if_neg c4] at H
    have dB := decide_eq_false c4; clear c4; obtain rfl := Option.some.inj H; obtain ⟨YA, XA, UA, TA⟩ := zy2 kA.out
    go_wp2
    go_ret
    exact ⟨_, zE, zR fA.out, zB HB.out⟩

end
end Go.Proofs.Ytimjblgepbhoaaa.PStays

