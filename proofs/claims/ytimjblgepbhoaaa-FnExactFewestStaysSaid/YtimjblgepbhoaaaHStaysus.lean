import Derived.Test.YtimjblgepbhoaaaHStays0
import Derived.Test.YtimjblgepbhoaaaHStaysu
namespace Go.Proofs.Ytimjblgepbhoaaa.PStays
noncomputable section
open Go.RowKit Go.Proofs.YtimjblgepbhoaaaW.PrintWords Go.Proofs.YtimjblgepbhoaaaW.PrintLast Go.Proofs.YtimjblgepbhoaaaW.PrintMore
attribute [local go_sem] max2_int min2_int max_two min_two max_three min_three max_four min_four   -- for this text's walks alone
set_option linter.unusedVariables false
set_option linter.unusedSimpArgs false
set_option maxHeartbeats 8000000
set_option maxRecDepth 100000

theorem Kd.R_tight2 {α : Type} {d : Kd α} {e base : Nat} {W : World} {ok : Nat → Prop} {v : Value} {xs : List α} (hE : d.E = []) (h : d.R e W base ok v xs) : d.R e W base (fun k => some k = v.ownBlock ∧ ok k) v xs := Kd.R_mono (Kd.R_tight hE h) (fun k hk => ⟨hk, h.1 k hk.symm⟩)
theorem Kd.S_keptB {α : Type} {d : Kd α} {e base : Nat} {W W2 : World} {ok S : Nat → Prop} {v : Value} {xs : List α} (h : Kd.S d e W base ok v xs) (hk : Kept W W2 S) (hne : ∀ k, ok k → ¬ S k) : Kd.S d e W2 base (fun k => ok k ∧ (¬ S k ∧ k < W.heap.size)) v xs :=
 Kd.S_step (Kd.S_mono (Kd.S_bound h) (fun k hk => ⟨hk.1, hne k hk.1, hk.2.2.1⟩)) (fun k ho hlt => hk.2 k hlt ho.2.1)
theorem Kd.S_apart' {α : Type} {d : Kd α} {e e' base : Nat} {W : World} {ok : Nat → Prop} {u v : Value} {xs : List α} (h : Kd.S d e W base ok u xs) (hty : ∀ k, v.ownBlock = some k → ∃ cells, W.heap[k]? = some (.cells cells e' (0, 0))) (ht : ∀ q, q ∈ e :: d.E → q ≠ e') : Kd.S d e W base (fun k => ok k ∧ some k ≠ v.ownBlock) u xs := by
 obtain ⟨f, h⟩ := h
 exact ⟨f, Kd.R_apart' h hty ht⟩
def laws_markPullSS.l0 : Nat → List (List S113) → Int → Int → Option (Int × List (List S113))
 | 0, _, _, _ => none
 | k + 1, x0, x1, x5 => if x5 < (x0.length : Int) then (if 0 ≤ x5 then ((laws_markPullS.f k (x0.getD x5.toNat []) x1).bind fun b => (laws_markPullSS.l0 k (x0.set x5.toNat b.2) b.1 (wrap64 (x5 + 1)))) else (none)) else (some (x1, x0))
def laws_markPullSS.f (k : Nat) (l0 : List (List S113)) (a1 : Int) : Option (Int × List (List S113)) := laws_markPullSS.l0 k l0 a1 0
theorem S_some {α : Type} {d : Kd α} {e : Nat} {W : World} {base : Nat} {ok : Nat → Prop} {A : Option Addr} {n c : Nat} {xs : List α} (h : Kd.S d e W base ok (.slice A n c) xs) (h1 : 0 < n) : ∃ g, A = some ⟨g, 0, none⟩ := by
 obtain ⟨h0, inner, ho, hr⟩ := Kd.S_R h
 rcases ho.2 with ⟨hv, h2⟩ | ⟨g, cap', cur, hv, _⟩
 ·injection hv with _ hn _; omega
 ·injection hv with ha _ _; exact ⟨g, ha⟩
theorem laws_markPullSS.calls (k : Nat) (P0_ : Nat → Prop) (u9000_ : Value) (l0 : List (List S113)) (a1 : Int) (r1 : Int) (r2 : List (List S113)) (w0 w : World) (hB : Below w0.heap.size w0 w) (gA : Kd.S (Kd.slice 113 k113) 28 w w0.heap.size P0_ u9000_ l0) (h : laws_markPullSS.f k l0 a1 = some (r1, r2)) :
  Calls Try.prog 58 #[u9000_, .int .i64 a1] w fun e w' => e = .returned (.int .i64 r1) ∧ Kd.S (Kd.slice 113 k113) 28 w' w0.heap.size P0_ u9000_ r2 ∧ Below w0.heap.size w0 w' ∧ Kept w w' (fun k_ => P0_ k_) := by
 have mA := zQ gA
 have HK := zQ (Kept.refl w (fun k_ => P0_ k_))
 have HB := zQ hB
 clear hB gA
 have H' := zQ (show laws_markPullSS.l0 k l0 a1 0 = some (r1, r2) from h)
 clear h
 go_enter Try.func58, Try.ntmps58
 go_wp2
 go_loopg [1, 5] k (fun kq v1 v5 w' => ∃ (cA : List (List S113)) (dA : Int) (aA : Int), v1 = .int .i64 dA ∧ v5 = .int .i64 aA ∧ Aside0 (laws_markPullSS.l0 kq cA dA aA = some (r1, r2)) ∧ Aside0 (kq ≤ k) ∧ Aside0 (Kd.S (Kd.slice 113 k113) 28 w' w0.heap.size P0_ u9000_ cA) ∧ Aside0 (Kept w w' (fun k_ => P0_ k_)) ∧ Aside0 (Below w0.heap.size w0 w'))
 case atStart => exact ⟨l0, a1, 0, rfl, rfl, H', ⟨Nat.le_refl _⟩, ⟨zS mA.out⟩, ⟨by repeat (first | (with_reducible first | exact HK.out | apply Kept.alloc | apply Kept.drewN | apply Kept.drew) | exact HK.out)⟩, ⟨zB HB.out⟩⟩
 case round =>
  clear H'; obtain ⟨cA, dA, aA, rfl, rfl, HA, iA, bA, HK, HB⟩ := hrel
  cases gk with
  | zero => exact absurd HA.out (by simp [laws_markPullSS.l0])
  | succ k1 =>
   have H := HA.out; clear HA
   simp only [laws_markPullSS.l0] at H
   by_cases c3 : aA < (cA.length : Int)
   ·rw [if_pos c3] at H
    have eA := decide_eq_true c3
    by_cases c4 : 0 ≤ aA
    ·rw [if_pos c4] at H
     have fA := decide_eq_true c4; replace H := Option.bind_eq_some_iff.mp H; obtain ⟨⟨b1, b2⟩, A1, H⟩ := H; have H' := zQ (show laws_markPullSS.l0 k1 (cA.set aA.toNat b2) b1 (wrap64 (aA + 1)) = some (r1, r2) from H); clear H; have AA := zQ A1; clear A1; obtain ⟨nA, pA, kA⟩ := Kd.R_slice (Kd.S_R bA.out); subst kA; obtain ⟨hA, lA⟩ : ∃ hA, nA = some ⟨hA, 0, none⟩ := S_some bA.out (by omega); subst lA; obtain ⟨oki, c, hcl, hM, hcc, hoki, hH⟩ := Kd.S_lend bA.out ([] : List S113) aA c4 (by omega); obtain ⟨v, rfl, hR⟩ := hM; have hx := hcc 0 v rfl; rw [Nat.add_zero, show (Kd.slice 113 k113).sz = 1 from rfl, Nat.mul_one] at hx; obtain ⟨row, hrow⟩ : ∃ row : List S113, cA.getD aA.toNat [] = row := ⟨_, rfl⟩; rw [hrow] at hR; have AA := zQ (show laws_markPullS.f k1 row dA = some (b1, b2) from hrow ▸ AA.out); obtain ⟨Av, cv, rfl⟩ := Kd.R_slice hR; have HR := zQ hR; have HH := zQ hH; have HI := zQ hoki; clear hcl hcc hR hH hoki c3 c4 hrow; have p5 : (0 ≤ aA) = True := eq_true (of_decide_eq_true fA); have q5 : (aA < (cA.length : Int)) = True := eq_true (of_decide_eq_true eA)
     go_wp2_with (first | (go_at_call 43; refine (laws_markPullS.calls k1 oki (.slice Av row.length cv) row dA b1 b2 w0 _ HB.out HR.out AA.out).mono ?_; rintro e w8 ⟨rfl, hR8, hB8, hK8⟩; have n0_ := zQ (Kd.H_back (Kd.H_kept HH.out hK8 (fun k_ _ hn_ => hn_)) (okp := oki) ⟨_, rfl, Kd.R_reok rfl hR8 (fun k_ e_ => HR.out.1 k_ e_)⟩ (fun _ h_ => h_)); have n1_ := zQ hB8; have n2_ := zQ (Kept.then_ HK.out hK8 (fun k_ h_ => .inl (HI.out k_ h_).1)); clear bA HB HK; have bA := n0_; have HB := n1_; have HK := n2_; clear n0_ n1_ n2_ hR8 hB8 hK8))
     go_roundg k1
     case measure => have := iA.out; omega
     case rel => exact ⟨_, b1, (wrap64 (aA + 1)), (zF), (zF), H', ⟨by have := iA.out; omega⟩, ⟨zS bA.out⟩, ⟨by repeat (first | (with_reducible first | exact HK.out | apply Kept.alloc | apply Kept.drewN | apply Kept.drew) | exact HK.out)⟩, ⟨zB HB.out⟩⟩
    ·rw [if_neg c4] at H
     exact absurd H (by simp)
   ·rw [if_neg c3] at H
    have eA := decide_eq_false c3; clear c3
    simp only [Option.some.injEq, Prod.mk.injEq] at H
    obtain ⟨rfl, rfl⟩ := H; obtain ⟨qA, oA, jA⟩ := Kd.R_slice (Kd.S_R bA.out); subst jA
    go_wp2
    go_ret
    exact ⟨zF, zS bA.out, zB HB.out, by repeat (first | (with_reducible first | exact HK.out | apply Kept.alloc | apply Kept.drewN | apply Kept.drew) | exact HK.out)⟩

end
end Go.Proofs.Ytimjblgepbhoaaa.PStays

