import Derived.Test.YtimjblgepbhoaaaHStays0
namespace Go.Proofs.Ytimjblgepbhoaaa.PStays
noncomputable section
open Go.RowKit Go.Proofs.YtimjblgepbhoaaaW.PrintWords Go.Proofs.YtimjblgepbhoaaaW.PrintLast Go.Proofs.YtimjblgepbhoaaaW.PrintMore
attribute [local go_sem] max2_int min2_int max_two min_two max_three min_three max_four min_four   -- for this text's walks alone
set_option linter.unusedVariables false
set_option linter.unusedSimpArgs false
set_option maxHeartbeats 8000000
set_option maxRecDepth 100000

def laws_toInt64S.l0 : Nat → List Int → List Int → Int → Option (List Int)
 | 0, _, _, _ => none
 | k + 1, x0, x3, x4 => if x4 < (x0.length : Int) then (if 0 ≤ x4 then (if x4 < (x3.length : Int) then (laws_toInt64S.l0 k x0 (x3.set (x4 : Int).toNat (rd x0 x4)) (wrap64 (x4 + 1))) else (none)) else (none)) else (some x3)
def laws_toInt64S.f (k : Nat) (l0 : List Int) : Option (List Int) := if 0 ≤ (l0.length : Int) then (if ((l0.length : Int) : Int).toNat ≤ 35184372088832 then (laws_toInt64S.l0 k l0 (List.replicate ((l0.length : Int) : Int).toNat 0) 0) else (none)) else (none)
theorem laws_toInt64S.mono_l : ∀ k, (∀ y0 y1 y2, LeO (laws_toInt64S.l0 k y0 y1 y2) (laws_toInt64S.l0 (k + 1) y0 y1 y2))
 | 0 => fun _ _ _ r h => by simp [laws_toInt64S.l0] at h
 | k + 1 => by
  have ih0 := laws_toInt64S.mono_l k
  ·intro y0 y1 y2
   unfold laws_toInt64S.l0
   exact zM0
theorem laws_toInt64S.mono : ∀ a0 k, LeO (laws_toInt64S.f k a0) (laws_toInt64S.f (k + 1) a0) := by
 intro a0 k
 have ih0 := laws_toInt64S.mono_l k
 unfold laws_toInt64S.f
 exact zM0
theorem laws_toInt64S.calls (k : Nat) (A0 : Option Addr) (c0 : Nat) (l0 : List Int) (r : List Int) (w : World) (yA : Kd.C (Kd.int .i64) w A0 l0.length l0) (AA : l0.length ≤ c0) (h : laws_toInt64S.f k l0 = some r) :
  Calls Try.prog 38 #[.slice A0 l0.length c0] w fun e w' => ∃ v0_ : Value, e = .returned (v0_) ∧ Kd.R (Kd.int .i64) 2 w' w.heap.size (fun _ => True) v0_ r ∧ Below w.heap.size w w' := by
 have JA := zQ yA
 have KA := zQ AA
 clear yA AA
 have HB := zQ (Below.refl w.heap.size w)
 have H := h; unfold laws_toInt64S.f at H
 clear h
 by_cases c2 : 0 ≤ (l0.length : Int)
 ·rw [if_pos c2] at H
  have wA := eq_true c2; have vA := decide_eq_true c2; clear c2
  by_cases c3 : ((l0.length : Int) : Int).toNat ≤ 35184372088832
  ·rw [if_pos c3] at H
   have uA := eq_true c3; have tA := decide_eq_true c3; clear c3; obtain ⟨kA, fA⟩ : ∃ y_ : List Int, y_ = (List.replicate ((l0.length : Int) : Int).toNat 0) := ⟨_, rfl⟩; replace H : (laws_toInt64S.l0 k l0 kA 0) = some r := zh H; have gA := zQ fA; clear fA; have H' := zQ H; clear H
   go_enter Try.func38, Try.ntmps38
   go_wp2_with (first | ((with_reducible refine zd 7 ?_); refine Kd.R_make (Kd.int .i64) _ 2 rfl (N := 7) rfl 31 _ _ rfl (l0.length : Int) rfl rfl Try.underlying31 (.int .i64 0) 8 info2 rfl (by decide) (by omega) 0 (ok := fun _ => True) (okp := fun _ => True) rfl (fun _ hk => hk) trivial (zD) (Nat.le_trans (Nat.mul_le_mul_right _ (zD : (l0.length : Int).toNat ≤ 35184372088832)) (by omega)) (Below.refl _ _) (Nat.le_refl _) ?_; intro pA w4 lA hb hg_ hnew_; clear hg_ hnew_; (first | rw [← gA.out] at lA | (simp only [Int.reduceToNat] at lA; rw [← gA.out] at lA)); have nA := zQ (Kd.R_lower lA (below_size (zB HB.out))); replace HB := zbs HB.out hb; clear hb lA))
   go_loopg [4] k (fun kq v4 w' => ∃ (bA : List Int) (aA : Int), v4 = .int .i64 aA ∧ Aside0 (laws_toInt64S.l0 kq l0 bA aA = some r) ∧ Aside0 (kq ≤ k) ∧ Aside0 (Kd.R (Kd.int .i64) 2 w' w.heap.size (fun _ => True) pA bA) ∧ Aside0 (Below w.heap.size w w'))
   case atStart => exact ⟨(kA), (0), (zF), H', ⟨Nat.le_refl _⟩, ⟨zR nA.out⟩, ⟨zB HB.out⟩⟩
   case round =>
    clear H'; (try clear c2); (try clear wA); (try clear vA); (try clear p2); (try clear c3); (try clear uA); (try clear tA); obtain ⟨bA, aA, rfl, HA, EA, dA, HB⟩ := hrel
    cases gk with
    | zero => exact absurd HA.out (by simp [laws_toInt64S.l0])
    | succ k1 =>
     have H := HA.out; clear HA
     simp only [laws_toInt64S.l0] at H
     by_cases c6 : aA < (l0.length : Int)
     ·rw [if_pos c6] at H
      have sA := decide_eq_true c6; clear c6
      by_cases c7 : 0 ≤ aA
      ·rw [if_pos c7] at H
       have IA := decide_eq_true c7; clear c7
       by_cases c8 : aA < (bA.length : Int)
       ·rw [if_pos c8] at H
        have GA := decide_eq_true c8; clear c8; obtain ⟨hA, eA⟩ : ∃ y_ : List Int, y_ = (bA.set (aA : Int).toNat (rd l0 aA)) := ⟨_, rfl⟩; replace H : (laws_toInt64S.l0 k1 l0 hA (wrap64 (aA + 1))) = some r := zh H; have mA := zQ eA; clear eA; have H' := zQ H; clear H; have jA : 0 ≤ (aA : Int) := zD; have iA : aA < (l0.length : Int) := zD; obtain ⟨DA, rA, cA⟩ := Kd.at_int JA.out aA jA iA
        cases rA
        replace cA := zw HB.out cA; replace jA := eq_true jA; replace iA := eq_true iA; have p9 : 0 ≤ (aA : Int) := zD; have q9 : (aA : Int) < ((bA.length : Int) : Int) := zD; obtain ⟨qA, FA, CA, BA, gl9, cl9, HG9⟩ := Kd.R_form dA.out (by omega)
        (first | cases CA | (injection CA with ea_ en_ ec_; (first | subst ea_ | (injection ea_ with ea_; subst ea_)); subst ec_; clear en_))
        have GB9 := zQ BA; have GG9 := zQ HG9; clear BA gl9 HG9; obtain ⟨xA, zA⟩ := Kd.R_celln 0 dA.out (aA : Int) p9 q9; replace p9 := eq_true p9; replace q9 := eq_true q9; have HP10 := Kd.R_putg dA.out (aA : Int) (rd l0 aA)
        go_wp2_with (first | ((with_reducible refine gate_store (t := 2) (p := 20) rfl ?_); refine store_event (t := 2) (p := 20) (v := ?vo_w11) (w1 := (wr.setCell ⟨qA, (aA : Int).toNat, none⟩ (.int .i64 (rd l0 aA)))) ?hg ?ho ?hn ?hr ?_; (case ho => rfl); (case hg => rfl); (case hn => rfl); (case hr => first | (go_simp; done) | (go_simp; rfl)); intro oA hw; have hg : wr.grownBy oA (some qA) := (by rw [hw]; exact HP10.2); have hp_ : Kd.R (Kd.int .i64) 2 oA w.heap.size (fun _ => True) (.slice (some ⟨qA, 0, none⟩) bA.length FA) hA := (by rw [hw, mA.out]; exact HP10.1); clear HP10; replace dA := zQ (hp_); replace HB := zQ ((by rw [hw]; exact below_set (HB.out) GB9.out : Below w.heap.size w oA)); clear hg hw hp_))
        go_roundg k1
        case measure => have := EA.out; omega
        case rel => exact ⟨(hA), (wrap64 (aA + 1)), (zF), H', ⟨by have := EA.out; omega⟩, ⟨zR dA.out⟩, ⟨zB HB.out⟩⟩
       ·rw [if_neg c8] at H
        exact absurd H (by simp)
      ·rw [if_neg c7] at H
       exact absurd H (by simp)
     ·rw [if_neg c6] at H
      have sA := decide_eq_false c6; clear c6; obtain rfl := Option.some.inj H
      go_wp2
      go_ret
      exact ⟨_, zE, zR dA.out, zB HB.out⟩
  ·rw [if_neg c3] at H
   exact absurd H (by simp)
 ·rw [if_neg c2] at H
  exact absurd H (by simp)

end
end Go.Proofs.Ytimjblgepbhoaaa.PStays

