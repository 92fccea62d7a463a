import Derived.Test.YtimjblgepbhoaaaHStays0
namespace Go.Proofs.Ytimjblgepbhoaaa.PStays
noncomputable section
open Go.RowKit Go.Proofs.YtimjblgepbhoaaaW.PrintWords Go.Proofs.YtimjblgepbhoaaaW.PrintLast Go.Proofs.YtimjblgepbhoaaaW.PrintMore
attribute [local go_sem] max2_int min2_int max_two min_two max_three min_three max_four min_four   -- for this text's walks alone
set_option linter.unusedVariables false
set_option linter.unusedSimpArgs false
set_option maxHeartbeats 8000000
set_option maxRecDepth 100000

def laws_markKnotS.l0 : Nat → List (S164) → Int → Int → Option (Int × (List (S164)))
 | 0, _, _, _ => none
 | k + 1, x0, x1, x5 => if x5 < (x0.length : Int) then (if 0 ≤ x5 then ((some (x0.set (x5 : Int).toNat (⟨x1, (rd_T164 x0 x5).f1, (rd_T164 x0 x5).f2⟩ : S164) : List (S164))).bind fun iA => ((some (iA.set (x5 : Int).toNat (⟨(rd_T164 iA x5).f0, wrap64 (x1 + 1), (rd_T164 iA x5).f2⟩ : S164) : List (S164))).bind fun gA => (laws_markKnotS.l0 k (gA.set (x5 : Int).toNat (⟨(rd_T164 gA x5).f0, (rd_T164 gA x5).f1, ((Int.tmod (wrap64 ((wrap64 (x1 + 1)) + 1)) 3) == 0)⟩ : S164)) (wrap64 ((wrap64 ((wrap64 (x1 + 1)) + 1)) + 1)) (wrap64 (x5 + 1))))) else (none)) else (some (x1, x0))
def laws_markKnotS.f (k : Nat) (l0 : List (S164)) (a1 : Int) : Option (Int × (List (S164))) := laws_markKnotS.l0 k l0 a1 0
theorem laws_markKnotS.calls (k : Nat) (P0_ : Nat → Prop) (u9000_ : Value) (l0 : List (S164)) (a1 : Int) (r1 : Int) (r2 : List (S164)) (w0 w : World) (hB : Below w0.heap.size w0 w) (IB : Kd.R k164 164 w w0.heap.size P0_ u9000_ l0) (h : laws_markKnotS.f k l0 a1 = some (r1, r2)) :
  Calls Try.prog 103 #[u9000_, .int .i64 a1] w fun e w' => e = .returned (.int .i64 r1) ∧ Kd.R k164 164 w' w0.heap.size (fun k_ => (P0_ k_ ∨ w.heap.size ≤ k_)) u9000_ r2 ∧ Below w0.heap.size w0 w' ∧ Kept w w' (fun k_ => P0_ k_) := by
 have OB := zQ (show Kd.R k164 164 w w0.heap.size (fun k_ => (P0_ k_ ∨ w.heap.size ≤ k_)) u9000_ l0 from Kd.R_mono IB (fun k_ hk => (.inl hk)))
 have HK := zQ (Kept.refl w (fun k_ => P0_ k_))
 have HW0 := zQ hB.size
 have HB := zQ hB
 clear hB
 have H : (laws_markKnotS.l0 k l0 a1 0) = some (r1, r2) := h
 clear h
 have H' := zQ H
 clear H
 go_enter Try.func103, Try.ntmps103
 go_wp2
 go_loopg [1, 5] k (fun kq v1 v5 w' => ∃ (bA : List (S164)) (cA : Int) (aA : Int), v1 = .int .i64 cA ∧ v5 = .int .i64 aA ∧ Aside0 (laws_markKnotS.l0 kq bA cA aA = some (r1, r2)) ∧ Aside0 (kq ≤ k) ∧ Aside0 (Kd.R k164 164 w' w0.heap.size (fun k_ => (P0_ k_ ∨ w.heap.size ≤ k_)) u9000_ bA) ∧ Aside0 (Kept w w' (fun k_ => P0_ k_)) ∧ Aside0 (Below w0.heap.size w0 w'))
 case atStart => exact ⟨(l0), (a1), (0), (zF), (zF), H', ⟨Nat.le_refl _⟩, ⟨zR OB.out⟩, ⟨by repeat (first | (with_reducible first | exact HK.out | apply Kept.alloc | apply Kept.drewN | apply Kept.drew) | exact HK.out)⟩, ⟨zB HB.out⟩⟩
 case round =>
  clear H'; (try clear c1); (try clear p2); obtain ⟨bA, cA, aA, rfl, rfl, HA, KA, dA, HK, HB⟩ := hrel
  cases gk with
  | zero => exact absurd HA.out (by simp [laws_markKnotS.l0])
  | succ k1 =>
   have H := HA.out; clear HA
   simp only [laws_markKnotS.l0] at H
   by_cases c3 : aA < (bA.length : Int)
   ·rw [if_pos c3] at H
    have xA := decide_eq_true c3; clear c3
    by_cases c4 : 0 ≤ aA
    ·rw [if_pos c4] at H
     have cB := decide_eq_true c4; clear c4; obtain ⟨iA, mB⟩ : ∃ y_ : List (S164), y_ = (bA.set (aA : Int).toNat (⟨cA, (rd_T164 bA aA).f1, (rd_T164 bA aA).f2⟩ : S164)) := ⟨_, rfl⟩; replace H : ((some (iA.set (aA : Int).toNat (⟨(rd_T164 iA aA).f0, wrap64 (cA + 1), (rd_T164 iA aA).f2⟩ : S164) : List (S164))).bind fun gA => (laws_markKnotS.l0 k1 (gA.set (aA : Int).toNat (⟨(rd_T164 gA aA).f0, (rd_T164 gA aA).f1, ((Int.tmod (wrap64 ((wrap64 (cA + 1)) + 1)) 3) == 0)⟩ : S164)) (wrap64 ((wrap64 ((wrap64 (cA + 1)) + 1)) + 1)) (wrap64 (aA + 1)))) = some (r1, r2) := zh H; have rC := zQ mB; clear mB; obtain ⟨gA, lB⟩ : ∃ y_ : List (S164), y_ = (iA.set (aA : Int).toNat (⟨(rd_T164 iA aA).f0, wrap64 (cA + 1), (rd_T164 iA aA).f2⟩ : S164)) := ⟨_, rfl⟩; replace H : (laws_markKnotS.l0 k1 (gA.set (aA : Int).toNat (⟨(rd_T164 gA aA).f0, (rd_T164 gA aA).f1, ((Int.tmod (wrap64 ((wrap64 (cA + 1)) + 1)) 3) == 0)⟩ : S164)) (wrap64 ((wrap64 ((wrap64 (cA + 1)) + 1)) + 1)) (wrap64 (aA + 1))) = some (r1, r2) := zh H; have qC := zQ lB; clear lB; obtain ⟨DB, kB⟩ : ∃ y_ : List (S164), y_ = (gA.set (aA : Int).toNat (⟨(rd_T164 gA aA).f0, (rd_T164 gA aA).f1, ((Int.tmod (wrap64 ((wrap64 (cA + 1)) + 1)) 3) == 0)⟩ : S164)) := ⟨_, rfl⟩
     replace H : (laws_markKnotS.l0 k1 DB (wrap64 ((wrap64 ((wrap64 (cA + 1)) + 1)) + 1)) (wrap64 (aA + 1))) = some (r1, r2) := zh H; have pC := zQ kB; clear kB; have H' := zQ H; clear H; obtain ⟨YC, MA, JC⟩ := Kd.R_slice dA.out; subst JC; have p5 : 0 ≤ (aA : Int) := zD; have q5 : (aA : Int) < ((bA.length : Int) : Int) := zD; obtain ⟨eA, wB, LA, WA, gl5, cl5, HG5⟩ := Kd.R_form dA.out (by omega)
     (first | cases LA | (injection LA with ea_ en_ ec_; (first | subst ea_ | (injection ea_ with ea_; subst ea_)); subst ec_; clear en_))
     have GB5 := zQ WA; have GG5 := zQ HG5; clear WA gl5 HG5; have HMgo5 := zQ (show (P0_ eA ∨ w.heap.size ≤ eA) from (dA.out.1 _ rfl)); obtain ⟨ce5, UA, hM5, pA, nA⟩ := Kd.R_elem dA.out z164 (aA : Int) p5 q5; obtain rfl := k164_openM hM5; have OA : wr.cell? ⟨eA, (aA : Int).toNat * 3, none⟩ = some (.int .i64 ((rd_T164 bA aA).f0)) := pA 0 _ rfl; have pB : wr.cell? ⟨eA, (aA : Int).toNat * 3 + 1, none⟩ = some (.int .i64 ((rd_T164 bA aA).f1)) := pA 1 _ rfl; have WB : wr.cell? ⟨eA, (aA : Int).toNat * 3 + 2, none⟩ = some (.bool ((rd_T164 bA aA).f2)) := pA 2 _ rfl; have RA : wr.frozen? ⟨eA, (aA : Int).toNat * 3, none⟩ = false := nA 0; have tB : wr.frozen? ⟨eA, (aA : Int).toNat * 3 + 1, none⟩ = false := nA 1; have fC : wr.frozen? ⟨eA, (aA : Int).toNat * 3 + 2, none⟩ = false := nA 2
     (try clear hM5); clear UA pA nA
     replace p5 := eq_true p5; replace q5 := eq_true q5; have sC := zQ (show Kd.R k164 164 wr w0.heap.size (fun k_ => (P0_ k_ ∨ w.heap.size ≤ k_)) (.slice (some ⟨eA, 0, none⟩) bA.length MA) bA from (zR dA.out)); obtain ⟨ce9, SA, hM9, JA, PA⟩ := Kd.R_elem sC.out z164 (aA : Int) (zD) (by have h_ : (aA : Int) < ((bA.length : Int) : Int) := zD; first | exact h_ | (have e_ := (Kd.R_reads' dA.out).1; omega) | simpa using h_); obtain rfl := k164_openM hM9; have HP9 := Kd.R_seg sC.out (aA : Int) (zD) (by have h_ : (aA : Int) < ((bA.length : Int) : Int) := zD; first | exact h_ | (have e_ := (Kd.R_reads' dA.out).1; omega) | simpa using h_) (seg := [.int .i64 cA]) (j := 0) SA JA (show 1 ≤ 3 from by decide) (x' := (⟨cA, (rd_T164 bA aA).f1, (rd_T164 bA aA).f2⟩ : S164)) (k164_mkM _ _ _ (⟨cA, (rd_T164 bA aA).f1, (rd_T164 bA aA).f2⟩ : S164) ) (fun _ hk => hk); have NA := JA 0 _ rfl
     (try simp only [show (k164).sz = 3 from rfl, Nat.mul_one, Nat.add_zero] at NA)
     have QA := PA 0
     (try simp only [show (k164).sz = 3 from rfl, Nat.mul_one, Nat.add_zero] at QA)
     (try clear hM9); clear SA JA PA
     go_wp2_with (first | ((with_reducible refine gate_store (t := 2) (p := 16) rfl ?_); refine store_event (t := 2) (p := 16) (v := ?vo_w10) (w1 := (wr.setCell ⟨eA, (aA : Int).toNat * 3, none⟩ (.int .i64 cA))) ?hg ?ho ?hn ?hr ?_; (case ho => rfl); (case hg => rfl); (case hn => rfl); (case hr => first | (go_simp; done) | (go_simp; rfl)); intro sA hw; have hg : wr.grownBy sA (some eA) := (by rw [hw]; exact HP9.2); have hp_ : Kd.R k164 164 sA w0.heap.size (fun k_ => (P0_ k_ ∨ w.heap.size ≤ k_)) (.slice (some ⟨eA, 0, none⟩) bA.length MA) iA := (by rw [hw, rC.out]; exact HP9.1); clear HP9; replace HB := zQ ((by rw [hw]; exact below_set (HB.out) GB5.out : Below w0.heap.size w0 sA)); replace HK := zQ (Kept.of_grown (S := (fun k_ => P0_ k_)) hg (by repeat (first | (with_reducible first | exact HK.out | apply Kept.alloc | apply Kept.drewN | apply Kept.drew) | exact HK.out)) (fun k_ e_ => (dA.out.1 k_ e_))); replace dA := zQ (hp_); clear hg hw hp_; have p6 : 0 ≤ (aA : Int) := zD; have q6 : (aA : Int) < ((bA.length : Int) : Int) := zD; obtain ⟨ce6, TA, hM6, oA, mA⟩ := Kd.R_elem dA.out z164 (aA : Int) p6 q6; obtain rfl := k164_openM hM6; have oB : sA.cell? ⟨eA, (aA : Int).toNat * 3, none⟩ = some (.int .i64 ((rd_T164 iA aA).f0)) := oA 0 _ rfl; have nB : sA.cell? ⟨eA, (aA : Int).toNat * 3 + 1, none⟩ = some (.int .i64 ((rd_T164 iA aA).f1)) := oA 1 _ rfl; have VB : sA.cell? ⟨eA, (aA : Int).toNat * 3 + 2, none⟩ = some (.bool ((rd_T164 iA aA).f2)) := oA 2 _ rfl; have sB : sA.frozen? ⟨eA, (aA : Int).toNat * 3, none⟩ = false := mA 0; have rB : sA.frozen? ⟨eA, (aA : Int).toNat * 3 + 1, none⟩ = false := mA 1; have eC : sA.frozen? ⟨eA, (aA : Int).toNat * 3 + 2, none⟩ = false := mA 2; (try clear hM6); clear TA oA mA; replace p6 := eq_true p6; replace q6 := eq_true q6; have YA := zQ (show Kd.R k164 164 sA w0.heap.size (fun k_ => (P0_ k_ ∨ w.heap.size ≤ k_)) (.slice (some ⟨eA, 0, none⟩) bA.length MA) iA from (zR dA.out)); obtain ⟨ce11, BA, hM11, uA, zA⟩ := Kd.R_elem YA.out z164 (aA : Int) (zD) (by have h_ : (aA : Int) < ((bA.length : Int) : Int) := zD; first | exact h_ | (have e_ := (Kd.R_reads' dA.out).1; omega) | simpa using h_); obtain rfl := k164_openM hM11; have HP11 := Kd.R_seg YA.out (aA : Int) (zD) (by have h_ : (aA : Int) < ((bA.length : Int) : Int) := zD; first | exact h_ | (have e_ := (Kd.R_reads' dA.out).1; omega) | simpa using h_) (seg := [.int .i64 (wrap64 (cA + 1))]) (j := 1) BA uA (show 2 ≤ 3 from by decide) (x' := (⟨(rd_T164 iA aA).f0, wrap64 (cA + 1), (rd_T164 iA aA).f2⟩ : S164)) (k164_mkM _ _ _ (⟨(rd_T164 iA aA).f0, wrap64 (cA + 1), (rd_T164 iA aA).f2⟩ : S164) ) (fun _ hk => hk); have FA := uA 1 _ rfl; (try simp only [show (k164).sz = 3 from rfl, Nat.mul_one, Nat.add_zero] at FA); have IA := zA 1; (try simp only [show (k164).sz = 3 from rfl, Nat.mul_one, Nat.add_zero] at IA); (try clear hM11); clear BA uA zA) | ((with_reducible refine gate_store (t := 2) (p := 23) rfl ?_); refine store_event (t := 2) (p := 23) (v := ?vo_w12) (w1 := (sA.setCell ⟨eA, (aA : Int).toNat * 3 + 1, none⟩ (.int .i64 (wrap64 (cA + 1))))) ?hg ?ho ?hn ?hr ?_; (case ho => rfl); (case hg => rfl); (case hn => rfl); (case hr => first | (go_simp; done) | (go_simp; rfl)); intro rA hw; have hg : sA.grownBy rA (some eA) := (by rw [hw]; exact HP11.2); have hp_ : Kd.R k164 164 rA w0.heap.size (fun k_ => (P0_ k_ ∨ w.heap.size ≤ k_)) (.slice (some ⟨eA, 0, none⟩) bA.length MA) gA := (by rw [hw, qC.out]; exact HP11.1); clear HP11; replace HB := zQ ((by rw [hw]; exact below_set (HB.out) GB5.out : Below w0.heap.size w0 rA)); replace HK := zQ (Kept.of_grown (S := (fun k_ => P0_ k_)) hg (by repeat (first | (with_reducible first | exact HK.out | apply Kept.alloc | apply Kept.drewN | apply Kept.drew) | exact HK.out)) (fun k_ e_ => (dA.out.1 k_ e_))); replace dA := zQ (hp_); clear hg hw hp_; have p7 : 0 ≤ (aA : Int) := zD; have q7 : (aA : Int) < ((bA.length : Int) : Int) := zD; obtain ⟨ce7, KB, hM7, wA, vA⟩ := Kd.R_elem dA.out z164 (aA : Int) p7 q7; obtain rfl := k164_openM hM7; have UB : rA.cell? ⟨eA, (aA : Int).toNat * 3, none⟩ = some (.int .i64 ((rd_T164 gA aA).f0)) := wA 0 _ rfl; have TB : rA.cell? ⟨eA, (aA : Int).toNat * 3 + 1, none⟩ = some (.int .i64 ((rd_T164 gA aA).f1)) := wA 1 _ rfl; have SB : rA.cell? ⟨eA, (aA : Int).toNat * 3 + 2, none⟩ = some (.bool ((rd_T164 gA aA).f2)) := wA 2 _ rfl; have dC : rA.frozen? ⟨eA, (aA : Int).toNat * 3, none⟩ = false := vA 0; have cC : rA.frozen? ⟨eA, (aA : Int).toNat * 3 + 1, none⟩ = false := vA 1; have bC : rA.frozen? ⟨eA, (aA : Int).toNat * 3 + 2, none⟩ = false := vA 2; (try clear hM7); clear KB wA vA; replace p7 := eq_true p7; replace q7 := eq_true q7; have XA := zQ (show Kd.R k164 164 rA w0.heap.size (fun k_ => (P0_ k_ ∨ w.heap.size ≤ k_)) (.slice (some ⟨eA, 0, none⟩) bA.length MA) gA from (zR dA.out)); obtain ⟨ce13, AA, hM13, tA, yA⟩ := Kd.R_elem XA.out z164 (aA : Int) (zD) (by have h_ : (aA : Int) < ((bA.length : Int) : Int) := zD; first | exact h_ | (have e_ := (Kd.R_reads' dA.out).1; omega) | simpa using h_); obtain rfl := k164_openM hM13; have HP13 := Kd.R_seg XA.out (aA : Int) (zD) (by have h_ : (aA : Int) < ((bA.length : Int) : Int) := zD; first | exact h_ | (have e_ := (Kd.R_reads' dA.out).1; omega) | simpa using h_) (seg := [.bool ((Int.tmod (wrap64 ((wrap64 (cA + 1)) + 1)) 3) == 0)]) (j := 2) AA tA (show 3 ≤ 3 from by decide) (x' := (⟨(rd_T164 gA aA).f0, (rd_T164 gA aA).f1, ((Int.tmod (wrap64 ((wrap64 (cA + 1)) + 1)) 3) == 0)⟩ : S164)) (k164_mkM _ _ _ (⟨(rd_T164 gA aA).f0, (rd_T164 gA aA).f1, ((Int.tmod (wrap64 ((wrap64 (cA + 1)) + 1)) 3) == 0)⟩ : S164) ) (fun _ hk => hk); have EA := tA 2 _ rfl; (try simp only [show (k164).sz = 3 from rfl, Nat.mul_one, Nat.add_zero] at EA); have GA := yA 2; (try simp only [show (k164).sz = 3 from rfl, Nat.mul_one, Nat.add_zero] at GA); (try clear hM13); clear AA tA yA) | ((with_reducible refine gate_store (t := 4) (p := 32) rfl ?_); refine store_event (t := 4) (p := 32) (v := ?vo_w14) (w1 := (rA.setCell ⟨eA, (aA : Int).toNat * 3 + 2, none⟩ (.bool ((Int.tmod (wrap64 ((wrap64 (cA + 1)) + 1)) 3) == 0)))) ?hg ?ho ?hn ?hr ?_; (case ho => rfl); (case hg => rfl); (case hn => rfl); (case hr => first | (go_simp; done) | (go_simp; rfl)); intro EB hw; have hg : rA.grownBy EB (some eA) := (by rw [hw]; exact HP13.2); have hp_ : Kd.R k164 164 EB w0.heap.size (fun k_ => (P0_ k_ ∨ w.heap.size ≤ k_)) (.slice (some ⟨eA, 0, none⟩) bA.length MA) DB := (by rw [hw, pC.out]; exact HP13.1); clear HP13; replace HB := zQ ((by rw [hw]; exact below_set (HB.out) GB5.out : Below w0.heap.size w0 EB)); replace HK := zQ (Kept.of_grown (S := (fun k_ => P0_ k_)) hg (by repeat (first | (with_reducible first | exact HK.out | apply Kept.alloc | apply Kept.drewN | apply Kept.drew) | exact HK.out)) (fun k_ e_ => (dA.out.1 k_ e_))); replace dA := zQ (hp_); clear hg hw hp_))
     go_roundg k1
     case measure => have := KA.out; omega
     case rel => exact ⟨(DB), (wrap64 ((wrap64 ((wrap64 (cA + 1)) + 1)) + 1)), (wrap64 (aA + 1)), (zF), (zF), H', ⟨by have := KA.out; omega⟩, ⟨zR dA.out⟩, ⟨by repeat (first | (with_reducible first | exact HK.out | apply Kept.alloc | apply Kept.drewN | apply Kept.drew) | exact HK.out)⟩, ⟨zB HB.out⟩⟩
    ·rw [if_neg c4] at H
     exact absurd H (by simp)
   ·rw [if_neg c3] at H
    have xA := decide_eq_false c3; clear c3
    simp only [Option.some.injEq, Prod.mk.injEq] at H
    obtain ⟨rfl, rfl⟩ := H; obtain ⟨PC, MC, MB⟩ := Kd.R_slice dA.out; subst MB
    go_wp2
    go_ret
    exact ⟨zE, zR dA.out, zB HB.out, by repeat (first | (with_reducible first | exact HK.out | apply Kept.alloc | apply Kept.drewN | apply Kept.drew) | exact HK.out)⟩

def laws_markBarS.l0 : Nat → List (S115) → Int → Int → Option (Int × (List (S115)))
 | 0, _, _, _ => none
 | k + 1, x0, x1, x5 => if x5 < (x0.length : Int) then (if 0 ≤ x5 then ((some (x0.set (x5 : Int).toNat (⟨x1, (rd_T115 x0 x5).f1, (rd_T115 x0 x5).f2⟩ : S115) : List (S115))).bind fun hA => ((some (hA.set (x5 : Int).toNat (⟨(rd_T115 hA x5).f0, wrap64 (x1 + 1), (rd_T115 hA x5).f2⟩ : S115) : List (S115))).bind fun fA => (laws_markBarS.l0 k (fA.set (x5 : Int).toNat (⟨(rd_T115 fA x5).f0, (rd_T115 fA x5).f1, ((Int.tmod (wrap64 ((wrap64 (x1 + 1)) + 1)) 3) == 0)⟩ : S115)) (wrap64 ((wrap64 ((wrap64 (x1 + 1)) + 1)) + 1)) (wrap64 (x5 + 1))))) else (none)) else (some (x1, x0))
def laws_markBarS.f (k : Nat) (l0 : List (S115)) (a1 : Int) : Option (Int × (List (S115))) := laws_markBarS.l0 k l0 a1 0
theorem laws_markBarS.calls (k : Nat) (P0_ : Nat → Prop) (u9000_ : Value) (l0 : List (S115)) (a1 : Int) (r1 : Int) (r2 : List (S115)) (w0 w : World) (hB : Below w0.heap.size w0 w) (IB : Kd.R k115 115 w w0.heap.size P0_ u9000_ l0) (h : laws_markBarS.f k l0 a1 = some (r1, r2)) :
  Calls Try.prog 104 #[u9000_, .int .i64 a1] w fun e w' => e = .returned (.int .i64 r1) ∧ Kd.R k115 115 w' w0.heap.size (fun k_ => (P0_ k_ ∨ w.heap.size ≤ k_)) u9000_ r2 ∧ Below w0.heap.size w0 w' ∧ Kept w w' (fun k_ => P0_ k_) := by
 have OB := zQ (show Kd.R k115 115 w w0.heap.size (fun k_ => (P0_ k_ ∨ w.heap.size ≤ k_)) u9000_ l0 from Kd.R_mono IB (fun k_ hk => (.inl hk)))
 have HK := zQ (Kept.refl w (fun k_ => P0_ k_))
 have HW0 := zQ hB.size
 have HB := zQ hB
 clear hB
 have H : (laws_markBarS.l0 k l0 a1 0) = some (r1, r2) := h
 clear h
 have H' := zQ H
 clear H
 go_enter Try.func104, Try.ntmps104
 go_wp2
 go_loopg [1, 5] k (fun kq v1 v5 w' => ∃ (bA : List (S115)) (cA : Int) (aA : Int), v1 = .int .i64 cA ∧ v5 = .int .i64 aA ∧ Aside0 (laws_markBarS.l0 kq bA cA aA = some (r1, r2)) ∧ Aside0 (kq ≤ k) ∧ Aside0 (Kd.R k115 115 w' w0.heap.size (fun k_ => (P0_ k_ ∨ w.heap.size ≤ k_)) u9000_ bA) ∧ Aside0 (Kept w w' (fun k_ => P0_ k_)) ∧ Aside0 (Below w0.heap.size w0 w'))
 case atStart => exact ⟨(l0), (a1), (0), (zF), (zF), H', ⟨Nat.le_refl _⟩, ⟨zR OB.out⟩, ⟨by repeat (first | (with_reducible first | exact HK.out | apply Kept.alloc | apply Kept.drewN | apply Kept.drew) | exact HK.out)⟩, ⟨zB HB.out⟩⟩
 case round =>
  clear H'; (try clear c1); (try clear p2); obtain ⟨bA, cA, aA, rfl, rfl, HA, KA, dA, HK, HB⟩ := hrel
  cases gk with
  | zero => exact absurd HA.out (by simp [laws_markBarS.l0])
  | succ k1 =>
   have H := HA.out; clear HA
   simp only [laws_markBarS.l0] at H
   by_cases c3 : aA < (bA.length : Int)
   ·rw [if_pos c3] at H
    have xA := decide_eq_true c3; clear c3
    by_cases c4 : 0 ≤ aA
    ·rw [if_pos c4] at H
     have cB := decide_eq_true c4; clear c4; obtain ⟨hA, jB⟩ : ∃ y_ : List (S115), y_ = (bA.set (aA : Int).toNat (⟨cA, (rd_T115 bA aA).f1, (rd_T115 bA aA).f2⟩ : S115)) := ⟨_, rfl⟩; replace H : ((some (hA.set (aA : Int).toNat (⟨(rd_T115 hA aA).f0, wrap64 (cA + 1), (rd_T115 hA aA).f2⟩ : S115) : List (S115))).bind fun fA => (laws_markBarS.l0 k1 (fA.set (aA : Int).toNat (⟨(rd_T115 fA aA).f0, (rd_T115 fA aA).f1, ((Int.tmod (wrap64 ((wrap64 (cA + 1)) + 1)) 3) == 0)⟩ : S115)) (wrap64 ((wrap64 ((wrap64 (cA + 1)) + 1)) + 1)) (wrap64 (aA + 1)))) = some (r1, r2) := zh H; have oC := zQ jB; clear jB; obtain ⟨fA, iB⟩ : ∃ y_ : List (S115), y_ = (hA.set (aA : Int).toNat (⟨(rd_T115 hA aA).f0, wrap64 (cA + 1), (rd_T115 hA aA).f2⟩ : S115)) := ⟨_, rfl⟩; replace H : (laws_markBarS.l0 k1 (fA.set (aA : Int).toNat (⟨(rd_T115 fA aA).f0, (rd_T115 fA aA).f1, ((Int.tmod (wrap64 ((wrap64 (cA + 1)) + 1)) 3) == 0)⟩ : S115)) (wrap64 ((wrap64 ((wrap64 (cA + 1)) + 1)) + 1)) (wrap64 (aA + 1))) = some (r1, r2) := zh H; have nC := zQ iB; clear iB; obtain ⟨CB, gB⟩ : ∃ y_ : List (S115), y_ = (fA.set (aA : Int).toNat (⟨(rd_T115 fA aA).f0, (rd_T115 fA aA).f1, ((Int.tmod (wrap64 ((wrap64 (cA + 1)) + 1)) 3) == 0)⟩ : S115)) := ⟨_, rfl⟩
     replace H : (laws_markBarS.l0 k1 CB (wrap64 ((wrap64 ((wrap64 (cA + 1)) + 1)) + 1)) (wrap64 (aA + 1))) = some (r1, r2) := zh H; have mC := zQ gB; clear gB; have H' := zQ H; clear H; obtain ⟨YC, MA, JC⟩ := Kd.R_slice dA.out; subst JC; have p5 : 0 ≤ (aA : Int) := zD; have q5 : (aA : Int) < ((bA.length : Int) : Int) := zD; obtain ⟨eA, wB, LA, WA, gl5, cl5, HG5⟩ := Kd.R_form dA.out (by omega)
     (first | cases LA | (injection LA with ea_ en_ ec_; (first | subst ea_ | (injection ea_ with ea_; subst ea_)); subst ec_; clear en_))
     have GB5 := zQ WA; have GG5 := zQ HG5; clear WA gl5 HG5; have HMgo5 := zQ (show (P0_ eA ∨ w.heap.size ≤ eA) from (dA.out.1 _ rfl)); obtain ⟨ce5, UA, hM5, pA, nA⟩ := Kd.R_elem dA.out z115 (aA : Int) p5 q5; obtain rfl := k115_openM hM5; have OA : wr.cell? ⟨eA, (aA : Int).toNat * 3, none⟩ = some (.int .i64 ((rd_T115 bA aA).f0)) := pA 0 _ rfl; have pB : wr.cell? ⟨eA, (aA : Int).toNat * 3 + 1, none⟩ = some (.int .i64 ((rd_T115 bA aA).f1)) := pA 1 _ rfl; have WB : wr.cell? ⟨eA, (aA : Int).toNat * 3 + 2, none⟩ = some (.bool ((rd_T115 bA aA).f2)) := pA 2 _ rfl; have RA : wr.frozen? ⟨eA, (aA : Int).toNat * 3, none⟩ = false := nA 0; have tB : wr.frozen? ⟨eA, (aA : Int).toNat * 3 + 1, none⟩ = false := nA 1; have fC : wr.frozen? ⟨eA, (aA : Int).toNat * 3 + 2, none⟩ = false := nA 2
     (try clear hM5); clear UA pA nA
     replace p5 := eq_true p5; replace q5 := eq_true q5; have sC := zQ (show Kd.R k115 115 wr w0.heap.size (fun k_ => (P0_ k_ ∨ w.heap.size ≤ k_)) (.slice (some ⟨eA, 0, none⟩) bA.length MA) bA from (zR dA.out)); obtain ⟨ce9, SA, hM9, JA, PA⟩ := Kd.R_elem sC.out z115 (aA : Int) (zD) (by have h_ : (aA : Int) < ((bA.length : Int) : Int) := zD; first | exact h_ | (have e_ := (Kd.R_reads' dA.out).1; omega) | simpa using h_); obtain rfl := k115_openM hM9; have HP9 := Kd.R_seg sC.out (aA : Int) (zD) (by have h_ : (aA : Int) < ((bA.length : Int) : Int) := zD; first | exact h_ | (have e_ := (Kd.R_reads' dA.out).1; omega) | simpa using h_) (seg := [.int .i64 cA]) (j := 0) SA JA (show 1 ≤ 3 from by decide) (x' := (⟨cA, (rd_T115 bA aA).f1, (rd_T115 bA aA).f2⟩ : S115)) (k115_mkM _ _ _ (⟨cA, (rd_T115 bA aA).f1, (rd_T115 bA aA).f2⟩ : S115) ) (fun _ hk => hk); have NA := JA 0 _ rfl
     (try simp only [show (k115).sz = 3 from rfl, Nat.mul_one, Nat.add_zero] at NA)
     have QA := PA 0
     (try simp only [show (k115).sz = 3 from rfl, Nat.mul_one, Nat.add_zero] at QA)
     (try clear hM9); clear SA JA PA
     go_wp2_with (first | ((with_reducible refine gate_store (t := 2) (p := 16) rfl ?_); refine store_event (t := 2) (p := 16) (v := ?vo_w10) (w1 := (wr.setCell ⟨eA, (aA : Int).toNat * 3, none⟩ (.int .i64 cA))) ?hg ?ho ?hn ?hr ?_; (case ho => rfl); (case hg => rfl); (case hn => rfl); (case hr => first | (go_simp; done) | (go_simp; rfl)); intro sA hw; have hg : wr.grownBy sA (some eA) := (by rw [hw]; exact HP9.2); have hp_ : Kd.R k115 115 sA w0.heap.size (fun k_ => (P0_ k_ ∨ w.heap.size ≤ k_)) (.slice (some ⟨eA, 0, none⟩) bA.length MA) hA := (by rw [hw, oC.out]; exact HP9.1); clear HP9; replace HB := zQ ((by rw [hw]; exact below_set (HB.out) GB5.out : Below w0.heap.size w0 sA)); replace HK := zQ (Kept.of_grown (S := (fun k_ => P0_ k_)) hg (by repeat (first | (with_reducible first | exact HK.out | apply Kept.alloc | apply Kept.drewN | apply Kept.drew) | exact HK.out)) (fun k_ e_ => (dA.out.1 k_ e_))); replace dA := zQ (hp_); clear hg hw hp_; have p6 : 0 ≤ (aA : Int) := zD; have q6 : (aA : Int) < ((bA.length : Int) : Int) := zD; obtain ⟨ce6, TA, hM6, oA, mA⟩ := Kd.R_elem dA.out z115 (aA : Int) p6 q6; obtain rfl := k115_openM hM6; have oB : sA.cell? ⟨eA, (aA : Int).toNat * 3, none⟩ = some (.int .i64 ((rd_T115 hA aA).f0)) := oA 0 _ rfl; have nB : sA.cell? ⟨eA, (aA : Int).toNat * 3 + 1, none⟩ = some (.int .i64 ((rd_T115 hA aA).f1)) := oA 1 _ rfl; have VB : sA.cell? ⟨eA, (aA : Int).toNat * 3 + 2, none⟩ = some (.bool ((rd_T115 hA aA).f2)) := oA 2 _ rfl; have sB : sA.frozen? ⟨eA, (aA : Int).toNat * 3, none⟩ = false := mA 0; have rB : sA.frozen? ⟨eA, (aA : Int).toNat * 3 + 1, none⟩ = false := mA 1; have eC : sA.frozen? ⟨eA, (aA : Int).toNat * 3 + 2, none⟩ = false := mA 2; (try clear hM6); clear TA oA mA; replace p6 := eq_true p6; replace q6 := eq_true q6; have YA := zQ (show Kd.R k115 115 sA w0.heap.size (fun k_ => (P0_ k_ ∨ w.heap.size ≤ k_)) (.slice (some ⟨eA, 0, none⟩) bA.length MA) hA from (zR dA.out)); obtain ⟨ce11, BA, hM11, uA, zA⟩ := Kd.R_elem YA.out z115 (aA : Int) (zD) (by have h_ : (aA : Int) < ((bA.length : Int) : Int) := zD; first | exact h_ | (have e_ := (Kd.R_reads' dA.out).1; omega) | simpa using h_); obtain rfl := k115_openM hM11; have HP11 := Kd.R_seg YA.out (aA : Int) (zD) (by have h_ : (aA : Int) < ((bA.length : Int) : Int) := zD; first | exact h_ | (have e_ := (Kd.R_reads' dA.out).1; omega) | simpa using h_) (seg := [.int .i64 (wrap64 (cA + 1))]) (j := 1) BA uA (show 2 ≤ 3 from by decide) (x' := (⟨(rd_T115 hA aA).f0, wrap64 (cA + 1), (rd_T115 hA aA).f2⟩ : S115)) (k115_mkM _ _ _ (⟨(rd_T115 hA aA).f0, wrap64 (cA + 1), (rd_T115 hA aA).f2⟩ : S115) ) (fun _ hk => hk); have FA := uA 1 _ rfl; (try simp only [show (k115).sz = 3 from rfl, Nat.mul_one, Nat.add_zero] at FA); have IA := zA 1; (try simp only [show (k115).sz = 3 from rfl, Nat.mul_one, Nat.add_zero] at IA); (try clear hM11); clear BA uA zA) | ((with_reducible refine gate_store (t := 2) (p := 23) rfl ?_); refine store_event (t := 2) (p := 23) (v := ?vo_w12) (w1 := (sA.setCell ⟨eA, (aA : Int).toNat * 3 + 1, none⟩ (.int .i64 (wrap64 (cA + 1))))) ?hg ?ho ?hn ?hr ?_; (case ho => rfl); (case hg => rfl); (case hn => rfl); (case hr => first | (go_simp; done) | (go_simp; rfl)); intro rA hw; have hg : sA.grownBy rA (some eA) := (by rw [hw]; exact HP11.2); have hp_ : Kd.R k115 115 rA w0.heap.size (fun k_ => (P0_ k_ ∨ w.heap.size ≤ k_)) (.slice (some ⟨eA, 0, none⟩) bA.length MA) fA := (by rw [hw, nC.out]; exact HP11.1); clear HP11; replace HB := zQ ((by rw [hw]; exact below_set (HB.out) GB5.out : Below w0.heap.size w0 rA)); replace HK := zQ (Kept.of_grown (S := (fun k_ => P0_ k_)) hg (by repeat (first | (with_reducible first | exact HK.out | apply Kept.alloc | apply Kept.drewN | apply Kept.drew) | exact HK.out)) (fun k_ e_ => (dA.out.1 k_ e_))); replace dA := zQ (hp_); clear hg hw hp_; have p7 : 0 ≤ (aA : Int) := zD; have q7 : (aA : Int) < ((bA.length : Int) : Int) := zD; obtain ⟨ce7, KB, hM7, wA, vA⟩ := Kd.R_elem dA.out z115 (aA : Int) p7 q7; obtain rfl := k115_openM hM7; have UB : rA.cell? ⟨eA, (aA : Int).toNat * 3, none⟩ = some (.int .i64 ((rd_T115 fA aA).f0)) := wA 0 _ rfl; have TB : rA.cell? ⟨eA, (aA : Int).toNat * 3 + 1, none⟩ = some (.int .i64 ((rd_T115 fA aA).f1)) := wA 1 _ rfl; have SB : rA.cell? ⟨eA, (aA : Int).toNat * 3 + 2, none⟩ = some (.bool ((rd_T115 fA aA).f2)) := wA 2 _ rfl; have dC : rA.frozen? ⟨eA, (aA : Int).toNat * 3, none⟩ = false := vA 0; have cC : rA.frozen? ⟨eA, (aA : Int).toNat * 3 + 1, none⟩ = false := vA 1; have bC : rA.frozen? ⟨eA, (aA : Int).toNat * 3 + 2, none⟩ = false := vA 2; (try clear hM7); clear KB wA vA; replace p7 := eq_true p7; replace q7 := eq_true q7; have XA := zQ (show Kd.R k115 115 rA w0.heap.size (fun k_ => (P0_ k_ ∨ w.heap.size ≤ k_)) (.slice (some ⟨eA, 0, none⟩) bA.length MA) fA from (zR dA.out)); obtain ⟨ce13, AA, hM13, tA, yA⟩ := Kd.R_elem XA.out z115 (aA : Int) (zD) (by have h_ : (aA : Int) < ((bA.length : Int) : Int) := zD; first | exact h_ | (have e_ := (Kd.R_reads' dA.out).1; omega) | simpa using h_); obtain rfl := k115_openM hM13; have HP13 := Kd.R_seg XA.out (aA : Int) (zD) (by have h_ : (aA : Int) < ((bA.length : Int) : Int) := zD; first | exact h_ | (have e_ := (Kd.R_reads' dA.out).1; omega) | simpa using h_) (seg := [.bool ((Int.tmod (wrap64 ((wrap64 (cA + 1)) + 1)) 3) == 0)]) (j := 2) AA tA (show 3 ≤ 3 from by decide) (x' := (⟨(rd_T115 fA aA).f0, (rd_T115 fA aA).f1, ((Int.tmod (wrap64 ((wrap64 (cA + 1)) + 1)) 3) == 0)⟩ : S115)) (k115_mkM _ _ _ (⟨(rd_T115 fA aA).f0, (rd_T115 fA aA).f1, ((Int.tmod (wrap64 ((wrap64 (cA + 1)) + 1)) 3) == 0)⟩ : S115) ) (fun _ hk => hk); have EA := tA 2 _ rfl; (try simp only [show (k115).sz = 3 from rfl, Nat.mul_one, Nat.add_zero] at EA); have GA := yA 2; (try simp only [show (k115).sz = 3 from rfl, Nat.mul_one, Nat.add_zero] at GA); (try clear hM13); clear AA tA yA) | ((with_reducible refine gate_store (t := 4) (p := 32) rfl ?_); refine store_event (t := 4) (p := 32) (v := ?vo_w14) (w1 := (rA.setCell ⟨eA, (aA : Int).toNat * 3 + 2, none⟩ (.bool ((Int.tmod (wrap64 ((wrap64 (cA + 1)) + 1)) 3) == 0)))) ?hg ?ho ?hn ?hr ?_; (case ho => rfl); (case hg => rfl); (case hn => rfl); (case hr => first | (go_simp; done) | (go_simp; rfl)); intro EB hw; have hg : rA.grownBy EB (some eA) := (by rw [hw]; exact HP13.2); have hp_ : Kd.R k115 115 EB w0.heap.size (fun k_ => (P0_ k_ ∨ w.heap.size ≤ k_)) (.slice (some ⟨eA, 0, none⟩) bA.length MA) CB := (by rw [hw, mC.out]; exact HP13.1); clear HP13; replace HB := zQ ((by rw [hw]; exact below_set (HB.out) GB5.out : Below w0.heap.size w0 EB)); replace HK := zQ (Kept.of_grown (S := (fun k_ => P0_ k_)) hg (by repeat (first | (with_reducible first | exact HK.out | apply Kept.alloc | apply Kept.drewN | apply Kept.drew) | exact HK.out)) (fun k_ e_ => (dA.out.1 k_ e_))); replace dA := zQ (hp_); clear hg hw hp_))
     go_roundg k1
     case measure => have := KA.out; omega
     case rel => exact ⟨(CB), (wrap64 ((wrap64 ((wrap64 (cA + 1)) + 1)) + 1)), (wrap64 (aA + 1)), (zF), (zF), H', ⟨by have := KA.out; omega⟩, ⟨zR dA.out⟩, ⟨by repeat (first | (with_reducible first | exact HK.out | apply Kept.alloc | apply Kept.drewN | apply Kept.drew) | exact HK.out)⟩, ⟨zB HB.out⟩⟩
    ·rw [if_neg c4] at H
     exact absurd H (by simp)
   ·rw [if_neg c3] at H
    have xA := decide_eq_false c3; clear c3
    simp only [Option.some.injEq, Prod.mk.injEq] at H
    obtain ⟨rfl, rfl⟩ := H; obtain ⟨PC, MC, MB⟩ := Kd.R_slice dA.out; subst MB
    go_wp2
    go_ret
    exact ⟨zE, zR dA.out, zB HB.out, by repeat (first | (with_reducible first | exact HK.out | apply Kept.alloc | apply Kept.drewN | apply Kept.drew) | exact HK.out)⟩

def laws_markFrame.f (k : Nat) (l0_0 : List (S164)) (l0_1 : List (S115)) (a1 : Int) : Option (Int × (List (S164)) × (List (S115))) := (laws_markKnotS.f k l0_0 a1).bind fun yB => ((laws_markBarS.f k l0_1 yB.1).bind fun xB => (some (xB.1, yB.2, xB.2)))
theorem laws_markFrame.calls (k : Nat) (P0_0_ : Nat → Prop) (u9000_ : Value) (l0_0 : List (S164)) (P0_1_ : Nat → Prop) (u9001_ : Value) (l0_1 : List (S115)) (a1 : Int) (r1 : Int) (r2 : List (S164)) (r3 : List (S115)) (w0 w : World) (hB : Below w0.heap.size w0 w) (YB : Kd.R k164 164 w w0.heap.size P0_0_ u9000_ l0_0) (XB : Kd.R k115 115 w w0.heap.size P0_1_ u9001_ l0_1) (h : laws_markFrame.f k l0_0 l0_1 a1 = some (r1, r2, r3)) :
  Calls Try.prog 42 #[.agg #[u9000_, u9001_], .int .i64 a1] w fun e w' => e = .returned (.int .i64 r1) ∧ Kd.R k164 164 w' w0.heap.size (fun k_ => ((P0_0_ k_ ∨ P0_1_ k_) ∨ w.heap.size ≤ k_)) u9000_ r2 ∧ Kd.R k115 115 w' w0.heap.size (fun k_ => ((P0_0_ k_ ∨ P0_1_ k_) ∨ w.heap.size ≤ k_)) u9001_ r3 ∧ Below w0.heap.size w0 w' ∧ Kept w w' (fun k_ => P0_0_ k_ ∨ P0_1_ k_) := by
 have UC := Try.underlying27
 have kA := zQ (show Kd.R k164 164 w w0.heap.size (fun k_ => ((P0_0_ k_ ∨ P0_1_ k_) ∨ w.heap.size ≤ k_)) u9000_ l0_0 from Kd.R_mono YB (fun k_ hk => (.inl (.inl hk))))
 have jA := zQ (show Kd.R k115 115 w w0.heap.size (fun k_ => ((P0_0_ k_ ∨ P0_1_ k_) ∨ w.heap.size ≤ k_)) u9001_ l0_1 from Kd.R_mono XB (fun k_ hk => (.inl (.inr hk))))
 have HK := zQ (Kept.refl w (fun k_ => P0_0_ k_ ∨ P0_1_ k_))
 have HW0 := zQ hB.size
 have HB := zQ hB
 clear hB
 have H := h; unfold laws_markFrame.f at H
 clear h
 replace H := zob H; obtain ⟨⟨FB, EC⟩, A3, H⟩ := H
 replace H := zob H; obtain ⟨⟨DC, CC⟩, A4, H⟩ := H
 simp only [Option.some.injEq, Prod.mk.injEq] at H
 obtain ⟨rfl, rfl, rfl⟩ := H
 obtain ⟨BC, wB, LA⟩ := Kd.R_slice kA.out
 subst LA
 obtain ⟨uC, PB, KC⟩ := Kd.R_slice jA.out
 subst KC
 go_enter Try.func42, Try.ntmps42
 go_wp2_with (first | ((with_reducible refine zd 2 ?_); refine zbx (N := 2) (cs := #[.slice BC l0_0.length wB, .slice uC l0_1.length PB]) (t := 27) ?_; intro vB hg w7 hC hb; have qA := zQ (hC); have ZA := zQ ((by rw [hg]; exact (by first | exact HK.out.1 | exact (show Kept w _ (fun k_ => P0_0_ k_ ∨ P0_1_ k_) from by repeat (first | (with_reducible first | exact HK.out | apply Kept.alloc | apply Kept.drewN | apply Kept.drew) | exact HK.out)).1) : w.heap.size ≤ vB)); have aB := zQ ((by rw [hg]; exact (below_size (zB HB.out)) : w0.heap.size ≤ vB)); replace kA := zRb kA.out hb; replace jA := zRb jA.out hb; replace HK := zQ (Kept.below (S := (fun k_ => P0_0_ k_ ∨ P0_1_ k_)) (by repeat (first | (with_reducible first | exact HK.out | apply Kept.alloc | apply Kept.drewN | apply Kept.drew) | exact HK.out)) hb); replace HB := zbs HB.out hb; clear hb hC hg; obtain ⟨IC, HC, GC, FC⟩ := zy2 qA.out) | ((with_reducible refine zgc 103 ?_); refine zgo (some 8) Try.func103 #[.slice BC l0_0.length wB, .int .i64 a1] ?_; (with_reducible refine (laws_markKnotS.calls k (fun k_ => some k_ = (.slice BC l0_0.length wB : Value).ownBlock) (.slice BC l0_0.length wB) l0_0 a1 FB EC w0 _ ?side1 (Kd.R_tight rfl kA.out) A3.out).mono ?_); (case side1 => exact zB2 HB.out aB.out); rintro e w9 ⟨rfl, QB, hb, hkp⟩; refine ⟨_, rfl, ?_⟩; replace jA := zQ (Kd.R_mono (ok' := fun k_ => ((P0_0_ k_ ∨ P0_1_ k_) ∨ w.heap.size ≤ k_)) (Kd.R_keptB ((Kd.R_apart' jA.out (Kd.R_typed kA.out) (by decide))) hkp (fun k_ hk_ hs_ => (hk_.2) hs_)) (fun k_ hk_ => hk_.1.1)); replace qA := zQ (blk_kept (zb qA.out) hkp (fun hs_ => (fun e_ => (Kd.R_ne kA.out qA.out (by decide)) e_) hs_)); replace HK := zQ (Kept.then_ (S := (fun k_ => P0_0_ k_ ∨ P0_1_ k_)) (by repeat (first | (with_reducible first | exact HK.out | apply Kept.alloc | apply Kept.drewN | apply Kept.drew | refine Kept.setCell ?_ (.inr ZA.out) _) | exact HK.out)) hkp (fun k_ hs_ => (fun e_ => (kA.out.1 k_ e_.symm)) hs_)); replace kA := zQ (Kd.R_reok rfl QB (fun k_ e_ => kA.out.1 k_ e_)); replace HB := zQ (hb); (try clear hb); (try clear hkp); (try clear QB); obtain ⟨zC, yC, xC, wC⟩ := zy2 qA.out) | ((with_reducible refine zgc 104 ?_); refine zgo (some 12) Try.func104 #[.slice uC l0_1.length PB, .int .i64 FB] ?_; (with_reducible refine (laws_markBarS.calls k (fun k_ => some k_ = (.slice uC l0_1.length PB : Value).ownBlock) (.slice uC l0_1.length PB) l0_1 FB DC CC w0 _ ?side1 (Kd.R_tight rfl jA.out) A4.out).mono ?_); (case side1 => exact zB2 HB.out aB.out); rintro e vC ⟨rfl, QB, hb, hkp⟩; refine ⟨_, rfl, ?_⟩; replace kA := zQ (Kd.R_mono (ok' := fun k_ => ((P0_0_ k_ ∨ P0_1_ k_) ∨ w.heap.size ≤ k_)) (Kd.R_keptB ((Kd.R_apart' kA.out (Kd.R_typed jA.out) (by decide))) hkp (fun k_ hk_ hs_ => (hk_.2) hs_)) (fun k_ hk_ => hk_.1.1)); replace qA := zQ (blk_kept (zb qA.out) hkp (fun hs_ => (fun e_ => (Kd.R_ne jA.out qA.out (by decide)) e_) hs_)); replace HK := zQ (Kept.then_ (S := (fun k_ => P0_0_ k_ ∨ P0_1_ k_)) (by repeat (first | (with_reducible first | exact HK.out | apply Kept.alloc | apply Kept.drewN | apply Kept.drew | refine Kept.setCell ?_ (.inr ZA.out) _) | exact HK.out)) hkp (fun k_ hs_ => (fun e_ => (jA.out.1 k_ e_.symm)) hs_)); replace jA := zQ (Kd.R_reok rfl QB (fun k_ e_ => jA.out.1 k_ e_)); replace HB := zQ (hb); (try clear hb); (try clear hkp); (try clear QB)))
 go_ret
 exact ⟨zE, zR kA.out, zR jA.out, zB2 HB.out aB.out, by repeat (first | (with_reducible first | exact HK.out | apply Kept.alloc | apply Kept.drewN | apply Kept.drew | refine Kept.setCell ?_ (.inr ZA.out) _) | exact HK.out)⟩

def laws_markPullS.l0 : Nat → List (S113) → Int → Int → Option (Int × (List (S113)))
 | 0, _, _, _ => none
 | k + 1, x0, x1, x5 => if x5 < (x0.length : Int) then (if 0 ≤ x5 then ((some (x0.set (x5 : Int).toNat (⟨x1, (rd_T113 x0 x5).f1⟩ : S113) : List (S113))).bind fun lA => (laws_markPullS.l0 k (lA.set (x5 : Int).toNat (⟨(rd_T113 lA x5).f0, wrap64 (x1 + 1)⟩ : S113)) (wrap64 ((wrap64 (x1 + 1)) + 1)) (wrap64 (x5 + 1)))) else (none)) else (some (x1, x0))
def laws_markPullS.f (k : Nat) (l0 : List (S113)) (a1 : Int) : Option (Int × (List (S113))) := laws_markPullS.l0 k l0 a1 0
theorem laws_markPullS.calls (k : Nat) (P0_ : Nat → Prop) (u9000_ : Value) (l0 : List (S113)) (a1 : Int) (r1 : Int) (r2 : List (S113)) (w0 w : World) (hB : Below w0.heap.size w0 w) (IB : Kd.R k113 113 w w0.heap.size P0_ u9000_ l0) (h : laws_markPullS.f k l0 a1 = some (r1, r2)) :
  Calls Try.prog 43 #[u9000_, .int .i64 a1] w fun e w' => e = .returned (.int .i64 r1) ∧ Kd.R k113 113 w' w0.heap.size (fun k_ => (P0_ k_ ∨ w.heap.size ≤ k_)) u9000_ r2 ∧ Below w0.heap.size w0 w' ∧ Kept w w' (fun k_ => P0_ k_) := by
 have OB := zQ (show Kd.R k113 113 w w0.heap.size (fun k_ => (P0_ k_ ∨ w.heap.size ≤ k_)) u9000_ l0 from Kd.R_mono IB (fun k_ hk => (.inl hk)))
 have HK := zQ (Kept.refl w (fun k_ => P0_ k_))
 have HW0 := zQ hB.size
 have HB := zQ hB
 clear hB
 have H : (laws_markPullS.l0 k l0 a1 0) = some (r1, r2) := h
 clear h
 have H' := zQ H
 clear H
 go_enter Try.func43, Try.ntmps43
 go_wp2
 go_loopg [1, 5] k (fun kq v1 v5 w' => ∃ (bA : List (S113)) (cA : Int) (aA : Int), v1 = .int .i64 cA ∧ v5 = .int .i64 aA ∧ Aside0 (laws_markPullS.l0 kq bA cA aA = some (r1, r2)) ∧ Aside0 (kq ≤ k) ∧ Aside0 (Kd.R k113 113 w' w0.heap.size (fun k_ => (P0_ k_ ∨ w.heap.size ≤ k_)) u9000_ bA) ∧ Aside0 (Kept w w' (fun k_ => P0_ k_)) ∧ Aside0 (Below w0.heap.size w0 w'))
 case atStart => exact ⟨(l0), (a1), (0), (zF), (zF), H', ⟨Nat.le_refl _⟩, ⟨zR OB.out⟩, ⟨by repeat (first | (with_reducible first | exact HK.out | apply Kept.alloc | apply Kept.drewN | apply Kept.drew) | exact HK.out)⟩, ⟨zB HB.out⟩⟩
 case round =>
  clear H'; (try clear p2); obtain ⟨bA, cA, aA, rfl, rfl, HA, KA, dA, HK, HB⟩ := hrel
  cases gk with
  | zero => exact absurd HA.out (by simp [laws_markPullS.l0])
  | succ k1 =>
   have H := HA.out; clear HA
   simp only [laws_markPullS.l0] at H
   by_cases c3 : aA < (bA.length : Int)
   ·rw [if_pos c3] at H
    have xA := decide_eq_true c3; clear c3
    by_cases c4 : 0 ≤ aA
    ·rw [if_pos c4] at H
     have cB := decide_eq_true c4; clear c4; obtain ⟨lA, fB⟩ : ∃ y_ : List (S113), y_ = (bA.set (aA : Int).toNat (⟨cA, (rd_T113 bA aA).f1⟩ : S113)) := ⟨_, rfl⟩; replace H : (laws_markPullS.l0 k1 (lA.set (aA : Int).toNat (⟨(rd_T113 lA aA).f0, wrap64 (cA + 1)⟩ : S113)) (wrap64 ((wrap64 (cA + 1)) + 1)) (wrap64 (aA + 1))) = some (r1, r2) := zh H; have lC := zQ fB; clear fB; obtain ⟨BB, eB⟩ : ∃ y_ : List (S113), y_ = (lA.set (aA : Int).toNat (⟨(rd_T113 lA aA).f0, wrap64 (cA + 1)⟩ : S113)) := ⟨_, rfl⟩; replace H : (laws_markPullS.l0 k1 BB (wrap64 ((wrap64 (cA + 1)) + 1)) (wrap64 (aA + 1))) = some (r1, r2) := zh H; have kC := zQ eB; clear eB; have H' := zQ H; clear H; obtain ⟨dD, AC, WC⟩ := Kd.R_slice dA.out; subst WC; have p5 : 0 ≤ (aA : Int) := zD; have q5 : (aA : Int) < ((bA.length : Int) : Int) := zD; obtain ⟨eA, wB, LA, WA, gl5, cl5, HG5⟩ := Kd.R_form dA.out (by omega)
     (first | cases LA | (injection LA with ea_ en_ ec_; (first | subst ea_ | (injection ea_ with ea_; subst ea_)); subst ec_; clear en_))
     have GB5 := zQ WA; have GG5 := zQ HG5; clear WA gl5 HG5; have HMgo5 := zQ (show (P0_ eA ∨ w.heap.size ≤ eA) from (dA.out.1 _ rfl)); obtain ⟨ce5, UA, hM5, pA, nA⟩ := Kd.R_elem dA.out z113 (aA : Int) p5 q5; obtain rfl := k113_openM hM5; have OA : wr.cell? ⟨eA, (aA : Int).toNat * 2, none⟩ = some (.int .i64 ((rd_T113 bA aA).f0)) := pA 0 _ rfl; have pB : wr.cell? ⟨eA, (aA : Int).toNat * 2 + 1, none⟩ = some (.int .i64 ((rd_T113 bA aA).f1)) := pA 1 _ rfl; have RA : wr.frozen? ⟨eA, (aA : Int).toNat * 2, none⟩ = false := nA 0; have tB : wr.frozen? ⟨eA, (aA : Int).toNat * 2 + 1, none⟩ = false := nA 1
     (try clear hM5); clear UA pA nA
     replace p5 := eq_true p5; replace q5 := eq_true q5; have SC := zQ (show Kd.R k113 113 wr w0.heap.size (fun k_ => (P0_ k_ ∨ w.heap.size ≤ k_)) (.slice (some ⟨eA, 0, none⟩) bA.length AC) bA from (zR dA.out)); obtain ⟨ce8, gC, hM8, LB, ZB⟩ := Kd.R_elem SC.out z113 (aA : Int) (zD) (by have h_ : (aA : Int) < ((bA.length : Int) : Int) := zD; first | exact h_ | (have e_ := (Kd.R_reads' dA.out).1; omega) | simpa using h_); obtain rfl := k113_openM hM8; have HP8 := Kd.R_seg SC.out (aA : Int) (zD) (by have h_ : (aA : Int) < ((bA.length : Int) : Int) := zD; first | exact h_ | (have e_ := (Kd.R_reads' dA.out).1; omega) | simpa using h_) (seg := [.int .i64 cA]) (j := 0) gC LB (show 1 ≤ 2 from by decide) (x' := (⟨cA, (rd_T113 bA aA).f1⟩ : S113)) (k113_mkM _ _ _ (⟨cA, (rd_T113 bA aA).f1⟩ : S113) ) (fun _ hk => hk); have RB := LB 0 _ rfl
     (try simp only [show (k113).sz = 2 from rfl, Nat.mul_one, Nat.add_zero] at RB)
     have aC := ZB 0
     (try simp only [show (k113).sz = 2 from rfl, Nat.mul_one, Nat.add_zero] at aC)
     (try clear hM8); clear gC LB ZB
     go_wp2_with (first | ((with_reducible refine gate_store (t := 2) (p := 16) rfl ?_); refine store_event (t := 2) (p := 16) (v := ?vo_w9) (w1 := (wr.setCell ⟨eA, (aA : Int).toNat * 2, none⟩ (.int .i64 cA))) ?hg ?ho ?hn ?hr ?_; (case ho => rfl); (case hg => rfl); (case hn => rfl); (case hr => first | (go_simp; done) | (go_simp; rfl)); intro w9 hw; have hg : wr.grownBy w9 (some eA) := (by rw [hw]; exact HP8.2); have hp_ : Kd.R k113 113 w9 w0.heap.size (fun k_ => (P0_ k_ ∨ w.heap.size ≤ k_)) (.slice (some ⟨eA, 0, none⟩) bA.length AC) lA := (by rw [hw, lC.out]; exact HP8.1); clear HP8; replace HB := zQ ((by rw [hw]; exact below_set (HB.out) GB5.out : Below w0.heap.size w0 w9)); replace HK := zQ (Kept.of_grown (S := (fun k_ => P0_ k_)) hg (by repeat (first | (with_reducible first | exact HK.out | apply Kept.alloc | apply Kept.drewN | apply Kept.drew) | exact HK.out)) (fun k_ e_ => (dA.out.1 k_ e_))); replace dA := zQ (hp_); clear hg hw hp_; have p6 : 0 ≤ (aA : Int) := zD; have q6 : (aA : Int) < ((bA.length : Int) : Int) := zD; obtain ⟨ce6, TA, hM6, oA, mA⟩ := Kd.R_elem dA.out z113 (aA : Int) p6 q6; obtain rfl := k113_openM hM6; have oB : w9.cell? ⟨eA, (aA : Int).toNat * 2, none⟩ = some (.int .i64 ((rd_T113 lA aA).f0)) := oA 0 _ rfl; have nB : w9.cell? ⟨eA, (aA : Int).toNat * 2 + 1, none⟩ = some (.int .i64 ((rd_T113 lA aA).f1)) := oA 1 _ rfl; have sB : w9.frozen? ⟨eA, (aA : Int).toNat * 2, none⟩ = false := mA 0; have rB : w9.frozen? ⟨eA, (aA : Int).toNat * 2 + 1, none⟩ = false := mA 1; (try clear hM6); clear TA oA mA; replace p6 := eq_true p6; replace q6 := eq_true q6; have tC := zQ (show Kd.R k113 113 w9 w0.heap.size (fun k_ => (P0_ k_ ∨ w.heap.size ≤ k_)) (.slice (some ⟨eA, 0, none⟩) bA.length AC) lA from (zR dA.out)); obtain ⟨ce10, uB, hM10, VA, qB⟩ := Kd.R_elem tC.out z113 (aA : Int) (zD) (by have h_ : (aA : Int) < ((bA.length : Int) : Int) := zD; first | exact h_ | (have e_ := (Kd.R_reads' dA.out).1; omega) | simpa using h_); obtain rfl := k113_openM hM10; have HP10 := Kd.R_seg tC.out (aA : Int) (zD) (by have h_ : (aA : Int) < ((bA.length : Int) : Int) := zD; first | exact h_ | (have e_ := (Kd.R_reads' dA.out).1; omega) | simpa using h_) (seg := [.int .i64 (wrap64 (cA + 1))]) (j := 1) uB VA (show 2 ≤ 2 from by decide) (x' := (⟨(rd_T113 lA aA).f0, wrap64 (cA + 1)⟩ : S113)) (k113_mkM _ _ _ (⟨(rd_T113 lA aA).f0, wrap64 (cA + 1)⟩ : S113) ) (fun _ hk => hk); have GB := VA 1 _ rfl; (try simp only [show (k113).sz = 2 from rfl, Nat.mul_one, Nat.add_zero] at GB); have JB := qB 1; (try simp only [show (k113).sz = 2 from rfl, Nat.mul_one, Nat.add_zero] at JB); (try clear hM10); clear uB VA qB) | ((with_reducible refine gate_store (t := 2) (p := 23) rfl ?_); refine store_event (t := 2) (p := 23) (v := ?vo_w11) (w1 := (w9.setCell ⟨eA, (aA : Int).toNat * 2 + 1, none⟩ (.int .i64 (wrap64 (cA + 1))))) ?hg ?ho ?hn ?hr ?_; (case ho => rfl); (case hg => rfl); (case hn => rfl); (case hr => first | (go_simp; done) | (go_simp; rfl)); intro vC hw; have hg : w9.grownBy vC (some eA) := (by rw [hw]; exact HP10.2); have hp_ : Kd.R k113 113 vC w0.heap.size (fun k_ => (P0_ k_ ∨ w.heap.size ≤ k_)) (.slice (some ⟨eA, 0, none⟩) bA.length AC) BB := (by rw [hw, kC.out]; exact HP10.1); clear HP10; replace HB := zQ ((by rw [hw]; exact below_set (HB.out) GB5.out : Below w0.heap.size w0 vC)); replace HK := zQ (Kept.of_grown (S := (fun k_ => P0_ k_)) hg (by repeat (first | (with_reducible first | exact HK.out | apply Kept.alloc | apply Kept.drewN | apply Kept.drew) | exact HK.out)) (fun k_ e_ => (dA.out.1 k_ e_))); replace dA := zQ (hp_); clear hg hw hp_))
     go_roundg k1
     case measure => have := KA.out; omega
     case rel => exact ⟨(BB), (wrap64 ((wrap64 (cA + 1)) + 1)), (wrap64 (aA + 1)), (zF), (zF), H', ⟨by have := KA.out; omega⟩, ⟨zR dA.out⟩, ⟨by repeat (first | (with_reducible first | exact HK.out | apply Kept.alloc | apply Kept.drewN | apply Kept.drew) | exact HK.out)⟩, ⟨zB HB.out⟩⟩
    ·rw [if_neg c4] at H
     exact absurd H (by simp)
   ·rw [if_neg c3] at H
    have xA := decide_eq_false c3; clear c3
    simp only [Option.some.injEq, Prod.mk.injEq] at H
    obtain ⟨rfl, rfl⟩ := H; obtain ⟨ZC, XC, LC⟩ := Kd.R_slice dA.out; subst LC
    go_wp2
    go_ret
    exact ⟨zE, zR dA.out, zB HB.out, by repeat (first | (with_reducible first | exact HK.out | apply Kept.alloc | apply Kept.drewN | apply Kept.drew) | exact HK.out)⟩

def laws_markInt64S.l0 : Nat → List Int → Int → Int → Option (Int × List Int)
 | 0, _, _, _ => none
 | k + 1, x0, x1, x5 => if x5 < (x0.length : Int) then (if 0 ≤ x5 then (laws_markInt64S.l0 k (x0.set (x5 : Int).toNat x1) (wrap64 (x1 + 1)) (wrap64 (x5 + 1))) else (none)) else (some (x1, x0))
def laws_markInt64S.f (k : Nat) (l0 : List Int) (a1 : Int) : Option (Int × List Int) := laws_markInt64S.l0 k l0 a1 0
theorem laws_markInt64S.calls (k : Nat) (P0_ : Nat → Prop) (u9000_ : Value) (l0 : List Int) (a1 : Int) (r1 : Int) (r2 : List Int) (w0 w : World) (hB : Below w0.heap.size w0 w) (IB : Kd.R (Kd.int .i64) 2 w w0.heap.size P0_ u9000_ l0) (h : laws_markInt64S.f k l0 a1 = some (r1, r2)) :
  Calls Try.prog 44 #[u9000_, .int .i64 a1] w fun e w' => e = .returned (.int .i64 r1) ∧ Kd.R (Kd.int .i64) 2 w' w0.heap.size (fun k_ => (P0_ k_ ∨ w.heap.size ≤ k_)) u9000_ r2 ∧ Below w0.heap.size w0 w' ∧ Kept w w' (fun k_ => P0_ k_) := by
 have OB := zQ (show Kd.R (Kd.int .i64) 2 w w0.heap.size (fun k_ => (P0_ k_ ∨ w.heap.size ≤ k_)) u9000_ l0 from Kd.R_mono IB (fun k_ hk => (.inl hk)))
 have HK := zQ (Kept.refl w (fun k_ => P0_ k_))
 have HW0 := zQ hB.size
 have HB := zQ hB
 clear hB
 have H : (laws_markInt64S.l0 k l0 a1 0) = some (r1, r2) := h
 clear h
 have H' := zQ H
 clear H
 go_enter Try.func44, Try.ntmps44
 go_wp2
 go_loopg [1, 5] k (fun kq v1 v5 w' => ∃ (bA : List Int) (cA : Int) (aA : Int), v1 = .int .i64 cA ∧ v5 = .int .i64 aA ∧ Aside0 (laws_markInt64S.l0 kq bA cA aA = some (r1, r2)) ∧ Aside0 (kq ≤ k) ∧ Aside0 (Kd.R (Kd.int .i64) 2 w' w0.heap.size (fun k_ => (P0_ k_ ∨ w.heap.size ≤ k_)) u9000_ bA) ∧ Aside0 (Kept w w' (fun k_ => P0_ k_)) ∧ Aside0 (Below w0.heap.size w0 w'))
 case atStart => exact ⟨(l0), (a1), (0), (zF), (zF), H', ⟨Nat.le_refl _⟩, ⟨zR OB.out⟩, ⟨by repeat (first | (with_reducible first | exact HK.out | apply Kept.alloc | apply Kept.drewN | apply Kept.drew) | exact HK.out)⟩, ⟨zB HB.out⟩⟩
 case round =>
  clear H'; (try clear p2); obtain ⟨bA, cA, aA, rfl, rfl, HA, KA, dA, HK, HB⟩ := hrel
  cases gk with
  | zero => exact absurd HA.out (by simp [laws_markInt64S.l0])
  | succ k1 =>
   have H := HA.out; clear HA
   simp only [laws_markInt64S.l0] at H
   by_cases c3 : aA < (bA.length : Int)
   ·rw [if_pos c3] at H
    have xA := decide_eq_true c3; clear c3
    by_cases c4 : 0 ≤ aA
    ·rw [if_pos c4] at H
     have cB := decide_eq_true c4; clear c4; obtain ⟨AB, dB⟩ : ∃ y_ : List Int, y_ = (bA.set (aA : Int).toNat cA) := ⟨_, rfl⟩; replace H : (laws_markInt64S.l0 k1 AB (wrap64 (cA + 1)) (wrap64 (aA + 1))) = some (r1, r2) := zh H; have jC := zQ dB; clear dB; have H' := zQ H; clear H; obtain ⟨uC, PB, KC⟩ := Kd.R_slice dA.out; subst KC; have p5 : 0 ≤ (aA : Int) := zD; have q5 : (aA : Int) < ((bA.length : Int) : Int) := zD; obtain ⟨eA, wB, LA, WA, gl5, cl5, HG5⟩ := Kd.R_form dA.out (by omega)
     (first | cases LA | (injection LA with ea_ en_ ec_; (first | subst ea_ | (injection ea_ with ea_; subst ea_)); subst ec_; clear en_))
     have GB5 := zQ WA; have GG5 := zQ HG5; clear WA gl5 HG5; have HMgo5 := zQ (show (P0_ eA ∨ w.heap.size ≤ eA) from (dA.out.1 _ rfl)); obtain ⟨OA, RA⟩ := Kd.R_celln 0 dA.out (aA : Int) p5 q5; replace p5 := eq_true p5; replace q5 := eq_true q5; have HP7 := Kd.R_putg dA.out (aA : Int) cA
     go_wp2_with (first | ((with_reducible refine gate_store (t := 2) (p := 15) rfl ?_); refine store_event (t := 2) (p := 15) (v := ?vo_w8) (w1 := (wr.setCell ⟨eA, (aA : Int).toNat, none⟩ (.int .i64 cA))) ?hg ?ho ?hn ?hr ?_; (case ho => rfl); (case hg => rfl); (case hn => rfl); (case hr => first | (go_simp; done) | (go_simp; rfl)); intro w8 hw; have hg : wr.grownBy w8 (some eA) := (by rw [hw]; exact HP7.2); have hp_ : Kd.R (Kd.int .i64) 2 w8 w0.heap.size (fun k_ => (P0_ k_ ∨ w.heap.size ≤ k_)) (.slice (some ⟨eA, 0, none⟩) bA.length PB) AB := (by rw [hw, jC.out]; exact HP7.1); clear HP7; replace HB := zQ ((by rw [hw]; exact below_set (HB.out) GB5.out : Below w0.heap.size w0 w8)); replace HK := zQ (Kept.of_grown (S := (fun k_ => P0_ k_)) hg (by repeat (first | (with_reducible first | exact HK.out | apply Kept.alloc | apply Kept.drewN | apply Kept.drew) | exact HK.out)) (fun k_ e_ => (dA.out.1 k_ e_))); replace dA := zQ (hp_); clear hg hw hp_))
     go_roundg k1
     case measure => have := KA.out; omega
     case rel => exact ⟨(AB), (wrap64 (cA + 1)), (wrap64 (aA + 1)), (zF), (zF), H', ⟨by have := KA.out; omega⟩, ⟨zR dA.out⟩, ⟨by repeat (first | (with_reducible first | exact HK.out | apply Kept.alloc | apply Kept.drewN | apply Kept.drew) | exact HK.out)⟩, ⟨zB HB.out⟩⟩
    ·rw [if_neg c4] at H
     exact absurd H (by simp)
   ·rw [if_neg c3] at H
    have xA := decide_eq_false c3; clear c3
    simp only [Option.some.injEq, Prod.mk.injEq] at H
    obtain ⟨rfl, rfl⟩ := H; obtain ⟨cD, aD, VC⟩ := Kd.R_slice dA.out; subst VC
    go_wp2
    go_ret
    exact ⟨zE, zR dA.out, zB HB.out, by repeat (first | (with_reducible first | exact HK.out | apply Kept.alloc | apply Kept.drewN | apply Kept.drew) | exact HK.out)⟩

def laws_heldInt64S.l0 : Nat → List Int → Int → Int → Option (Int)
 | 0, _, _, _ => none
 | k + 1, x0, x1, x5 => if x5 < (x0.length : Int) then (if 0 ≤ x5 then (if (rd x0 x5) = x1 then (laws_heldInt64S.l0 k x0 (wrap64 (x1 + 1)) (wrap64 (x5 + 1))) else (some (-1))) else (none)) else (some x1)
def laws_heldInt64S.f (k : Nat) (l0 : List Int) (a1 : Int) : Option (Int) := laws_heldInt64S.l0 k l0 a1 0
theorem laws_heldInt64S.calls (k : Nat) (A0 : Option Addr) (c0 : Nat) (l0 : List Int) (a1 : Int) (r : Int) (w : World) (QC : Kd.C (Kd.int .i64) w A0 l0.length l0) (RC : l0.length ≤ c0) (h : laws_heldInt64S.f k l0 a1 = some r) :
  Calls Try.prog 45 #[.slice A0 l0.length c0, .int .i64 a1] w fun e w' => e = .returned (.int .i64 r) ∧ Drawn0 w w' := by
 have TC := zQ QC
 have bD := zQ RC
 clear QC RC
 have H : (laws_heldInt64S.l0 k l0 a1 0) = some r := h
 clear h
 have H' := zQ H
 clear H
 go_enter Try.func45, Try.ntmps45
 go_wp2
 go_loopg [1, 5] k (fun kq v1 v5 w' => ∃ (cA : Int) (aA : Int), v1 = .int .i64 cA ∧ v5 = .int .i64 aA ∧ Aside0 (laws_heldInt64S.l0 kq l0 cA aA = some r) ∧ Aside0 (kq ≤ k) ∧ Drawn0 w w')
 case atStart => exact ⟨(a1), (0), (zF), (zF), H', ⟨Nat.le_refl _⟩, by repeat (first | exact Drawn0.refl _ | apply Drawn0.step)⟩
 case round =>
  clear H'; (try clear p2); obtain ⟨cA, aA, rfl, rfl, HA, KA, ⟨m1, rfl⟩⟩ := hrel
  cases gk with
  | zero => exact absurd HA.out (by simp [laws_heldInt64S.l0])
  | succ k1 =>
   have H := HA.out; clear HA
   simp only [laws_heldInt64S.l0] at H
   by_cases c3 : aA < (l0.length : Int)
   ·rw [if_pos c3] at H
    have xA := decide_eq_true c3; clear c3
    by_cases c4 : 0 ≤ aA
    ·rw [if_pos c4] at H
     have cB := decide_eq_true c4; clear c4
     by_cases c5 : (rd l0 aA) = cA
     ·rw [if_pos c5] at H
      have OC : ((rd l0 aA) == cA) = true := beq_iff_eq.mpr c5; have NC : ((rd l0 aA) != cA) = false := bne_eq_false_iff_eq.mpr c5; clear c5; have H' := zQ H; clear H; have DA : 0 ≤ (aA : Int) := zD; have CA : aA < (l0.length : Int) := zD; obtain ⟨iC, NB, bB⟩ := Kd.at_int TC.out aA DA CA
      cases NB
      replace DA := eq_true DA; replace CA := eq_true CA
      go_wp2
      go_roundg k1
      case measure => have := KA.out; omega
      case rel => exact ⟨(wrap64 (cA + 1)), (wrap64 (aA + 1)), (zF), (zF), H', ⟨by have := KA.out; omega⟩, by repeat (first | exact Drawn0.refl _ | apply Drawn0.step)⟩
     ·rw [if_neg c5] at H
      have OC : ((rd l0 aA) == cA) = false := beq_eq_false_iff_ne.mpr c5; have NC : ((rd l0 aA) != cA) = true := bne_iff_ne.mpr c5; obtain rfl := Option.some.inj H; have DA : 0 ≤ (aA : Int) := zD; have CA : aA < (l0.length : Int) := zD; obtain ⟨iC, NB, bB⟩ := Kd.at_int TC.out aA DA CA
      cases NB
      replace DA := eq_true DA; replace CA := eq_true CA
      go_wp2
      go_ret
      exact ⟨zF, by repeat (first | exact Drawn0.refl _ | apply Drawn0.step)⟩
    ·rw [if_neg c4] at H
     exact absurd H (by simp)
   ·rw [if_neg c3] at H
    have xA := decide_eq_false c3; clear c3; obtain rfl := Option.some.inj H
    go_wp2
    go_ret
    exact ⟨zF, by repeat (first | exact Drawn0.refl _ | apply Drawn0.step)⟩

end
end Go.Proofs.Ytimjblgepbhoaaa.PStays

