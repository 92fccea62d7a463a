import Derived.Test.YtimjblgepbhoaaaHStays0
namespace Go.Proofs.Ytimjblgepbhoaaa.PStays
noncomputable section
open Go.RowKit Go.Proofs.YtimjblgepbhoaaaW.PrintWords Go.Proofs.YtimjblgepbhoaaaW.PrintLast Go.Proofs.YtimjblgepbhoaaaW.PrintMore
attribute [local go_sem] max2_int min2_int max_two min_two max_three min_three max_four min_four   -- for this text's walks alone
set_option linter.unusedVariables false
set_option linter.unusedSimpArgs false
set_option maxHeartbeats 8000000
set_option maxRecDepth 100000

def laws_szKnotS.f (l0 : List (S166)) (a1 : Int) : Option (Int) := if (wrap64 (a1 - (l0.length : Int))) < 0 then (some (-1)) else (some (wrap64 (a1 - (l0.length : Int))))
theorem laws_szKnotS.calls (A0 : Option Addr) (c0 : Nat) (l0 : List (S166)) (a1 : Int) (r : Int) (w : World) (XA : Kd.C k166 w A0 l0.length l0) (cB : l0.length ≤ c0) (h : laws_szKnotS.f l0 a1 = some r) :
  Calls Try.prog 95 #[.slice A0 l0.length c0, .int .i64 a1] w fun e w' => e = .returned (.int .i64 r) ∧ Drawn0 w w' := by
 have WC := zQ XA
 have RD := zQ cB
 clear XA cB
 have H := h; unfold laws_szKnotS.f at H
 clear h
 by_cases c3 : (wrap64 (a1 - (l0.length : Int))) < 0
 ·rw [if_pos c3] at H
  have CA := decide_eq_true c3; clear c3; obtain rfl := Option.some.inj H
  go_enter Try.func95, Try.ntmps95
  go_wp2
  go_ret
  exact ⟨zF, by repeat (first | exact Drawn0.refl _ | apply Drawn0.step)⟩
 ·rw [if_neg c3] at H
  have CA := decide_eq_false c3; clear c3; obtain rfl := Option.some.inj H
  go_enter Try.func95, Try.ntmps95
  go_wp2
  go_ret
  exact ⟨zF, by repeat (first | exact Drawn0.refl _ | apply Drawn0.step)⟩

def laws_szBarS.f (l0 : List (S168)) (a1 : Int) : Option (Int) := if (wrap64 (a1 - (l0.length : Int))) < 0 then (some (-1)) else (some (wrap64 (a1 - (l0.length : Int))))
theorem laws_szBarS.calls (A0 : Option Addr) (c0 : Nat) (l0 : List (S168)) (a1 : Int) (r : Int) (w : World) (XA : Kd.C k168 w A0 l0.length l0) (cB : l0.length ≤ c0) (h : laws_szBarS.f l0 a1 = some r) :
  Calls Try.prog 96 #[.slice A0 l0.length c0, .int .i64 a1] w fun e w' => e = .returned (.int .i64 r) ∧ Drawn0 w w' := by
 have WC := zQ XA
 have RD := zQ cB
 clear XA cB
 have H := h; unfold laws_szBarS.f at H
 clear h
 by_cases c3 : (wrap64 (a1 - (l0.length : Int))) < 0
 ·rw [if_pos c3] at H
  have CA := decide_eq_true c3; clear c3; obtain rfl := Option.some.inj H
  go_enter Try.func96, Try.ntmps96
  go_wp2
  go_ret
  exact ⟨zF, by repeat (first | exact Drawn0.refl _ | apply Drawn0.step)⟩
 ·rw [if_neg c3] at H
  have CA := decide_eq_false c3; clear c3; obtain rfl := Option.some.inj H
  go_enter Try.func96, Try.ntmps96
  go_wp2
  go_ret
  exact ⟨zF, by repeat (first | exact Drawn0.refl _ | apply Drawn0.step)⟩

def laws_szFrame.f (l0_0 : List (S166)) (l0_1 : List (S168)) (a1 : Int) : Option (Int) := (laws_szKnotS.f l0_0 a1).bind fun xA => (if xA < 0 then (some (-1)) else ((laws_szBarS.f l0_1 xA).bind fun PB => (if PB < 0 then (some (-1)) else (some PB))))
theorem laws_szFrame.calls (A0_0 : Option Addr) (c0_0 : Nat) (l0_0 : List (S166)) (A0_1 : Option Addr) (c0_1 : Nat) (l0_1 : List (S168)) (a1 : Int) (r : Int) (w : World) (WA : Kd.C k166 w A0_0 l0_0.length l0_0) (bB : l0_0.length ≤ c0_0) (VA : Kd.C k168 w A0_1 l0_1.length l0_1) (aB : l0_1.length ≤ c0_1) (h : laws_szFrame.f l0_0 l0_1 a1 = some r) :
  Calls Try.prog 34 #[.agg #[.slice A0_0 l0_0.length c0_0, .slice A0_1 l0_1.length c0_1], .int .i64 a1] w fun e w' => e = .returned (.int .i64 r) ∧ Below w.heap.size w w' := by
 have EE := Try.underlying54
 have hB := zQ WA
 have iB := zQ bB
 clear WA bB
 have AB := zQ VA
 have CB := zQ aB
 clear VA aB
 have HB := zQ (Below.refl w.heap.size w)
 have H := h; unfold laws_szFrame.f at H
 clear h
 replace H := zob H; obtain ⟨xA, A3, H⟩ := H
 by_cases c4 : xA < 0
 ·rw [if_pos c4] at H
  have yC := decide_eq_true c4; clear c4; obtain rfl := Option.some.inj H
  go_enter Try.func34, Try.ntmps34
  go_wp2_with (first | ((with_reducible refine zd 2 ?_); refine zbx (N := 2) (cs := #[.slice A0_0 l0_0.length c0_0, .slice A0_1 l0_1.length c0_1]) (t := 54) ?_; intro RC hg w5 bA hb; have kB := zQ (bA); have jB := zgz hg HB.out; have DA := jB; replace HB := zbs HB.out hb; clear hb bA hg; obtain ⟨IE, HE, GE, FE⟩ := zy2 kB.out) | ((with_reducible refine zgc 95 ?_); refine zgo (some 8) Try.func95 #[.slice A0_0 l0_0.length c0_0, .int .i64 a1] ?_; (with_reducible refine (laws_szKnotS.calls _ _ l0_0 a1 xA _ (zC hB.out HB.out) iB.out A3.out).mono ?_); rintro e w' ⟨rfl, ⟨nd, rfl⟩⟩; refine ⟨_, rfl, ?_⟩))
  go_ret
  exact ⟨zE, zB2 HB.out DA.out⟩
 ·rw [if_neg c4] at H
  have yC := decide_eq_false c4; clear c4; replace H := zob H; obtain ⟨PB, A7, H⟩ := H
  by_cases c8 : PB < 0
  ·rw [if_pos c8] at H
   have OE := decide_eq_true c8; clear c8; obtain rfl := Option.some.inj H
   go_enter Try.func34, Try.ntmps34
   go_wp2_with (first | ((with_reducible refine zd 2 ?_); refine zbx (N := 2) (cs := #[.slice A0_0 l0_0.length c0_0, .slice A0_1 l0_1.length c0_1]) (t := 54) ?_; intro RC hg w9 bA hb; have kB := zQ (bA); have jB := zgz hg HB.out; have DA := jB; replace HB := zbs HB.out hb; clear hb bA hg; obtain ⟨TA, SA, RA, QA⟩ := zy2 kB.out) | ((with_reducible refine zgc 95 ?_); refine zgo (some 8) Try.func95 #[.slice A0_0 l0_0.length c0_0, .int .i64 a1] ?_; (with_reducible refine (laws_szKnotS.calls _ _ l0_0 a1 xA _ (zC hB.out HB.out) iB.out A3.out).mono ?_); rintro e w' ⟨rfl, ⟨nd, rfl⟩⟩; refine ⟨_, rfl, ?_⟩) | ((with_reducible refine zgc 96 ?_); refine zgo (some 14) Try.func96 #[.slice A0_1 l0_1.length c0_1, .int .i64 xA] ?_; (with_reducible refine (laws_szBarS.calls _ _ l0_1 xA PB _ ?side1 CB.out A7.out).mono ?_); (case side1 => repeat (first | exact (Kd.C_below AB.out (zB2 HB.out DA.out)) | (with_reducible refine Kd.C_alloc ?_ _) | (with_reducible refine Kd.C_drewN ?_ _) | (with_reducible refine Kd.C_drew ?_))); rintro e w' ⟨rfl, ⟨nd, rfl⟩⟩; refine ⟨_, rfl, ?_⟩))
   go_ret
   exact ⟨zE, zB2 HB.out DA.out⟩
  ·rw [if_neg c8] at H
   have OE := decide_eq_false c8; clear c8; obtain rfl := Option.some.inj H
   go_enter Try.func34, Try.ntmps34
   go_wp2_with (first | ((with_reducible refine zd 2 ?_); refine zbx (N := 2) (cs := #[.slice A0_0 l0_0.length c0_0, .slice A0_1 l0_1.length c0_1]) (t := 54) ?_; intro RC hg tA bA hb; have kB := zQ (bA); have jB := zgz hg HB.out; have DA := jB; replace HB := zbs HB.out hb; clear hb bA hg; obtain ⟨AE, yE, pE, oE⟩ := zy2 kB.out) | ((with_reducible refine zgc 95 ?_); refine zgo (some 8) Try.func95 #[.slice A0_0 l0_0.length c0_0, .int .i64 a1] ?_; (with_reducible refine (laws_szKnotS.calls _ _ l0_0 a1 xA _ (zC hB.out HB.out) iB.out A3.out).mono ?_); rintro e w' ⟨rfl, ⟨nd, rfl⟩⟩; refine ⟨_, rfl, ?_⟩) | ((with_reducible refine zgc 96 ?_); refine zgo (some 14) Try.func96 #[.slice A0_1 l0_1.length c0_1, .int .i64 xA] ?_; (with_reducible refine (laws_szBarS.calls _ _ l0_1 xA PB _ ?side1 CB.out A7.out).mono ?_); (case side1 => repeat (first | exact (Kd.C_below AB.out (zB2 HB.out DA.out)) | (with_reducible refine Kd.C_alloc ?_ _) | (with_reducible refine Kd.C_drewN ?_ _) | (with_reducible refine Kd.C_drew ?_))); rintro e w' ⟨rfl, ⟨nd, rfl⟩⟩; refine ⟨_, rfl, ?_⟩))
   go_ret
   exact ⟨zE, zB2 HB.out DA.out⟩

def laws_toKnot.f (a0_0 : Int) (a0_1 : Int) (a0_2 : Bool) : Option (Int × Int × Bool) := some (a0_0, a0_1, a0_2)
theorem laws_toKnot.calls (a0_0 : Int) (a0_1 : Int) (a0_2 : Bool) (r1 : Int) (r2 : Int) (r3 : Bool) (w : World) (h : laws_toKnot.f a0_0 a0_1 a0_2 = some (r1, r2, r3)) :
  Calls Try.prog 131 #[.agg #[.int .i64 a0_0, .int .i64 a0_1, .bool a0_2]] w fun e w' => e = .returned (.agg #[.int .i64 r1, .int .i64 r2, .bool r3]) ∧ Below w.heap.size w w' := by
 have uD := Try.underlying166
 have vD := Try.underlying164
 have HB := zQ (Below.refl w.heap.size w)
 have H : (some (a0_0, a0_1, a0_2)) = some (r1, r2, r3) := h
 clear h
 simp only [Option.some.injEq, Prod.mk.injEq] at H
 obtain ⟨rfl, rfl, rfl⟩ := H
 go_enter Try.func131, Try.ntmps131
 go_wp2_with (first | ((with_reducible refine zd 1 ?_); refine zbx (N := 1) (cs := #[.int .i64 a0_0, .int .i64 a0_1, .bool a0_2]) (t := 166) ?_; intro TE hg w2 bA hb; have sA := zQ (bA); have ZD := zgz hg HB.out; have LA := ZD; replace HB := zbs HB.out hb; clear hb bA hg) | ((with_reducible refine zd 2 ?_); refine zbx (N := 2) (cs := #[.int .i64 0, .int .i64 0, .bool false]) (t := 164) ?_; intro ID hg w3 bA hb; have OA := zQ (bA); have YD := zgz2 hg HB.out LA.out; have FB := YD; have jC := zn1 hg sA.out; have hC := zn2 hg sA.out; replace sA := zbl sA.out hb; replace HB := zbs2 HB.out LA.out hb; clear hb bA hg) | ((with_reducible refine zd 3 ?_); refine zbx (N := 3) (cs := #[.int .i64 0, .int .i64 0, .bool false]) (t := 164) ?_; intro QC hg w4 bA hb; have fE := zQ (bA); have aF := zQ ((by rw [hg]; exact (below_size (zB3 HB.out LA.out FB.out)) : w.heap.size ≤ QC)); have cE := zQ ((by rw [hg]; exact (below_size (zB3 HB.out LA.out FB.out)) : w.heap.size ≤ QC)); have iC := zn1 hg sA.out; have gC := zn2 hg sA.out; have nA := zn1 hg OA.out; have fC := zn2 hg OA.out; replace sA := zbl sA.out hb; replace OA := zbl OA.out hb; replace HB := zQ (below_step (zB3 HB.out LA.out FB.out) hb); clear hb bA hg; have ED := jC.out; have CD := hC.out; have DD := iC.out; have BD := gC.out; obtain ⟨vC, uC, pD, rC, qC, mD⟩ := zy3 sA.out; have kD := fC.out; have jD := nA.out; obtain ⟨qB, pB, oD, nB, mB, lD⟩ := zy3 fE.out; obtain ⟨TA, SA, HC, RA, QA, GC⟩ := zy3 OA.out))
 refine bodyPost_ret (results_cell_row rfl _ _ ID 164 #[.int .i64 a0_0, .int .i64 a0_1, .bool a0_2] (0, 0) _ rfl (by refine zb ?_; refine blk_put (cs := #[.int .i64 a0_0, .int .i64 a0_1, .bool false]) ?_ 2 _ rfl; refine zb ?_; refine blk_put (cs := #[.int .i64 a0_0, .int .i64 0, .bool false]) ?_ 1 _ rfl; refine zb ?_; refine blk_put (cs := #[.int .i64 0, .int .i64 0, .bool false]) ?_ 0 _ rfl; refine zb ?_; refine blk_far ?_ nA.out _; refine zb ?_; refine blk_far ?_ nA.out _; refine zb ?_; refine blk_far ?_ nA.out _; refine zb ?_; exact OA.out) Try.underlying164 rfl (by kernel_rfl)) rfl ?_
 exact ⟨zE, by repeat (first | (with_reducible first | exact HB.out | apply below_alloc | apply pw_below_drewN | apply below_drew1 | refine below_set ?_ LA.out | refine below_set ?_ FB.out | refine below_set ?_ cE.out) | exact HB.out)⟩

def laws_toKnotS.l0 : Nat → List (S166) → List (S164) → Int → Option ((List (S164)))
 | 0, _, _, _ => none
 | k + 1, x0, x3, x4 => if x4 < (x0.length : Int) then (if 0 ≤ x4 then ((laws_toKnot.f ((rd_T166 x0 x4).f0) ((rd_T166 x0 x4).f1) ((rd_T166 x0 x4).f2)).bind fun EC => (if x4 < (x3.length : Int) then (laws_toKnotS.l0 k x0 (x3.set (x4 : Int).toNat (⟨EC.1, EC.2.1, EC.2.2⟩ : S164)) (wrap64 (x4 + 1))) else (none))) else (none)) else (some x3)
def laws_toKnotS.f (k : Nat) (l0 : List (S166)) : Option ((List (S164))) := if 0 ≤ (l0.length : Int) then (if ((l0.length : Int) : Int).toNat ≤ 11728124029610 then (laws_toKnotS.l0 k l0 (List.replicate ((l0.length : Int) : Int).toNat z164) 0) else (none)) else (none)
theorem laws_toKnotS.calls (k : Nat) (A0 : Option Addr) (c0 : Nat) (l0 : List (S166)) (r : List (S164)) (w : World) (XA : Kd.C k166 w A0 l0.length l0) (cB : l0.length ≤ c0) (h : laws_toKnotS.f k l0 = some r) :
  Calls Try.prog 97 #[.slice A0 l0.length c0] w fun e w' => ∃ v0_ : Value, e = .returned (v0_) ∧ Kd.R k164 164 w' w.heap.size (fun _ => True) v0_ r ∧ Below w.heap.size w w' := by
 have uD := Try.underlying166
 have vD := Try.underlying164
 have WC := zQ XA
 have RD := zQ cB
 clear XA cB
 have HB := zQ (Below.refl w.heap.size w)
 have H := h; unfold laws_toKnotS.f at H
 clear h
 by_cases c2 : 0 ≤ (l0.length : Int)
 ·rw [if_pos c2] at H
  have CC := eq_true c2; have BC := decide_eq_true c2; clear c2
  by_cases c3 : ((l0.length : Int) : Int).toNat ≤ 11728124029610
  ·rw [if_pos c3] at H
   have CA := eq_true c3; have AC := decide_eq_true c3; clear c3; obtain ⟨sD, NC⟩ : ∃ y_ : List (S164), y_ = (List.replicate ((l0.length : Int) : Int).toNat z164) := ⟨_, rfl⟩; replace H : (laws_toKnotS.l0 k l0 sD 0) = some r := zh H; have VC := zQ NC; clear NC; have H' := zQ H; clear H
   go_enter Try.func97, Try.ntmps97
   go_wp2_with (first | ((with_reducible refine zd 7 ?_); refine Kd.R_make k164 _ 164 rfl (N := 7) rfl 24 _ _ rfl (l0.length : Int) rfl rfl Try.underlying24 (.agg #[(.int .i64 0), (.int .i64 0), (.bool false)]) 24 info164 rfl (by decide) (by omega) z164 (ok := fun _ => True) (okp := fun _ => True) (k164_mkM _ _ _ z164 ) (fun _ hk => hk) trivial (zD) (Nat.le_trans (Nat.mul_le_mul_right _ (zD : (l0.length : Int).toNat ≤ 11728124029610)) (by omega)) (Below.refl _ _) (Nat.le_refl _) ?_; intro DE w4 YA hb hg_ hnew_; clear hg_ hnew_; (first | rw [← VC.out] at YA | (simp only [Int.reduceToNat] at YA; rw [← VC.out] at YA)); have QD := zQ (Kd.R_lower YA (below_size (zB HB.out))); replace HB := zbs HB.out hb; clear hb YA))
   go_loopg [4] k (fun kq v4 w' => ∃ (cA : List (S164)) (aA : Int), v4 = .int .i64 aA ∧ Aside0 (laws_toKnotS.l0 kq l0 cA aA = some r) ∧ Aside0 (kq ≤ k) ∧ Aside0 (Kd.R k164 164 w' w.heap.size (fun _ => True) DE cA) ∧ Aside0 (Below w.heap.size w w'))
   case atStart => exact ⟨(sD), (0), (zF), H', ⟨Nat.le_refl _⟩, ⟨zR QD.out⟩, ⟨zB HB.out⟩⟩
   case round =>
    clear H'; (try clear c2); (try clear CC); (try clear BC); (try clear p2); (try clear c3); (try clear CA); (try clear AC); obtain ⟨cA, aA, rfl, HA, YC, eA, HB⟩ := hrel
    cases gk with
    | zero => exact absurd HA.out (by simp [laws_toKnotS.l0])
    | succ k1 =>
     have H := HA.out; clear HA
     simp only [laws_toKnotS.l0] at H
     by_cases c6 : aA < (l0.length : Int)
     ·rw [if_pos c6] at H
      have xC := decide_eq_true c6; clear c6
      by_cases c7 : 0 ≤ aA
      ·rw [if_pos c7] at H
       have KD := decide_eq_true c7; clear c7; replace H := zob H; obtain ⟨⟨OB, NB, MB⟩, A8, H⟩ := H
       by_cases c9 : aA < (cA.length : Int)
       ·rw [if_pos c9] at H
        have JD := decide_eq_true c9; clear c9; obtain ⟨bD, MC⟩ : ∃ y_ : List (S164), y_ = (cA.set (aA : Int).toNat (⟨OB, NB, MB⟩ : S164)) := ⟨_, rfl⟩; replace H : (laws_toKnotS.l0 k1 l0 bD (wrap64 (aA + 1))) = some r := zh H; have ND := zQ MC; clear MC; have H' := zQ H; clear H; have hD : 0 ≤ (aA : Int) := zD; have eD : aA < (l0.length : Int) := zD; obtain ⟨WE, NE, yB, xB, wB⟩ := at_T166 WC.out aA hD eD
        cases NE
        replace yB := zw HB.out yB; replace xB := zw HB.out xB; replace wB := zw HB.out wB; replace hD := eq_true hD; replace eD := eq_true eD
        go_wp2_with (first | ((with_reducible refine zgc 131 ?_); refine zgo (some 20) Try.func131 #[.agg #[.int .i64 ((rd_T166 l0 aA).f0), .int .i64 ((rd_T166 l0 aA).f1), .bool ((rd_T166 l0 aA).f2)]] ?_; (with_reducible refine (laws_toKnot.calls ((rd_T166 l0 aA).f0) ((rd_T166 l0 aA).f1) ((rd_T166 l0 aA).f2) OB NB MB _ A8.out).mono ?_); rintro e tA ⟨rfl, hb⟩; refine ⟨_, rfl, ?_⟩; replace eA := zRb eA.out hb; replace HB := zbs HB.out hb; (try clear hb); have nC : 0 ≤ (aA : Int) := zD; have mC : (aA : Int) < ((cA.length : Int) : Int) := zD; obtain ⟨dA, fB, eB, dB, gl10, cl10, HG10⟩ := Kd.R_form eA.out (by omega); (first | cases eB | (injection eB with ea_ en_ ec_; (first | subst ea_ | (injection ea_ with ea_; subst ea_)); subst ec_; clear en_)); have GB10 := zQ dB; have GG10 := zQ HG10; clear dB gl10 HG10; obtain ⟨ce10, ZA, hM10, jA, iA⟩ := Kd.R_elem eA.out z164 (aA : Int) nC mC; obtain rfl := k164_openM hM10; have pC : tA.cell? ⟨dA, (aA : Int).toNat * 3, none⟩ = some (.int .i64 ((rd_T164 cA aA).f0)) := jA 0 _ rfl; have oC : tA.cell? ⟨dA, (aA : Int).toNat * 3 + 1, none⟩ = some (.int .i64 ((rd_T164 cA aA).f1)) := jA 1 _ rfl; have iD : tA.cell? ⟨dA, (aA : Int).toNat * 3 + 2, none⟩ = some (.bool ((rd_T164 cA aA).f2)) := jA 2 _ rfl; have tC : tA.frozen? ⟨dA, (aA : Int).toNat * 3, none⟩ = false := iA 0; have sC : tA.frozen? ⟨dA, (aA : Int).toNat * 3 + 1, none⟩ = false := iA 1; have nD : tA.frozen? ⟨dA, (aA : Int).toNat * 3 + 2, none⟩ = false := iA 2; (try clear hM10); clear ZA jA iA; replace nC := eq_true nC; replace mC := eq_true mC; have gB := zQ (show Kd.R k164 164 tA w.heap.size (fun _ => True) (.slice (some ⟨dA, 0, none⟩) cA.length fB) cA from (zR eA.out)); obtain ⟨ce12, wA, hM12, fA, hA⟩ := Kd.R_elem gB.out z164 (aA : Int) (zD) (by have h_ : (aA : Int) < ((cA.length : Int) : Int) := zD; first | exact h_ | (have e_ := (Kd.R_reads' eA.out).1; omega) | simpa using h_); obtain rfl := k164_openM hM12; have HP12 := Kd.R_seg gB.out (aA : Int) (zD) (by have h_ : (aA : Int) < ((cA.length : Int) : Int) := zD; first | exact h_ | (have e_ := (Kd.R_reads' eA.out).1; omega) | simpa using h_) (seg := [.int .i64 OB, .int .i64 NB, .bool MB]) (j := 0) wA fA (show 3 ≤ 3 from by decide) (x' := (⟨OB, NB, MB⟩ : S164)) (k164_mkM _ _ _ (⟨OB, NB, MB⟩ : S164) ) (fun _ hk => hk); have zA := fA 0 _ rfl; (try simp only [show (k164).sz = 3 from rfl, Nat.mul_one, Nat.add_zero] at zA); have BA := hA 0; (try simp only [show (k164).sz = 3 from rfl, Nat.mul_one, Nat.add_zero] at BA); have yA := fA 1 _ rfl; (try simp only [show (k164).sz = 3 from rfl, Nat.mul_one, Nat.add_zero] at yA); have AA := hA 1; (try simp only [show (k164).sz = 3 from rfl, Nat.mul_one, Nat.add_zero] at AA); have lB := fA 2 _ rfl; (try simp only [show (k164).sz = 3 from rfl, Nat.mul_one, Nat.add_zero] at lB); have oB := hA 2; (try simp only [show (k164).sz = 3 from rfl, Nat.mul_one, Nat.add_zero] at oB); (try clear hM12); clear wA fA hA) | ((with_reducible refine gate_store (t := 164) (p := 21) rfl ?_); refine store_event (t := 164) (p := 21) (v := ?vo_w13) (w1 := (((tA.setCell ⟨dA, (aA : Int).toNat * 3, none⟩ (.int .i64 OB)).setCell ⟨dA, (aA : Int).toNat * 3 + 1, none⟩ (.int .i64 NB)).setCell ⟨dA, (aA : Int).toNat * 3 + 2, none⟩ (.bool MB))) ?hg ?ho ?hn ?hr ?_; (case ho => rfl); (case hg => rfl); (case hn => rfl); (case hr => first | (go_simp; done) | (go_simp; rfl)); intro lC hw; have hg : tA.grownBy lC (some dA) := (by rw [hw]; exact HP12.2); have hp_ : Kd.R k164 164 lC w.heap.size (fun _ => True) (.slice (some ⟨dA, 0, none⟩) cA.length fB) bD := (by rw [hw, ND.out]; exact HP12.1); clear HP12; replace eA := zQ (hp_); replace HB := zQ ((by rw [hw]; exact below_set (below_set (below_set (HB.out) GB10.out) GB10.out) GB10.out : Below w.heap.size w lC)); clear hg hw hp_))
        go_roundg k1
        case measure => have := YC.out; omega
        case rel => exact ⟨(bD), (wrap64 (aA + 1)), (zF), H', ⟨by have := YC.out; omega⟩, ⟨zR eA.out⟩, ⟨zB HB.out⟩⟩
       ·rw [if_neg c9] at H
        exact absurd H (by simp)
      ·rw [if_neg c7] at H
       exact absurd H (by simp)
     ·rw [if_neg c6] at H
      have xC := decide_eq_false c6; clear c6; obtain rfl := Option.some.inj H
      go_wp2
      go_ret
      exact ⟨_, zE, zR eA.out, zB HB.out⟩
  ·rw [if_neg c3] at H
   exact absurd H (by simp)
 ·rw [if_neg c2] at H
  exact absurd H (by simp)

def laws_toBar.f (a0_0 : Int) (a0_1 : Int) (a0_2 : Bool) : Option (Int × Int × Bool) := some (a0_0, a0_1, a0_2)
theorem laws_toBar.calls (a0_0 : Int) (a0_1 : Int) (a0_2 : Bool) (r1 : Int) (r2 : Int) (r3 : Bool) (w : World) (h : laws_toBar.f a0_0 a0_1 a0_2 = some (r1, r2, r3)) :
  Calls Try.prog 132 #[.agg #[.int .i64 a0_0, .int .i64 a0_1, .bool a0_2]] w fun e w' => e = .returned (.agg #[.int .i64 r1, .int .i64 r2, .bool r3]) ∧ Below w.heap.size w w' := by
 have tD := Try.underlying168
 have xD := Try.underlying115
 have HB := zQ (Below.refl w.heap.size w)
 have H : (some (a0_0, a0_1, a0_2)) = some (r1, r2, r3) := h
 clear h
 simp only [Option.some.injEq, Prod.mk.injEq] at H
 obtain ⟨rfl, rfl, rfl⟩ := H
 go_enter Try.func132, Try.ntmps132
 go_wp2_with (first | ((with_reducible refine zd 1 ?_); refine zbx (N := 1) (cs := #[.int .i64 a0_0, .int .i64 a0_1, .bool a0_2]) (t := 168) ?_; intro SE hg w2 bA hb; have rA := zQ (bA); have XD := zgz hg HB.out; have KA := XD; replace HB := zbs HB.out hb; clear hb bA hg) | ((with_reducible refine zd 2 ?_); refine zbx (N := 2) (cs := #[.int .i64 0, .int .i64 0, .bool false]) (t := 115) ?_; intro HD hg w3 bA hb; have NA := zQ (bA); have WD := zgz2 hg HB.out KA.out; have EB := WD; have eC := zn1 hg rA.out; have cC := zn2 hg rA.out; replace rA := zbl rA.out hb; replace HB := zbs2 HB.out KA.out hb; clear hb bA hg) | ((with_reducible refine zd 3 ?_); refine zbx (N := 3) (cs := #[.int .i64 0, .int .i64 0, .bool false]) (t := 115) ?_; intro PC hg w4 bA hb; have eE := zQ (bA); have ZE := zQ ((by rw [hg]; exact (below_size (zB3 HB.out KA.out EB.out)) : w.heap.size ≤ PC)); have bE := zQ ((by rw [hg]; exact (below_size (zB3 HB.out KA.out EB.out)) : w.heap.size ≤ PC)); have dC := zn1 hg rA.out; have bC := zn2 hg rA.out; have mA := zn1 hg NA.out; have aC := zn2 hg NA.out; replace rA := zbl rA.out hb; replace NA := zbl NA.out hb; replace HB := zQ (below_step (zB3 HB.out KA.out EB.out) hb); clear hb bA hg; have ED := eC.out; have CD := cC.out; have DD := dC.out; have BD := bC.out; obtain ⟨vC, uC, pD, rC, qC, mD⟩ := zy3 rA.out; have kD := aC.out; have jD := mA.out; obtain ⟨qB, pB, oD, nB, mB, lD⟩ := zy3 eE.out; obtain ⟨TA, SA, HC, RA, QA, GC⟩ := zy3 NA.out))
 refine bodyPost_ret (results_cell_row rfl _ _ HD 115 #[.int .i64 a0_0, .int .i64 a0_1, .bool a0_2] (0, 0) _ rfl (by refine zb ?_; refine blk_put (cs := #[.int .i64 a0_0, .int .i64 a0_1, .bool false]) ?_ 2 _ rfl; refine zb ?_; refine blk_put (cs := #[.int .i64 a0_0, .int .i64 0, .bool false]) ?_ 1 _ rfl; refine zb ?_; refine blk_put (cs := #[.int .i64 0, .int .i64 0, .bool false]) ?_ 0 _ rfl; refine zb ?_; refine blk_far ?_ mA.out _; refine zb ?_; refine blk_far ?_ mA.out _; refine zb ?_; refine blk_far ?_ mA.out _; refine zb ?_; exact NA.out) Try.underlying115 rfl (by kernel_rfl)) rfl ?_
 exact ⟨zE, by repeat (first | (with_reducible first | exact HB.out | apply below_alloc | apply pw_below_drewN | apply below_drew1 | refine below_set ?_ KA.out | refine below_set ?_ EB.out | refine below_set ?_ bE.out) | exact HB.out)⟩

def laws_toBarS.l0 : Nat → List (S168) → List (S115) → Int → Option ((List (S115)))
 | 0, _, _, _ => none
 | k + 1, x0, x3, x4 => if x4 < (x0.length : Int) then (if 0 ≤ x4 then ((laws_toBar.f ((rd_T168 x0 x4).f0) ((rd_T168 x0 x4).f1) ((rd_T168 x0 x4).f2)).bind fun DC => (if x4 < (x3.length : Int) then (laws_toBarS.l0 k x0 (x3.set (x4 : Int).toNat (⟨DC.1, DC.2.1, DC.2.2⟩ : S115)) (wrap64 (x4 + 1))) else (none))) else (none)) else (some x3)
def laws_toBarS.f (k : Nat) (l0 : List (S168)) : Option ((List (S115))) := if 0 ≤ (l0.length : Int) then (if ((l0.length : Int) : Int).toNat ≤ 11728124029610 then (laws_toBarS.l0 k l0 (List.replicate ((l0.length : Int) : Int).toNat z115) 0) else (none)) else (none)
theorem laws_toBarS.calls (k : Nat) (A0 : Option Addr) (c0 : Nat) (l0 : List (S168)) (r : List (S115)) (w : World) (XA : Kd.C k168 w A0 l0.length l0) (cB : l0.length ≤ c0) (h : laws_toBarS.f k l0 = some r) :
  Calls Try.prog 98 #[.slice A0 l0.length c0] w fun e w' => ∃ v0_ : Value, e = .returned (v0_) ∧ Kd.R k115 115 w' w.heap.size (fun _ => True) v0_ r ∧ Below w.heap.size w w' := by
 have tD := Try.underlying168
 have xD := Try.underlying115
 have WC := zQ XA
 have RD := zQ cB
 clear XA cB
 have HB := zQ (Below.refl w.heap.size w)
 have H := h; unfold laws_toBarS.f at H
 clear h
 by_cases c2 : 0 ≤ (l0.length : Int)
 ·rw [if_pos c2] at H
  have CC := eq_true c2; have BC := decide_eq_true c2; clear c2
  by_cases c3 : ((l0.length : Int) : Int).toNat ≤ 11728124029610
  ·rw [if_pos c3] at H
   have CA := eq_true c3; have AC := decide_eq_true c3; clear c3; obtain ⟨rD, LC⟩ : ∃ y_ : List (S115), y_ = (List.replicate ((l0.length : Int) : Int).toNat z115) := ⟨_, rfl⟩; replace H : (laws_toBarS.l0 k l0 rD 0) = some r := zh H; have UC := zQ LC; clear LC; have H' := zQ H; clear H
   go_enter Try.func98, Try.ntmps98
   go_wp2_with (first | ((with_reducible refine zd 7 ?_); refine Kd.R_make k115 _ 115 rfl (N := 7) rfl 25 _ _ rfl (l0.length : Int) rfl rfl Try.underlying25 (.agg #[(.int .i64 0), (.int .i64 0), (.bool false)]) 24 info115 rfl (by decide) (by omega) z115 (ok := fun _ => True) (okp := fun _ => True) (k115_mkM _ _ _ z115 ) (fun _ hk => hk) trivial (zD) (Nat.le_trans (Nat.mul_le_mul_right _ (zD : (l0.length : Int).toNat ≤ 11728124029610)) (by omega)) (Below.refl _ _) (Nat.le_refl _) ?_; intro CE w4 YA hb hg_ hnew_; clear hg_ hnew_; (first | rw [← UC.out] at YA | (simp only [Int.reduceToNat] at YA; rw [← UC.out] at YA)); have PD := zQ (Kd.R_lower YA (below_size (zB HB.out))); replace HB := zbs HB.out hb; clear hb YA))
   go_loopg [4] k (fun kq v4 w' => ∃ (cA : List (S115)) (aA : Int), v4 = .int .i64 aA ∧ Aside0 (laws_toBarS.l0 kq l0 cA aA = some r) ∧ Aside0 (kq ≤ k) ∧ Aside0 (Kd.R k115 115 w' w.heap.size (fun _ => True) CE cA) ∧ Aside0 (Below w.heap.size w w'))
   case atStart => exact ⟨(rD), (0), (zF), H', ⟨Nat.le_refl _⟩, ⟨zR PD.out⟩, ⟨zB HB.out⟩⟩
   case round =>
    clear H'; (try clear c2); (try clear CC); (try clear BC); (try clear p2); (try clear c3); (try clear CA); (try clear AC); obtain ⟨cA, aA, rfl, HA, YC, eA, HB⟩ := hrel
    cases gk with
    | zero => exact absurd HA.out (by simp [laws_toBarS.l0])
    | succ k1 =>
     have H := HA.out; clear HA
     simp only [laws_toBarS.l0] at H
     by_cases c6 : aA < (l0.length : Int)
     ·rw [if_pos c6] at H
      have xC := decide_eq_true c6; clear c6
      by_cases c7 : 0 ≤ aA
      ·rw [if_pos c7] at H
       have KD := decide_eq_true c7; clear c7; replace H := zob H; obtain ⟨⟨LB, KB, JB⟩, A8, H⟩ := H
       by_cases c9 : aA < (cA.length : Int)
       ·rw [if_pos c9] at H
        have JD := decide_eq_true c9; clear c9; obtain ⟨aD, KC⟩ : ∃ y_ : List (S115), y_ = (cA.set (aA : Int).toNat (⟨LB, KB, JB⟩ : S115)) := ⟨_, rfl⟩; replace H : (laws_toBarS.l0 k1 l0 aD (wrap64 (aA + 1))) = some r := zh H; have MD := zQ KC; clear KC; have H' := zQ H; clear H; have gD : 0 ≤ (aA : Int) := zD; have dD : aA < (l0.length : Int) := zD; obtain ⟨VE, ME, vB, uB, tB⟩ := at_T168 WC.out aA gD dD
        cases ME
        replace vB := zw HB.out vB; replace uB := zw HB.out uB; replace tB := zw HB.out tB; replace gD := eq_true gD; replace dD := eq_true dD
        go_wp2_with (first | ((with_reducible refine zgc 132 ?_); refine zgo (some 20) Try.func132 #[.agg #[.int .i64 ((rd_T168 l0 aA).f0), .int .i64 ((rd_T168 l0 aA).f1), .bool ((rd_T168 l0 aA).f2)]] ?_; (with_reducible refine (laws_toBar.calls ((rd_T168 l0 aA).f0) ((rd_T168 l0 aA).f1) ((rd_T168 l0 aA).f2) LB KB JB _ A8.out).mono ?_); rintro e tA ⟨rfl, hb⟩; refine ⟨_, rfl, ?_⟩; replace eA := zRb eA.out hb; replace HB := zbs HB.out hb; (try clear hb); have nC : 0 ≤ (aA : Int) := zD; have mC : (aA : Int) < ((cA.length : Int) : Int) := zD; obtain ⟨dA, fB, eB, dB, gl10, cl10, HG10⟩ := Kd.R_form eA.out (by omega); (first | cases eB | (injection eB with ea_ en_ ec_; (first | subst ea_ | (injection ea_ with ea_; subst ea_)); subst ec_; clear en_)); have GB10 := zQ dB; have GG10 := zQ HG10; clear dB gl10 HG10; obtain ⟨ce10, ZA, hM10, jA, iA⟩ := Kd.R_elem eA.out z115 (aA : Int) nC mC; obtain rfl := k115_openM hM10; have pC : tA.cell? ⟨dA, (aA : Int).toNat * 3, none⟩ = some (.int .i64 ((rd_T115 cA aA).f0)) := jA 0 _ rfl; have oC : tA.cell? ⟨dA, (aA : Int).toNat * 3 + 1, none⟩ = some (.int .i64 ((rd_T115 cA aA).f1)) := jA 1 _ rfl; have iD : tA.cell? ⟨dA, (aA : Int).toNat * 3 + 2, none⟩ = some (.bool ((rd_T115 cA aA).f2)) := jA 2 _ rfl; have tC : tA.frozen? ⟨dA, (aA : Int).toNat * 3, none⟩ = false := iA 0; have sC : tA.frozen? ⟨dA, (aA : Int).toNat * 3 + 1, none⟩ = false := iA 1; have nD : tA.frozen? ⟨dA, (aA : Int).toNat * 3 + 2, none⟩ = false := iA 2; (try clear hM10); clear ZA jA iA; replace nC := eq_true nC; replace mC := eq_true mC; have gB := zQ (show Kd.R k115 115 tA w.heap.size (fun _ => True) (.slice (some ⟨dA, 0, none⟩) cA.length fB) cA from (zR eA.out)); obtain ⟨ce12, wA, hM12, fA, hA⟩ := Kd.R_elem gB.out z115 (aA : Int) (zD) (by have h_ : (aA : Int) < ((cA.length : Int) : Int) := zD; first | exact h_ | (have e_ := (Kd.R_reads' eA.out).1; omega) | simpa using h_); obtain rfl := k115_openM hM12; have HP12 := Kd.R_seg gB.out (aA : Int) (zD) (by have h_ : (aA : Int) < ((cA.length : Int) : Int) := zD; first | exact h_ | (have e_ := (Kd.R_reads' eA.out).1; omega) | simpa using h_) (seg := [.int .i64 LB, .int .i64 KB, .bool JB]) (j := 0) wA fA (show 3 ≤ 3 from by decide) (x' := (⟨LB, KB, JB⟩ : S115)) (k115_mkM _ _ _ (⟨LB, KB, JB⟩ : S115) ) (fun _ hk => hk); have zA := fA 0 _ rfl; (try simp only [show (k115).sz = 3 from rfl, Nat.mul_one, Nat.add_zero] at zA); have BA := hA 0; (try simp only [show (k115).sz = 3 from rfl, Nat.mul_one, Nat.add_zero] at BA); have yA := fA 1 _ rfl; (try simp only [show (k115).sz = 3 from rfl, Nat.mul_one, Nat.add_zero] at yA); have AA := hA 1; (try simp only [show (k115).sz = 3 from rfl, Nat.mul_one, Nat.add_zero] at AA); have lB := fA 2 _ rfl; (try simp only [show (k115).sz = 3 from rfl, Nat.mul_one, Nat.add_zero] at lB); have oB := hA 2; (try simp only [show (k115).sz = 3 from rfl, Nat.mul_one, Nat.add_zero] at oB); (try clear hM12); clear wA fA hA) | ((with_reducible refine gate_store (t := 115) (p := 21) rfl ?_); refine store_event (t := 115) (p := 21) (v := ?vo_w13) (w1 := (((tA.setCell ⟨dA, (aA : Int).toNat * 3, none⟩ (.int .i64 LB)).setCell ⟨dA, (aA : Int).toNat * 3 + 1, none⟩ (.int .i64 KB)).setCell ⟨dA, (aA : Int).toNat * 3 + 2, none⟩ (.bool JB))) ?hg ?ho ?hn ?hr ?_; (case ho => rfl); (case hg => rfl); (case hn => rfl); (case hr => first | (go_simp; done) | (go_simp; rfl)); intro lC hw; have hg : tA.grownBy lC (some dA) := (by rw [hw]; exact HP12.2); have hp_ : Kd.R k115 115 lC w.heap.size (fun _ => True) (.slice (some ⟨dA, 0, none⟩) cA.length fB) aD := (by rw [hw, MD.out]; exact HP12.1); clear HP12; replace eA := zQ (hp_); replace HB := zQ ((by rw [hw]; exact below_set (below_set (below_set (HB.out) GB10.out) GB10.out) GB10.out : Below w.heap.size w lC)); clear hg hw hp_))
        go_roundg k1
        case measure => have := YC.out; omega
        case rel => exact ⟨(aD), (wrap64 (aA + 1)), (zF), H', ⟨by have := YC.out; omega⟩, ⟨zR eA.out⟩, ⟨zB HB.out⟩⟩
       ·rw [if_neg c9] at H
        exact absurd H (by simp)
      ·rw [if_neg c7] at H
       exact absurd H (by simp)
     ·rw [if_neg c6] at H
      have xC := decide_eq_false c6; clear c6; obtain rfl := Option.some.inj H
      go_wp2
      go_ret
      exact ⟨_, zE, zR eA.out, zB HB.out⟩
  ·rw [if_neg c3] at H
   exact absurd H (by simp)
 ·rw [if_neg c2] at H
  exact absurd H (by simp)

def laws_toFrame.f (k : Nat) (l0_0 : List (S166)) (l0_1 : List (S168)) : Option ((List (S164)) × (List (S115))) := (laws_toKnotS.f k l0_0).bind fun PA => ((laws_toBarS.f k l0_1).bind fun UA => (some (PA, UA)))
theorem laws_toFrame.calls (k : Nat) (A0_0 : Option Addr) (c0_0 : Nat) (l0_0 : List (S166)) (A0_1 : Option Addr) (c0_1 : Nat) (l0_1 : List (S168)) (r1 : List (S164)) (r2 : List (S115)) (w : World) (WA : Kd.C k166 w A0_0 l0_0.length l0_0) (bB : l0_0.length ≤ c0_0) (VA : Kd.C k168 w A0_1 l0_1.length l0_1) (aB : l0_1.length ≤ c0_1) (h : laws_toFrame.f k l0_0 l0_1 = some (r1, r2)) :
  Calls Try.prog 36 #[.agg #[.slice A0_0 l0_0.length c0_0, .slice A0_1 l0_1.length c0_1]] w fun e w' => ∃ v0_ v1_ : Value, e = .returned (.agg #[v0_, v1_]) ∧ Kd.R k164 164 w' w.heap.size (fun _ => True) v0_ r1 ∧ Kd.R k115 115 w' w.heap.size (fun _ => True) v1_ r2 ∧ Below w.heap.size w w' := by
 have EE := Try.underlying54
 have dF := Try.underlying27
 have hB := zQ WA
 have iB := zQ bB
 clear WA bB
 have AB := zQ VA
 have CB := zQ aB
 clear VA aB
 have HB := zQ (Below.refl w.heap.size w)
 have H := h; unfold laws_toFrame.f at H
 clear h
 replace H := zob H; obtain ⟨PA, A2, H⟩ := H
 replace H := zob H; obtain ⟨UA, A3, H⟩ := H
 simp only [Option.some.injEq, Prod.mk.injEq] at H
 obtain ⟨rfl, rfl⟩ := H
 go_enter Try.func36, Try.ntmps36
 go_wp2_with (first | ((with_reducible refine zd 1 ?_); refine zbx (N := 1) (cs := #[.slice A0_0 l0_0.length c0_0, .slice A0_1 l0_1.length c0_1]) (t := 54) ?_; intro GD hg w4 bA hb; have gA := zQ (bA); have VD := zgz hg HB.out; have lA := VD; replace HB := zbs HB.out hb; clear hb bA hg) | ((with_reducible refine zd 2 ?_); refine zbx (N := 2) (cs := #[.slice none 0 0, .slice none 0 0]) (t := 27) ?_; intro FA hg w5 bA hb; have kA := zQ (bA); have UD := zgz2 hg HB.out lA.out; have oA := UD; have ZB := zn1 hg gA.out; have YB := zn2 hg gA.out; replace gA := zbl gA.out hb; replace HB := zbs2 HB.out lA.out hb; clear hb bA hg) | ((with_reducible refine zd 3 ?_); refine zbx (N := 3) (cs := #[.slice none 0 0, .slice none 0 0]) (t := 27) ?_; intro EA hg w6 bA hb; have qA := zQ (bA); have YE := zQ ((by rw [hg]; exact (below_size (zB3 HB.out lA.out oA.out)) : w.heap.size ≤ EA)); have JA := zQ ((by rw [hg]; exact (below_size (zB3 HB.out lA.out oA.out)) : w.heap.size ≤ EA)); have GA := zn1 hg gA.out; have XB := zn2 hg gA.out; have vA := zn1 hg kA.out; have WB := zn2 hg kA.out; replace gA := zbl gA.out hb; replace kA := zbl kA.out hb; replace HB := zQ (below_step (zB3 HB.out lA.out oA.out) hb); clear hb bA hg; have fF := ZB.out; have eF := YB.out; have kD := GA.out; have jD := XB.out; obtain ⟨qB, pB, nB, mB⟩ := zy2 gA.out) | ((with_reducible refine zgc 97 ?_); refine zgo (some 6) Try.func97 #[.slice A0_0 l0_0.length c0_0] ?_; (with_reducible refine (laws_toKnotS.calls k _ _ l0_0 PA _ (zC hB.out HB.out) iB.out A2.out).mono ?_); rintro e hF ⟨cF, rfl, AD, hb⟩; refine ⟨_, rfl, ?_⟩; have BB := zQ (Kd.R_lower AD (below_size (by repeat (first | (with_reducible first | exact HB.out | apply below_alloc | apply pw_below_drewN | apply below_drew1 | refine below_set ?_ lA.out | refine below_set ?_ oA.out | refine below_set ?_ JA.out) | exact HB.out)))); replace gA := zbl gA.out hb; replace kA := zbl kA.out hb; replace qA := zbl qA.out hb; replace HB := zQ (below_step (by repeat (first | (with_reducible first | exact HB.out | apply below_alloc | apply pw_below_drewN | apply below_drew1 | refine below_set ?_ lA.out | refine below_set ?_ oA.out | refine below_set ?_ JA.out) | exact HB.out)) hb); (try clear hb); (try clear AD); obtain ⟨kC, QB, KE⟩ := Kd.R_slice BB.out; subst KE; have QE := WB.out; have PE := vA.out; obtain ⟨xE, wE, nE, mE⟩ := zy2 qA.out; obtain ⟨vE, uE, lE, kE⟩ := zy2 gA.out) | ((with_reducible refine zgc 98 ?_); refine zgo (some 10) Try.func98 #[.slice A0_1 l0_1.length c0_1] ?_; (with_reducible refine (laws_toBarS.calls k _ _ l0_1 UA _ (Kd.C_below AB.out (by repeat (first | (with_reducible first | exact HB.out | apply below_alloc | apply pw_below_drewN | apply below_drew1 | refine below_set ?_ lA.out | refine below_set ?_ oA.out | refine below_set ?_ JA.out) | exact HB.out))) CB.out A3.out).mono ?_); rintro e gF ⟨bF, rfl, AD, hb⟩; refine ⟨_, rfl, ?_⟩; have XC := zQ (Kd.R_lower AD (below_size (by repeat (first | (with_reducible first | exact HB.out | apply below_alloc | apply pw_below_drewN | apply below_drew1 | refine below_set ?_ lA.out | refine below_set ?_ oA.out | refine below_set ?_ JA.out) | exact HB.out)))); replace BB := zQ (Kd.R_below (by (with_reducible repeat (first | apply Kd.R_alloc | apply Kd.R_drewN | apply Kd.R_drew)); exact (Kd.R_mono (Kd.R_far (p := ⟨EA, 0, none⟩) (Kd.R_types BB.out qA.out (by decide)) (fun _ hk => hk.2) (.slice kC PA.length QB)) (fun _ h_ => h_.1))) hb); replace gA := zQ (blk_below (g := GD) (o := .cells #[.slice A0_0 l0_0.length c0_0, .slice A0_1 l0_1.length c0_1] 54 (0, 0)) (by refine zb ?_; refine blk_far ?_ GA.out _; refine zb ?_; exact gA.out) hb); replace kA := zQ (blk_below (g := FA) (o := .cells #[.slice none 0 0, .slice none 0 0] 27 (0, 0)) (by refine zb ?_; refine blk_far ?_ vA.out _; refine zb ?_; exact kA.out) hb); replace qA := zQ (blk_below (g := EA) (o := .cells #[.slice kC PA.length QB, .slice none 0 0] 27 (0, 0)) (by refine zb ?_; refine blk_put (cs := #[.slice none 0 0, .slice none 0 0]) ?_ 0 _ rfl; refine zb ?_; exact qA.out) hb); replace HB := zQ (below_step (by repeat (first | (with_reducible first | exact HB.out | apply below_alloc | apply pw_below_drewN | apply below_drew1 | refine below_set ?_ lA.out | refine below_set ?_ oA.out | refine below_set ?_ JA.out) | exact HB.out)) hb); (try clear hb); (try clear AD); obtain ⟨FC, wC, JE⟩ := Kd.R_slice XC.out; subst JE; obtain ⟨tE, sE, jE, iE⟩ := zy2 qA.out; obtain ⟨rE, qE, hE, gE⟩ := zy2 kA.out))
 refine bodyPost_ret (results_cell_row rfl _ _ FA 27 #[.slice kC PA.length QB, .slice FC UA.length wC] (0, 0) _ rfl (by refine zb ?_; refine blk_put (cs := #[.slice kC PA.length QB, .slice none 0 0]) ?_ 1 _ rfl; refine zb ?_; refine blk_put (cs := #[.slice none 0 0, .slice none 0 0]) ?_ 0 _ rfl; refine zb ?_; refine blk_far ?_ vA.out _; refine zb ?_; exact kA.out) Try.underlying27 rfl (by kernel_rfl)) rfl ?_
 exact ⟨_, _, zE, by (with_reducible repeat (first | apply Kd.R_alloc | apply Kd.R_drewN | apply Kd.R_drew)); exact Kd.R_mono (Kd.R_far (p := ⟨FA, 1, none⟩) (Kd.R_far (p := ⟨FA, 0, none⟩) (Kd.R_far (p := ⟨EA, 1, none⟩) (Kd.R_types (Kd.R_types BB.out qA.out (by decide)) kA.out (by decide)) (fun _ hk => hk.1.2) (.slice FC UA.length wC)) (fun _ hk => hk.2) (.slice kC PA.length QB)) (fun _ hk => hk.2) (.slice FC UA.length wC)) (fun _ hk => trivial), by (with_reducible repeat (first | apply Kd.R_alloc | apply Kd.R_drewN | apply Kd.R_drew)); exact Kd.R_mono (Kd.R_far (p := ⟨FA, 1, none⟩) (Kd.R_far (p := ⟨FA, 0, none⟩) (Kd.R_far (p := ⟨EA, 1, none⟩) (Kd.R_types (Kd.R_types XC.out qA.out (by decide)) kA.out (by decide)) (fun _ hk => hk.1.2) (.slice FC UA.length wC)) (fun _ hk => hk.2) (.slice kC PA.length QB)) (fun _ hk => hk.2) (.slice FC UA.length wC)) (fun _ hk => trivial), by repeat (first | (with_reducible first | exact HB.out | apply below_alloc | apply pw_below_drewN | apply below_drew1 | refine below_set ?_ lA.out | refine below_set ?_ oA.out | refine below_set ?_ JA.out) | exact HB.out)⟩

def laws_szPullS.f (l0 : List (S122)) (a1 : Int) : Option (Int) := if (wrap64 (a1 - (l0.length : Int))) < 0 then (some (-1)) else (some (wrap64 (a1 - (l0.length : Int))))
theorem laws_szPullS.calls (A0 : Option Addr) (c0 : Nat) (l0 : List (S122)) (a1 : Int) (r : Int) (w : World) (XA : Kd.C k122 w A0 l0.length l0) (cB : l0.length ≤ c0) (h : laws_szPullS.f l0 a1 = some r) :
  Calls Try.prog 35 #[.slice A0 l0.length c0, .int .i64 a1] w fun e w' => e = .returned (.int .i64 r) ∧ Drawn0 w w' := by
 have WC := zQ XA
 have RD := zQ cB
 clear XA cB
 have H := h; unfold laws_szPullS.f at H
 clear h
 by_cases c3 : (wrap64 (a1 - (l0.length : Int))) < 0
 ·rw [if_pos c3] at H
  have CA := decide_eq_true c3; clear c3; obtain rfl := Option.some.inj H
  go_enter Try.func35, Try.ntmps35
  go_wp2
  go_ret
  exact ⟨zF, by repeat (first | exact Drawn0.refl _ | apply Drawn0.step)⟩
 ·rw [if_neg c3] at H
  have CA := decide_eq_false c3; clear c3; obtain rfl := Option.some.inj H
  go_enter Try.func35, Try.ntmps35
  go_wp2
  go_ret
  exact ⟨zF, by repeat (first | exact Drawn0.refl _ | apply Drawn0.step)⟩

def spec_l00In.f (a0 : Int) (a1 : Int) (a2 : Int) : Option (Bool) := if a0 ≥ a1 then (some (decide (a0 ≤ a2))) else (some false)
theorem spec_l00In.calls (a0 : Int) (a1 : Int) (a2 : Int) (r : Bool) (w : World) (h : spec_l00In.f a0 a1 a2 = some r) :
  Calls Try.prog 89 #[.int .i64 a0, .int .i64 a1, .int .i64 a2] w fun e w' => e = .returned (.bool r) ∧ Drawn0 w w' := by
 have H := h; unfold spec_l00In.f at H
 clear h
 by_cases c4 : a0 ≥ a1
 ·rw [if_pos c4] at H
  have yC := decide_eq_true c4; clear c4; obtain rfl := Option.some.inj H
  go_enter Try.func89, Try.ntmps89
  go_wp2
  go_ret
  exact ⟨zF, by repeat (first | exact Drawn0.refl _ | apply Drawn0.step)⟩
 ·rw [if_neg c4] at H
  have yC := decide_eq_false c4; clear c4; obtain rfl := Option.some.inj H
  go_enter Try.func89, Try.ntmps89
  go_wp2
  go_ret
  exact ⟨zF, by repeat (first | exact Drawn0.refl _ | apply Drawn0.step)⟩

def laws_toPull.f (a0_0 : Int) (a0_1 : Int) : Option (Int × Int) := some (a0_0, a0_1)
theorem laws_toPull.calls (a0_0 : Int) (a0_1 : Int) (r1 : Int) (r2 : Int) (w : World) (h : laws_toPull.f a0_0 a0_1 = some (r1, r2)) :
  Calls Try.prog 99 #[.agg #[.int .i64 a0_0, .int .i64 a0_1]] w fun e w' => e = .returned (.agg #[.int .i64 r1, .int .i64 r2]) ∧ Below w.heap.size w w' := by
 have wD := Try.underlying122
 have yD := Try.underlying113
 have HB := zQ (Below.refl w.heap.size w)
 have H : (some (a0_0, a0_1)) = some (r1, r2) := h
 clear h
 simp only [Option.some.injEq, Prod.mk.injEq] at H
 obtain ⟨rfl, rfl⟩ := H
 go_enter Try.func99, Try.ntmps99
 go_wp2_with (first | ((with_reducible refine zd 1 ?_); refine zbx (N := 1) (cs := #[.int .i64 a0_0, .int .i64 a0_1]) (t := 122) ?_; intro RE hg w2 bA hb; have pA := zQ (bA); have TD := zgz hg HB.out; have IA := TD; replace HB := zbs HB.out hb; clear hb bA hg) | ((with_reducible refine zd 2 ?_); refine zbx (N := 2) (cs := #[.int .i64 0, .int .i64 0]) (t := 113) ?_; intro FD hg w3 bA hb; have MA := zQ (bA); have SD := zgz2 hg HB.out IA.out; have DB := SD; have VB := zn1 hg pA.out; have TB := zn2 hg pA.out; replace pA := zbl pA.out hb; replace HB := zbs2 HB.out IA.out hb; clear hb bA hg) | ((with_reducible refine zd 3 ?_); refine zbx (N := 3) (cs := #[.int .i64 0, .int .i64 0]) (t := 113) ?_; intro OC hg w4 bA hb; have dE := zQ (bA); have XE := zQ ((by rw [hg]; exact (below_size (zB3 HB.out IA.out DB.out)) : w.heap.size ≤ OC)); have aE := zQ ((by rw [hg]; exact (below_size (zB3 HB.out IA.out DB.out)) : w.heap.size ≤ OC)); have UB := zn1 hg pA.out; have SB := zn2 hg pA.out; have uA := zn1 hg MA.out; have RB := zn2 hg MA.out; replace pA := zbl pA.out hb; replace MA := zbl MA.out hb; replace HB := zQ (below_step (zB3 HB.out IA.out DB.out) hb); clear hb bA hg; have ED := VB.out; have CD := TB.out; have DD := UB.out; have BD := SB.out; obtain ⟨vC, uC, rC, qC⟩ := zy2 pA.out; have kD := RB.out; have jD := uA.out; obtain ⟨qB, pB, nB, mB⟩ := zy2 dE.out; obtain ⟨TA, SA, RA, QA⟩ := zy2 MA.out))
 refine bodyPost_ret (results_cell_row rfl _ _ FD 113 #[.int .i64 a0_0, .int .i64 a0_1] (0, 0) _ rfl (by refine zb ?_; refine blk_put (cs := #[.int .i64 a0_0, .int .i64 0]) ?_ 1 _ rfl; refine zb ?_; refine blk_put (cs := #[.int .i64 0, .int .i64 0]) ?_ 0 _ rfl; refine zb ?_; refine blk_far ?_ uA.out _; refine zb ?_; refine blk_far ?_ uA.out _; refine zb ?_; exact MA.out) Try.underlying113 rfl (by kernel_rfl)) rfl ?_
 exact ⟨zE, by repeat (first | (with_reducible first | exact HB.out | apply below_alloc | apply pw_below_drewN | apply below_drew1 | refine below_set ?_ IA.out | refine below_set ?_ DB.out | refine below_set ?_ aE.out) | exact HB.out)⟩

def laws_toPullS.l0 : Nat → List (S122) → List (S113) → Int → Option ((List (S113)))
 | 0, _, _, _ => none
 | k + 1, x0, x3, x4 => if x4 < (x0.length : Int) then (if 0 ≤ x4 then ((laws_toPull.f ((rd_T122 x0 x4).f0) ((rd_T122 x0 x4).f1)).bind fun SC => (if x4 < (x3.length : Int) then (laws_toPullS.l0 k x0 (x3.set (x4 : Int).toNat (⟨SC.1, SC.2⟩ : S113)) (wrap64 (x4 + 1))) else (none))) else (none)) else (some x3)
def laws_toPullS.f (k : Nat) (l0 : List (S122)) : Option ((List (S113))) := if 0 ≤ (l0.length : Int) then (if ((l0.length : Int) : Int).toNat ≤ 17592186044416 then (laws_toPullS.l0 k l0 (List.replicate ((l0.length : Int) : Int).toNat z113) 0) else (none)) else (none)
theorem laws_toPullS.calls (k : Nat) (A0 : Option Addr) (c0 : Nat) (l0 : List (S122)) (r : List (S113)) (w : World) (XA : Kd.C k122 w A0 l0.length l0) (cB : l0.length ≤ c0) (h : laws_toPullS.f k l0 = some r) :
  Calls Try.prog 37 #[.slice A0 l0.length c0] w fun e w' => ∃ v0_ : Value, e = .returned (v0_) ∧ Kd.R k113 113 w' w.heap.size (fun _ => True) v0_ r ∧ Below w.heap.size w w' := by
 have wD := Try.underlying122
 have yD := Try.underlying113
 have WC := zQ XA
 have RD := zQ cB
 clear XA cB
 have HB := zQ (Below.refl w.heap.size w)
 have H := h; unfold laws_toPullS.f at H
 clear h
 by_cases c2 : 0 ≤ (l0.length : Int)
 ·rw [if_pos c2] at H
  have CC := eq_true c2; have BC := decide_eq_true c2; clear c2
  by_cases c3 : ((l0.length : Int) : Int).toNat ≤ 17592186044416
  ·rw [if_pos c3] at H
   have CA := eq_true c3; have AC := decide_eq_true c3; clear c3; obtain ⟨qD, JC⟩ : ∃ y_ : List (S113), y_ = (List.replicate ((l0.length : Int) : Int).toNat z113) := ⟨_, rfl⟩; replace H : (laws_toPullS.l0 k l0 qD 0) = some r := zh H; have TC := zQ JC; clear JC; have H' := zQ H; clear H
   go_enter Try.func37, Try.ntmps37
   go_wp2_with (first | ((with_reducible refine zd 7 ?_); refine Kd.R_make k113 _ 113 rfl (N := 7) rfl 28 _ _ rfl (l0.length : Int) rfl rfl Try.underlying28 (.agg #[(.int .i64 0), (.int .i64 0)]) 16 info113 rfl (by decide) (by omega) z113 (ok := fun _ => True) (okp := fun _ => True) (k113_mkM _ _ _ z113 ) (fun _ hk => hk) trivial (zD) (Nat.le_trans (Nat.mul_le_mul_right _ (zD : (l0.length : Int).toNat ≤ 17592186044416)) (by omega)) (Below.refl _ _) (Nat.le_refl _) ?_; intro BE w4 YA hb hg_ hnew_; clear hg_ hnew_; (first | rw [← TC.out] at YA | (simp only [Int.reduceToNat] at YA; rw [← TC.out] at YA)); have OD := zQ (Kd.R_lower YA (below_size (zB HB.out))); replace HB := zbs HB.out hb; clear hb YA))
   go_loopg [4] k (fun kq v4 w' => ∃ (cA : List (S113)) (aA : Int), v4 = .int .i64 aA ∧ Aside0 (laws_toPullS.l0 kq l0 cA aA = some r) ∧ Aside0 (kq ≤ k) ∧ Aside0 (Kd.R k113 113 w' w.heap.size (fun _ => True) BE cA) ∧ Aside0 (Below w.heap.size w w'))
   case atStart => exact ⟨(qD), (0), (zF), H', ⟨Nat.le_refl _⟩, ⟨zR OD.out⟩, ⟨zB HB.out⟩⟩
   case round =>
    clear H'; (try clear c2); (try clear CC); (try clear BC); (try clear p2); (try clear c3); (try clear CA); (try clear AC); obtain ⟨cA, aA, rfl, HA, YC, eA, HB⟩ := hrel
    cases gk with
    | zero => exact absurd HA.out (by simp [laws_toPullS.l0])
    | succ k1 =>
     have H := HA.out; clear HA
     simp only [laws_toPullS.l0] at H
     by_cases c6 : aA < (l0.length : Int)
     ·rw [if_pos c6] at H
      have xC := decide_eq_true c6; clear c6
      by_cases c7 : 0 ≤ aA
      ·rw [if_pos c7] at H
       have KD := decide_eq_true c7; clear c7; replace H := zob H; obtain ⟨⟨IB, GB⟩, A8, H⟩ := H
       by_cases c9 : aA < (cA.length : Int)
       ·rw [if_pos c9] at H
        have JD := decide_eq_true c9; clear c9; obtain ⟨ZC, IC⟩ : ∃ y_ : List (S113), y_ = (cA.set (aA : Int).toNat (⟨IB, GB⟩ : S113)) := ⟨_, rfl⟩; replace H : (laws_toPullS.l0 k1 l0 ZC (wrap64 (aA + 1))) = some r := zh H; have LD := zQ IC; clear IC; have H' := zQ H; clear H; have fD : 0 ≤ (aA : Int) := zD; have cD : aA < (l0.length : Int) := zD; obtain ⟨UE, LE, sB, rB⟩ := at_T122 WC.out aA fD cD
        cases LE
        replace sB := zw HB.out sB; replace rB := zw HB.out rB; replace fD := eq_true fD; replace cD := eq_true cD
        go_wp2_with (first | ((with_reducible refine zgc 99 ?_); refine zgo (some 20) Try.func99 #[.agg #[.int .i64 ((rd_T122 l0 aA).f0), .int .i64 ((rd_T122 l0 aA).f1)]] ?_; (with_reducible refine (laws_toPull.calls ((rd_T122 l0 aA).f0) ((rd_T122 l0 aA).f1) IB GB _ A8.out).mono ?_); rintro e tA ⟨rfl, hb⟩; refine ⟨_, rfl, ?_⟩; replace eA := zRb eA.out hb; replace HB := zbs HB.out hb; (try clear hb); have nC : 0 ≤ (aA : Int) := zD; have mC : (aA : Int) < ((cA.length : Int) : Int) := zD; obtain ⟨dA, fB, eB, dB, gl10, cl10, HG10⟩ := Kd.R_form eA.out (by omega); (first | cases eB | (injection eB with ea_ en_ ec_; (first | subst ea_ | (injection ea_ with ea_; subst ea_)); subst ec_; clear en_)); have GB10 := zQ dB; have GG10 := zQ HG10; clear dB gl10 HG10; obtain ⟨ce10, ZA, hM10, jA, iA⟩ := Kd.R_elem eA.out z113 (aA : Int) nC mC; obtain rfl := k113_openM hM10; have pC : tA.cell? ⟨dA, (aA : Int).toNat * 2, none⟩ = some (.int .i64 ((rd_T113 cA aA).f0)) := jA 0 _ rfl; have oC : tA.cell? ⟨dA, (aA : Int).toNat * 2 + 1, none⟩ = some (.int .i64 ((rd_T113 cA aA).f1)) := jA 1 _ rfl; have tC : tA.frozen? ⟨dA, (aA : Int).toNat * 2, none⟩ = false := iA 0; have sC : tA.frozen? ⟨dA, (aA : Int).toNat * 2 + 1, none⟩ = false := iA 1; (try clear hM10); clear ZA jA iA; replace nC := eq_true nC; replace mC := eq_true mC; have gB := zQ (show Kd.R k113 113 tA w.heap.size (fun _ => True) (.slice (some ⟨dA, 0, none⟩) cA.length fB) cA from (zR eA.out)); obtain ⟨ce12, wA, hM12, fA, hA⟩ := Kd.R_elem gB.out z113 (aA : Int) (zD) (by have h_ : (aA : Int) < ((cA.length : Int) : Int) := zD; first | exact h_ | (have e_ := (Kd.R_reads' eA.out).1; omega) | simpa using h_); obtain rfl := k113_openM hM12; have HP12 := Kd.R_seg gB.out (aA : Int) (zD) (by have h_ : (aA : Int) < ((cA.length : Int) : Int) := zD; first | exact h_ | (have e_ := (Kd.R_reads' eA.out).1; omega) | simpa using h_) (seg := [.int .i64 IB, .int .i64 GB]) (j := 0) wA fA (show 2 ≤ 2 from by decide) (x' := (⟨IB, GB⟩ : S113)) (k113_mkM _ _ _ (⟨IB, GB⟩ : S113) ) (fun _ hk => hk); have zA := fA 0 _ rfl; (try simp only [show (k113).sz = 2 from rfl, Nat.mul_one, Nat.add_zero] at zA); have BA := hA 0; (try simp only [show (k113).sz = 2 from rfl, Nat.mul_one, Nat.add_zero] at BA); have yA := fA 1 _ rfl; (try simp only [show (k113).sz = 2 from rfl, Nat.mul_one, Nat.add_zero] at yA); have AA := hA 1; (try simp only [show (k113).sz = 2 from rfl, Nat.mul_one, Nat.add_zero] at AA); (try clear hM12); clear wA fA hA) | ((with_reducible refine gate_store (t := 113) (p := 21) rfl ?_); refine store_event (t := 113) (p := 21) (v := ?vo_w13) (w1 := ((tA.setCell ⟨dA, (aA : Int).toNat * 2, none⟩ (.int .i64 IB)).setCell ⟨dA, (aA : Int).toNat * 2 + 1, none⟩ (.int .i64 GB))) ?hg ?ho ?hn ?hr ?_; (case ho => rfl); (case hg => rfl); (case hn => rfl); (case hr => first | (go_simp; done) | (go_simp; rfl)); intro lC hw; have hg : tA.grownBy lC (some dA) := (by rw [hw]; exact HP12.2); have hp_ : Kd.R k113 113 lC w.heap.size (fun _ => True) (.slice (some ⟨dA, 0, none⟩) cA.length fB) ZC := (by rw [hw, LD.out]; exact HP12.1); clear HP12; replace eA := zQ (hp_); replace HB := zQ ((by rw [hw]; exact below_set (below_set (HB.out) GB10.out) GB10.out : Below w.heap.size w lC)); clear hg hw hp_))
        go_roundg k1
        case measure => have := YC.out; omega
        case rel => exact ⟨(ZC), (wrap64 (aA + 1)), (zF), H', ⟨by have := YC.out; omega⟩, ⟨zR eA.out⟩, ⟨zB HB.out⟩⟩
       ·rw [if_neg c9] at H
        exact absurd H (by simp)
      ·rw [if_neg c7] at H
       exact absurd H (by simp)
     ·rw [if_neg c6] at H
      have xC := decide_eq_false c6; clear c6; obtain rfl := Option.some.inj H
      go_wp2
      go_ret
      exact ⟨_, zE, zR eA.out, zB HB.out⟩
  ·rw [if_neg c3] at H
   exact absurd H (by simp)
 ·rw [if_neg c2] at H
  exact absurd H (by simp)

def impl_within.f (a0 : Int) (a1 : Int) (a2 : Int) : Option (Bool) := if a0 ≥ a1 then (some (decide (a0 ≤ a2))) else (some false)
theorem impl_within.calls (a0 : Int) (a1 : Int) (a2 : Int) (r : Bool) (w : World) (h : impl_within.f a0 a1 a2 = some r) :
  Calls Try.prog 88 #[.int .i64 a0, .int .i64 a1, .int .i64 a2] w fun e w' => e = .returned (.bool r) ∧ Drawn0 w w' := by
 have H := h; unfold impl_within.f at H
 clear h
 by_cases c4 : a0 ≥ a1
 ·rw [if_pos c4] at H
  have yC := decide_eq_true c4; clear c4; obtain rfl := Option.some.inj H
  go_enter Try.func88, Try.ntmps88
  go_wp2
  go_ret
  exact ⟨zF, by repeat (first | exact Drawn0.refl _ | apply Drawn0.step)⟩
 ·rw [if_neg c4] at H
  have yC := decide_eq_false c4; clear c4; obtain rfl := Option.some.inj H
  go_enter Try.func88, Try.ntmps88
  go_wp2
  go_ret
  exact ⟨zF, by repeat (first | exact Drawn0.refl _ | apply Drawn0.step)⟩

end
end Go.Proofs.Ytimjblgepbhoaaa.PStays

