import Derived.Test.YtchngbjpjbahiaaHSailw0
import Derived.Test.YtchngbjpjbahiaaHSailwa
import Derived.Test.YtchngbjpjbahiaaHSailwh
import Derived.Test.YtchngbjpjbahiaaHSailwq
import Derived.Test.YtchngbjpjbahiaaHSailwr
import Derived.Test.YtchngbjpjbahiaaHSailws
import Derived.Test.YtchngbjpjbahiaaHSailwt
namespace Go.Proofs.Ytchngbjpjbahiaa.PSailw
noncomputable section
open Go.RowKit Go.Proofs.YtchngbjpjbahiaaW.PrintWords Go.Proofs.YtchngbjpjbahiaaW.PrintLast Go.Proofs.YtchngbjpjbahiaaW.PrintMore
attribute [local go_sem] max2_int min2_int max_two min_two max_three min_three max_four min_four   -- for this text's walks alone
set_option linter.unusedVariables false
set_option linter.unusedSimpArgs false
set_option maxHeartbeats 8000000
set_option maxRecDepth 100000

attribute [local go_sem high] eqA25
mutual
def laws_FnSailWidths.j0 : Nat → List (S49) → Int → Int → Int → Int → List (S49) → Int → Int → Int → Int → Bool → Int → Int → Option (Bool)
 | 0, _, _, _, _, _, _, _, _, _, _, _, _, _ => none
 | k + 1, x3, x4, x6, x12, x13, x19, x21, x22, x27, x31, AH, hA, iA => if AH = true then (some false) else (if x22 = 0 then ((impl_SquareOfEdge.f k x19 x31).bind fun aG => (if aG.2 = 0 then (if aG.1 < x27 then (some false) else (if (wrap64 (x21 * x21)) < x27 then (some false) else (if (wrap64 ((wrap64 (x21 - 1)) * (wrap64 (x21 - 1)))) ≥ x27 then (some false) else (laws_FnSailWidths.j1 k x3 x4 x6 x12 x13 hA iA)))) else (some false))) else (laws_FnSailWidths.j1 k x3 x4 x6 x12 x13 hA iA))
def laws_FnSailWidths.j1 : Nat → List (S49) → Int → Int → Int → Int → Int → Int → Option (Bool)
 | 0, _, _, _, _, _, _, _ => none
 | k + 1, x3, x4, x6, x12, x13, hA, iA => if x6 = 0 then (if hA < 0 then (some false) else (if x4 = x12 then (laws_FnSailWidths.j2 k x3 x4 true hA iA) else (laws_FnSailWidths.j2 k x3 x4 (x4 == x13) hA iA))) else (some true)
def laws_FnSailWidths.j2 : Nat → List (S49) → Int → Bool → Int → Int → Option (Bool)
 | 0, _, _, _, _, _ => none
 | k + 1, x3, x4, zH, hA, iA => if zH = true then (some true) else ((impl_WidthAt.f k x3 (wrap64 (x4 - 1))).bind fun nA => ((impl_WidthAt.f k x3 (wrap64 (x4 + 1))).bind fun mA => (if nA.2.2 = 0 then (if mA.2.2 = 0 then (if nA.2.1 < 1 then (laws_FnSailWidths.j3 k true hA iA nA.1 nA.2.1 mA.1 mA.2.1) else (if mA.2.1 < 1 then (laws_FnSailWidths.j3 k true hA iA nA.1 nA.2.1 mA.1 mA.2.1) else (if nA.2.1 > 4000000 then (laws_FnSailWidths.j3 k true hA iA nA.1 nA.2.1 mA.1 mA.2.1) else (if mA.2.1 > 4000000 then (laws_FnSailWidths.j3 k true hA iA nA.1 nA.2.1 mA.1 mA.2.1) else (if nA.1 < 0 then (laws_FnSailWidths.j3 k true hA iA nA.1 nA.2.1 mA.1 mA.2.1) else (if mA.1 < 0 then (laws_FnSailWidths.j3 k true hA iA nA.1 nA.2.1 mA.1 mA.2.1) else (if nA.1 > (wrap64 (2000 * nA.2.1)) then (laws_FnSailWidths.j3 k true hA iA nA.1 nA.2.1 mA.1 mA.2.1) else (laws_FnSailWidths.j3 k (decide (mA.1 > (wrap64 (2000 * mA.2.1)))) hA iA nA.1 nA.2.1 mA.1 mA.2.1)))))))) else (laws_FnSailWidths.j3 k true hA iA nA.1 nA.2.1 mA.1 mA.2.1)) else (laws_FnSailWidths.j3 k true hA iA nA.1 nA.2.1 mA.1 mA.2.1))))
def laws_FnSailWidths.j3 : Nat → Bool → Int → Int → Int → Int → Int → Int → Option (Bool)
 | 0, _, _, _, _, _, _, _ => none
 | k + 1, yH, hA, iA, VF, UF, TF, SF => if yH = true then (some false) else ((laws_f6floor.f VF UF).bind fun iG => ((laws_f6floor.f TF SF).bind fun hG => ((laws_f6floor.f hA iA).bind fun gG => (some (decide ((wrap64 (iG + hG)) ≤ (wrap64 ((wrap64 (2 * gG)) + 2))))))))
end
def laws_FnSailWidths.f (k : Nat) (l0 : List Int) : Option (Bool) := (laws_f6big.f l0).bind fun jG => (if jG = true then (some true) else ((spec_DrawWidthAt.f k l0).bind fun eA => ((impl_WidthAt.f k eA.1 eA.2).bind fun sA => ((spec_WidthAt.f k eA.1 eA.2).bind fun kA => ((impl_HeightOfSail.f k eA.1).bind fun KF => ((spec_HeightOfSail.f k eA.1).bind fun jA => ((impl_IsBulged.f k eA.1).bind fun fG => ((spec_IsBulged.f k eA.1).bind fun eG => ((spec_DrawRoundUpEdge.f l0).bind fun qA => ((impl_RoundUpEdge.f k qA.1 qA.2).bind fun lA => ((spec_RoundUpEdge.f k qA.1 qA.2).bind fun dG => ((impl_SquareOfEdge.f k qA.1 qA.2).bind fun cG => ((spec_SquareOfEdge.f k qA.1 qA.2).bind fun vA => ((impl_LongestEdge.f k qA.1).bind fun bG => ((spec_LongestEdge.f k qA.1).bind fun uA => (if sA.2.2 = kA.2.2 then (if (!(sA.1 == kA.1) || (!(sA.2.1 == kA.2.1))) = true then (laws_FnSailWidths.j0 k eA.1 eA.2 sA.2.2 jA.1 jA.2.1 qA.1 lA.1 lA.2 vA.1 uA.1 true kA.1 kA.2.1) else (if KF.2.2 = jA.2.2 then (if KF.1 = jA.1 then (if KF.2.1 = jA.2.1 then (if fG.2 = eG.2 then (if (fG.1 != eG.1) = true then (laws_FnSailWidths.j0 k eA.1 eA.2 sA.2.2 jA.1 jA.2.1 qA.1 lA.1 lA.2 vA.1 uA.1 true kA.1 kA.2.1) else (if lA.2 = dG.2 then (if lA.1 = dG.1 then (if cG.2 = vA.2 then (if cG.1 = vA.1 then (if bG.2 = uA.2 then (laws_FnSailWidths.j0 k eA.1 eA.2 sA.2.2 jA.1 jA.2.1 qA.1 lA.1 lA.2 vA.1 uA.1 (bG.1 != uA.1) kA.1 kA.2.1) else (laws_FnSailWidths.j0 k eA.1 eA.2 sA.2.2 jA.1 jA.2.1 qA.1 lA.1 lA.2 vA.1 uA.1 true kA.1 kA.2.1)) else (laws_FnSailWidths.j0 k eA.1 eA.2 sA.2.2 jA.1 jA.2.1 qA.1 lA.1 lA.2 vA.1 uA.1 true kA.1 kA.2.1)) else (laws_FnSailWidths.j0 k eA.1 eA.2 sA.2.2 jA.1 jA.2.1 qA.1 lA.1 lA.2 vA.1 uA.1 true kA.1 kA.2.1)) else (laws_FnSailWidths.j0 k eA.1 eA.2 sA.2.2 jA.1 jA.2.1 qA.1 lA.1 lA.2 vA.1 uA.1 true kA.1 kA.2.1)) else (laws_FnSailWidths.j0 k eA.1 eA.2 sA.2.2 jA.1 jA.2.1 qA.1 lA.1 lA.2 vA.1 uA.1 true kA.1 kA.2.1))) else (laws_FnSailWidths.j0 k eA.1 eA.2 sA.2.2 jA.1 jA.2.1 qA.1 lA.1 lA.2 vA.1 uA.1 true kA.1 kA.2.1)) else (laws_FnSailWidths.j0 k eA.1 eA.2 sA.2.2 jA.1 jA.2.1 qA.1 lA.1 lA.2 vA.1 uA.1 true kA.1 kA.2.1)) else (laws_FnSailWidths.j0 k eA.1 eA.2 sA.2.2 jA.1 jA.2.1 qA.1 lA.1 lA.2 vA.1 uA.1 true kA.1 kA.2.1)) else (laws_FnSailWidths.j0 k eA.1 eA.2 sA.2.2 jA.1 jA.2.1 qA.1 lA.1 lA.2 vA.1 uA.1 true kA.1 kA.2.1))) else (laws_FnSailWidths.j0 k eA.1 eA.2 sA.2.2 jA.1 jA.2.1 qA.1 lA.1 lA.2 vA.1 uA.1 true kA.1 kA.2.1)))))))))))))))))
def laws_FnSailWidths.T33 : Bool × List (List Nat × List Nat) := (true, [([], []), ([0], [0]), ([], []), ([2, 1], [2]), ([1, 3], [1, 3]), ([], []), ([5, 3], [5]), ([6], [6]), ([7], [7]), ([4, 8], [4, 8]), ([9, 6, 0, 1, 2, 3, 4, 5, 6, 7, 8, 9], [9])])
def laws_FnSailWidths.B33 : List Nat := [0, 1, 0, 7, 15, 0, 47, 111, 239, 511, 1023]
theorem laws_FnSailWidths.tab33 : rtab .any (opsOf Try.f4 33) = laws_FnSailWidths.T33 := by kernel_rfl
theorem laws_FnSailWidths.bits33 : waitsOk laws_FnSailWidths.T33.2 laws_FnSailWidths.B33 = true := by kernel_rfl
theorem laws_FnSailWidths.j0_cut (k : Nat) (x0_ : List (S49)) (x1_ : Int) (x2_ : Int) (x3_ : Int) (x4_ : Int) (x5_ : List (S49)) (x6_ : Int) (x7_ : Int) (x8_ : Int) (x9_ : Int) (x11_ : Int) (x12_ : Int) (r : Bool) (h : laws_FnSailWidths.j0 k x0_ x1_ x2_ x3_ x4_ x5_ x6_ x7_ x8_ x9_ true x11_ x12_ = some r) (hr : r = true) : False := by
 cases k with
 | zero => simp only [laws_FnSailWidths.j0] at h; cases h
 | succ k =>
  have h2 : some false = some r := h
  cases h2
  cases hr
theorem laws_FnSailWidths.j3_cut (k : Nat) (x1_ : Int) (x2_ : Int) (x3_ : Int) (x4_ : Int) (x5_ : Int) (x6_ : Int) (r : Bool) (h : laws_FnSailWidths.j3 k true x1_ x2_ x3_ x4_ x5_ x6_ = some r) (hr : r = true) : False := by
 cases k with
 | zero => simp only [laws_FnSailWidths.j3] at h; cases h
 | succ k =>
  have h2 : some false = some r := h
  cases h2
  cases hr
theorem laws_FnSailWidths.calls (k : Nat) (A0 : Option Addr) (c0 : Nat) (l0 : List Int) (r : Bool) (w : World) (hr0 : Kd.C (Kd.int .u8) w A0 l0.length l0) (hc0 : l0.length ≤ c0) (h : laws_FnSailWidths.f k l0 = some r) (hrt : r = true) :
  Calls Try.prog 4 #[.slice A0 l0.length c0] w fun e w' => e = .returned (.bool r) ∧ Below w.heap.size w w' := by
 have HRT := zQ hrt
 clear hrt
 have gJ := Try.underlying25
 have wH := zQ hr0
 have xH := zQ hc0
 clear hr0 hc0
 have HB := zQ (Below.refl w.heap.size w)
 have H := h; unfold laws_FnSailWidths.f at H
 clear h
 replace H := zob H; obtain ⟨jG, A2, H⟩ := H
 by_cases c3 : jG = true
 ·subst c3
  rw [if_pos rfl] at H; obtain rfl := Option.some.inj H
  go_enter Try.func4, Try.ntmps4
  go_wp2_with (first | ((with_reducible refine zgc 11 ?_); refine zgo (some 40) Try.func11 #[.slice A0 l0.length c0] ?_; (with_reducible refine (laws_f6big.calls _ _ l0 true _ ?side1 xH.out A2.out).mono ?_); (case side1 => repeat (first | exact wH.out | (with_reducible refine Kd.C_alloc ?_ _) | (with_reducible refine Kd.C_drewN ?_ _) | (with_reducible refine Kd.C_drew ?_))); rintro e w' ⟨rfl, ⟨nd, rfl⟩⟩; refine ⟨_, rfl, ?_⟩))
  go_ret
  exact ⟨zE, zB HB.out⟩
 ·replace c3 := Bool.eq_false_iff.mpr c3
  subst c3
  rw [if_neg Bool.false_ne_true] at H; replace H := zob H; obtain ⟨⟨rA, BA⟩, A4, H⟩ := H; replace H := zob H; obtain ⟨⟨PA, UA, TA⟩, A5, H⟩ := H; replace H := zob H; obtain ⟨⟨wA, zA, SE⟩, A6, H⟩ := H; replace H := zob H; obtain ⟨⟨RE, QE, PE⟩, A7, H⟩ := H; replace H := zob H; obtain ⟨⟨SA, IB, OE⟩, A8, H⟩ := H; replace H := zob H; obtain ⟨⟨GB, NE⟩, A9, H⟩ := H; replace H := zob H; obtain ⟨⟨FB, ME⟩, iK, H⟩ := H; replace H := zob H; obtain ⟨⟨yA, EB⟩, gK, H⟩ := H; replace H := zob H; obtain ⟨⟨sB, ZA⟩, fK, H⟩ := H; replace H := zob H; obtain ⟨⟨LE, KE⟩, eK, H⟩ := H; replace H := zob H; obtain ⟨⟨JE, IE⟩, dK, H⟩ := H; replace H := zob H; obtain ⟨⟨vB, HE⟩, cK, H⟩ := H; replace H := zob H; obtain ⟨⟨qG, GE⟩, bK, H⟩ := H; replace H := zob H; obtain ⟨⟨TE, FE⟩, aK, H⟩ := H; have nG := zQ H; clear H
  go_enter Try.func4, Try.ntmps4
  go_upto_region 17 with (first | ((with_reducible refine zgc 11 ?_); refine zgo (some 40) Try.func11 #[.slice A0 l0.length c0] ?_; (with_reducible refine (laws_f6big.calls _ _ l0 false _ ?side1 xH.out A2.out).mono ?_); (case side1 => repeat (first | exact wH.out | (with_reducible refine Kd.C_alloc ?_ _) | (with_reducible refine Kd.C_drewN ?_ _) | (with_reducible refine Kd.C_drew ?_))); rintro e w' ⟨rfl, ⟨nd, rfl⟩⟩; refine ⟨_, rfl, ?_⟩) | ((with_reducible refine zgc 12 ?_); refine zgo (some 43) Try.func12 #[.slice A0 l0.length c0] ?_; (with_reducible refine (spec_DrawWidthAt.calls k _ _ l0 rA BA _ ?side1 xH.out A4.out).mono ?_); (case side1 => repeat (first | exact wH.out | (with_reducible refine Kd.C_alloc ?_ _) | (with_reducible refine Kd.C_drewN ?_ _) | (with_reducible refine Kd.C_drew ?_))); rintro e zK ⟨fJ, rfl, oG, hb⟩; refine ⟨_, rfl, ?_⟩; have cA := zQ (Kd.R_lower oG (below_size (zB HB.out))); replace HB := zbs HB.out hb; (try clear hb); (try clear oG); obtain ⟨aB, LA, eI⟩ := Kd.R_slice cA.out; subst eI) | ((with_reducible refine zgc 8 ?_); refine zgo (some 49) Try.func8 #[.slice aB rA.length LA, .int .i64 BA] ?_; (with_reducible refine (impl_WidthAt.calls k _ _ rA BA PA UA TA _ ?side1 ((Kd.R_reads' cA.out).2.1) A5.out).mono ?_); (case side1 => exact zk (Kd.R_reads' cA.out).2.2); rintro e yK ⟨rfl, hb⟩; refine ⟨_, rfl, ?_⟩; replace cA := zRb cA.out hb; replace HB := zbs HB.out hb; (try clear hb)) | ((with_reducible refine zd 5 ?_); refine zbx (N := 5) (cs := #[.int .i64 0, .int .i64 0]) (t := 25) ?_; intro CA hg xK tB hb; have bA := zQ (tB); have uH := zgz hg HB.out; have dA := uH; replace cA := zRb cA.out hb; replace HB := zbs HB.out hb; clear hb tB hg; obtain ⟨rB, qB, jB, iB⟩ := zy2 bA.out) | ((with_reducible refine zgc 6 ?_); refine zgo (some 55) Try.func6 #[.slice aB rA.length LA, .int .i64 BA] ?_; (with_reducible refine (spec_WidthAt.calls k _ _ rA BA wA zA SE _ ?side1 ((Kd.R_reads' cA.out).2.1) A6.out).mono ?_); (case side1 => refine (Kd.R_reads' (e := 49) (base := w.heap.size) (ok := fun k_ => True) (n := rA.length) (c := LA) ?_).2.2; exact (by (with_reducible repeat (first | apply Kd.R_alloc | apply Kd.R_drewN | apply Kd.R_drew)); exact (Kd.R_mono (Kd.R_far (p := ⟨CA, 1, none⟩) (Kd.R_far (p := ⟨CA, 0, none⟩) (Kd.R_types cA.out bA.out (by decide)) (fun _ hk => hk.2) (.int .i64 PA)) (fun _ hk => hk.2) (.int .i64 UA)) (fun _ h_ => h_.1)))); rintro e wK ⟨rfl, hb⟩; refine ⟨_, rfl, ?_⟩; replace cA := zQ (Kd.R_below (by (with_reducible repeat (first | apply Kd.R_alloc | apply Kd.R_drewN | apply Kd.R_drew)); exact (Kd.R_mono (Kd.R_far (p := ⟨CA, 1, none⟩) (Kd.R_far (p := ⟨CA, 0, none⟩) (Kd.R_types cA.out bA.out (by decide)) (fun _ hk => hk.2) (.int .i64 PA)) (fun _ hk => hk.2) (.int .i64 UA)) (fun _ h_ => h_.1))) hb); replace bA := zQ (blk_below (g := CA) (o := .cells #[.int .i64 PA, .int .i64 UA] 25 (0, 0)) (by refine zb ?_; refine blk_put (cs := #[.int .i64 PA, .int .i64 0]) ?_ 1 _ rfl; refine zb ?_; refine blk_put (cs := #[.int .i64 0, .int .i64 0]) ?_ 0 _ rfl; refine zb ?_; exact bA.out) hb); replace HB := zbs2 HB.out dA.out hb; (try clear hb)) | ((with_reducible refine zd 7 ?_); refine zbx (N := 7) (cs := #[.int .i64 0, .int .i64 0]) (t := 25) ?_; intro AA hg vK tB hb; have aA := zQ (tB); have tH := zgz2 hg HB.out dA.out; have fA := tH; have tA := zn1 hg bA.out; have GA := zn2 hg bA.out; replace cA := zRb cA.out hb; replace bA := zbl bA.out hb; replace HB := zbs2 HB.out dA.out hb; clear hb tB hg; have QI := GA.out; have OI := tA.out; obtain ⟨pB, oB, hB, gB⟩ := zy2 aA.out) | ((with_reducible refine zgc 13 ?_); refine zgo (some 60) Try.func13 #[.slice aB rA.length LA] ?_; (with_reducible refine (impl_HeightOfSail.calls k _ _ rA RE QE PE _ ?side1 ((Kd.R_reads' cA.out).2.1) A7.out).mono ?_); (case side1 => refine (Kd.R_reads' (e := 49) (base := w.heap.size) (ok := fun k_ => True) (n := rA.length) (c := LA) ?_).2.2; exact (by (with_reducible repeat (first | apply Kd.R_alloc | apply Kd.R_drewN | apply Kd.R_drew)); exact (Kd.R_mono (Kd.R_far (p := ⟨AA, 1, none⟩) (Kd.R_far (p := ⟨AA, 0, none⟩) (Kd.R_types cA.out aA.out (by decide)) (fun _ hk => hk.2) (.int .i64 wA)) (fun _ hk => hk.2) (.int .i64 zA)) (fun _ h_ => h_.1)))); rintro e uK ⟨rfl, hb⟩; refine ⟨_, rfl, ?_⟩; replace cA := zQ (Kd.R_below (by (with_reducible repeat (first | apply Kd.R_alloc | apply Kd.R_drewN | apply Kd.R_drew)); exact (Kd.R_mono (Kd.R_far (p := ⟨AA, 1, none⟩) (Kd.R_far (p := ⟨AA, 0, none⟩) (Kd.R_types cA.out aA.out (by decide)) (fun _ hk => hk.2) (.int .i64 wA)) (fun _ hk => hk.2) (.int .i64 zA)) (fun _ h_ => h_.1))) hb); replace bA := zQ (blk_below (g := CA) (o := .cells #[.int .i64 PA, .int .i64 UA] 25 (0, 0)) (by refine zb ?_; refine blk_far ?_ tA.out _; refine zb ?_; refine blk_far ?_ tA.out _; refine zb ?_; exact bA.out) hb); replace aA := zQ (blk_below (g := AA) (o := .cells #[.int .i64 wA, .int .i64 zA] 25 (0, 0)) (by refine zb ?_; refine blk_put (cs := #[.int .i64 wA, .int .i64 0]) ?_ 1 _ rfl; refine zb ?_; refine blk_put (cs := #[.int .i64 0, .int .i64 0]) ?_ 0 _ rfl; refine zb ?_; exact aA.out) hb); replace HB := zQ (below_step (zB3 HB.out dA.out fA.out) hb); (try clear hb)) | ((with_reducible refine zgc 14 ?_); refine zgo (some 66) Try.func14 #[.slice aB rA.length LA] ?_; (with_reducible refine (spec_HeightOfSail.calls k _ _ rA SA IB OE _ ?side1 ((Kd.R_reads' cA.out).2.1) A8.out).mono ?_); (case side1 => exact zk (Kd.R_reads' cA.out).2.2); rintro e tK ⟨rfl, hb⟩; refine ⟨_, rfl, ?_⟩; replace cA := zRb cA.out hb; replace bA := zbl bA.out hb; replace aA := zbl aA.out hb; replace HB := zQ (below_step (zB3 HB.out dA.out fA.out) hb); (try clear hb)) | ((with_reducible refine zgc 15 ?_); refine zgo (some 72) Try.func15 #[.slice aB rA.length LA] ?_; (with_reducible refine (impl_IsBulged.calls k _ _ rA GB NE _ ?side1 ((Kd.R_reads' cA.out).2.1) A9.out).mono ?_); (case side1 => exact zk (Kd.R_reads' cA.out).2.2); rintro e sK ⟨rfl, hb⟩; refine ⟨_, rfl, ?_⟩; replace cA := zRb cA.out hb; replace bA := zbl bA.out hb; replace aA := zbl aA.out hb; replace HB := zQ (below_step (zB3 HB.out dA.out fA.out) hb); (try clear hb)) | ((with_reducible refine zgc 16 ?_); refine zgo (some 77) Try.func16 #[.slice aB rA.length LA] ?_; (with_reducible refine (spec_IsBulged.calls k _ _ rA FB ME _ ?side1 ((Kd.R_reads' cA.out).2.1) iK.out).mono ?_); (case side1 => exact zk (Kd.R_reads' cA.out).2.2); rintro e rK ⟨rfl, hb⟩; refine ⟨_, rfl, ?_⟩; replace cA := zRb cA.out hb; replace bA := zbl bA.out hb; replace aA := zbl aA.out hb; replace HB := zQ (below_step (zB3 HB.out dA.out fA.out) hb); (try clear hb)) | ((with_reducible refine zgc 17 ?_); refine zgo (some 82) Try.func17 #[.slice A0 l0.length c0] ?_; (with_reducible refine (spec_DrawRoundUpEdge.calls _ _ l0 yA EB _ (zC wH.out HB.out) xH.out gK.out).mono ?_); rintro e qK ⟨eJ, rfl, oG, hb⟩; refine ⟨_, rfl, ?_⟩; have oA := zQ (Kd.R_lower (Kd.R_new' oG (Kd.R_lt (zR cA.out))) (below_size (zB3 HB.out dA.out fA.out))); replace cA := zQ (Kd.R_elder' (zR cA.out) (Kd.R_base oG) hb); replace bA := zbl bA.out hb; replace aA := zbl aA.out hb; replace HB := zQ (below_step (zB3 HB.out dA.out fA.out) hb); (try clear hb); (try clear oG); obtain ⟨xD, uD, dI⟩ := Kd.R_slice oA.out; subst dI) | ((with_reducible refine zgc 18 ?_); refine zgo (some 88) Try.func18 #[.slice xD yA.length uD, .int .i64 EB] ?_; (with_reducible refine (impl_RoundUpEdge.calls k _ _ yA EB sB ZA _ ?side1 ((Kd.R_reads' oA.out).2.1) fK.out).mono ?_); (case side1 => exact zk (Kd.R_reads' oA.out).2.2); rintro e pK ⟨rfl, hb⟩; refine ⟨_, rfl, ?_⟩; replace cA := zRb cA.out hb; replace oA := zRb oA.out hb; replace bA := zbl bA.out hb; replace aA := zbl aA.out hb; replace HB := zQ (below_step (zB3 HB.out dA.out fA.out) hb); (try clear hb)) | ((with_reducible refine zgc 19 ?_); refine zgo (some 94) Try.func19 #[.slice xD yA.length uD, .int .i64 EB] ?_; (with_reducible refine (spec_RoundUpEdge.calls k _ _ yA EB LE KE _ ?side1 ((Kd.R_reads' oA.out).2.1) eK.out).mono ?_); (case side1 => exact zk (Kd.R_reads' oA.out).2.2); rintro e oK ⟨rfl, hb⟩; refine ⟨_, rfl, ?_⟩; replace cA := zRb cA.out hb; replace oA := zRb oA.out hb; replace bA := zbl bA.out hb; replace aA := zbl aA.out hb; replace HB := zQ (below_step (zB3 HB.out dA.out fA.out) hb); (try clear hb)) | ((with_reducible refine zgc 20 ?_); refine zgo (some 100) Try.func20 #[.slice xD yA.length uD, .int .i64 EB] ?_; (with_reducible refine (impl_SquareOfEdge.calls k _ _ yA EB JE IE _ ?side1 ((Kd.R_reads' oA.out).2.1) dK.out).mono ?_); (case side1 => exact zk (Kd.R_reads' oA.out).2.2); rintro e nK ⟨rfl, hb⟩; refine ⟨_, rfl, ?_⟩; replace cA := zRb cA.out hb; replace oA := zRb oA.out hb; replace bA := zbl bA.out hb; replace aA := zbl aA.out hb; replace HB := zQ (below_step (zB3 HB.out dA.out fA.out) hb); (try clear hb)) | ((with_reducible refine zgc 21 ?_); refine zgo (some 106) Try.func21 #[.slice xD yA.length uD, .int .i64 EB] ?_; (with_reducible refine (spec_SquareOfEdge.calls k _ _ yA EB vB HE _ ?side1 ((Kd.R_reads' oA.out).2.1) cK.out).mono ?_); (case side1 => exact zk (Kd.R_reads' oA.out).2.2); rintro e mK ⟨rfl, hb⟩; refine ⟨_, rfl, ?_⟩; replace cA := zRb cA.out hb; replace oA := zRb oA.out hb; replace bA := zbl bA.out hb; replace aA := zbl aA.out hb; replace HB := zQ (below_step (zB3 HB.out dA.out fA.out) hb); (try clear hb)) | ((with_reducible refine zgc 22 ?_); refine zgo (some 111) Try.func22 #[.slice xD yA.length uD] ?_; (with_reducible refine (impl_LongestEdge.calls k _ _ yA qG GE _ ?side1 ((Kd.R_reads' oA.out).2.1) bK.out).mono ?_); (case side1 => exact zk (Kd.R_reads' oA.out).2.2); rintro e lK ⟨rfl, hb⟩; refine ⟨_, rfl, ?_⟩; replace cA := zRb cA.out hb; replace oA := zRb oA.out hb; replace bA := zbl bA.out hb; replace aA := zbl aA.out hb; replace HB := zQ (below_step (zB3 HB.out dA.out fA.out) hb); (try clear hb)) | ((with_reducible refine zgc 23 ?_); refine zgo (some 116) Try.func23 #[.slice xD yA.length uD] ?_; (with_reducible refine (spec_LongestEdge.calls k _ _ yA TE FE _ ?side1 ((Kd.R_reads' oA.out).2.1) aK.out).mono ?_); (case side1 => exact zk (Kd.R_reads' oA.out).2.2); rintro e kK ⟨rfl, hb⟩; refine ⟨_, rfl, ?_⟩; replace cA := zRb cA.out hb; replace oA := zRb oA.out hb; replace bA := zbl bA.out hb; replace aA := zbl aA.out hb; replace HB := zQ (below_step (zB3 HB.out dA.out fA.out) hb); (try clear hb)))
  (try simp only [Act.put, List.setIfInBounds_toArray, List.set_cons_zero, List.set_cons_succ])
  go_cut [181] (fun DH wc => ∃ (kq : Nat) (bB : Bool), DH = .bool bB ∧ Aside0 (laws_FnSailWidths.j0 kq rA BA TA SA IB yA sB ZA vB TE bB wA zA = some r) ∧ Aside0 (kq ≤ k) ∧ Aside0 (Kd.R k49 49 wc w.heap.size (fun k_ => some k_ ≠ ((.slice xD yA.length uD) : Value).ownBlock) (.slice aB rA.length LA) rA) ∧ Aside0 (Kd.R k49 49 wc w.heap.size (fun k_ => some k_ ≠ ((.slice aB rA.length LA) : Value).ownBlock) (.slice xD yA.length uD) yA) ∧ Aside0 (wc.heap[CA]? = some (.cells #[.int .i64 PA, .int .i64 UA] 25 (0, 0))) ∧ Aside0 (wc.heap[AA]? = some (.cells #[.int .i64 wA, .int .i64 zA] 25 (0, 0))) ∧ Aside0 (Below w.heap.size w wc))
  case first =>
   as_aux_lemma =>
    have H := nG.out; clear nG
    by_cases wF : TA = SE
    ·rw [if_pos wF] at H
     have QA : (TA == SE) = true := beq_iff_eq.mpr wF; have dE : (TA != SE) = false := bne_eq_false_iff_eq.mpr wF; clear wF
     (first | rw [QA] | (simp only [i64_w, i32_w]; rw [QA]) | skip)
     by_cases RF : (!(PA == wA) || (!(UA == zA))) = true
     ·rw [if_pos RF] at H
      have cE : (!(PA == wA) || (!(UA == zA))) = true := RF; clear RF
      exact (laws_FnSailWidths.j0_cut _ _ _ _ _ _ _ _ _ _ _ _ _ _ H HRT.out).elim
     ·rw [if_neg RF] at H
      have cE : (!(PA == wA) || (!(UA == zA))) = false := by simpa using RF
      clear RF
      by_cases vF : PE = OE
      ·rw [if_pos vF] at H
       have bE : (PE == OE) = true := beq_iff_eq.mpr vF; have aE : (PE != OE) = false := bne_eq_false_iff_eq.mpr vF; clear vF
       by_cases uF : RE = SA
       ·rw [if_pos uF] at H
        have ZD : (RE == SA) = true := beq_iff_eq.mpr uF; have YD : (RE != SA) = false := bne_eq_false_iff_eq.mpr uF; clear uF
        by_cases tF : QE = IB
        ·rw [if_pos tF] at H
         have XD : (QE == IB) = true := beq_iff_eq.mpr tF; have WD : (QE != IB) = false := bne_eq_false_iff_eq.mpr tF; clear tF
         by_cases sF : NE = ME
         ·rw [if_pos sF] at H
          have VD : (NE == ME) = true := beq_iff_eq.mpr sF; have UD : (NE != ME) = false := bne_eq_false_iff_eq.mpr sF; clear sF
          by_cases iE : (GB != FB) = true
          ·rw [if_pos iE] at H
           have TD : (GB != FB) = true := iE
           (try (have SD : decide (GB = FB) = false := by simpa using iE))
           (try (have RD : (GB == FB) = false := by simpa using iE))
           (try (have SI : ¬ (GB = FB) := by simpa using iE))
           clear iE
           exact (laws_FnSailWidths.j0_cut _ _ _ _ _ _ _ _ _ _ _ _ _ _ H HRT.out).elim
          ·rw [if_neg iE] at H
           have TD : (GB != FB) = false := by simpa using iE
           (try (have SD : decide (GB = FB) = true := by simpa using iE))
           (try (have RD : (GB == FB) = true := by simpa using iE))
           clear iE
           by_cases rF : ZA = KE
           ·rw [if_pos rF] at H
            have QD : (ZA == KE) = true := beq_iff_eq.mpr rF; have PD : (ZA != KE) = false := bne_eq_false_iff_eq.mpr rF; clear rF
            by_cases qF : sB = LE
            ·rw [if_pos qF] at H
             have OD : (sB == LE) = true := beq_iff_eq.mpr qF; have ND : (sB != LE) = false := bne_eq_false_iff_eq.mpr qF; clear qF
             by_cases pF : IE = HE
             ·rw [if_pos pF] at H
              have MD : (IE == HE) = true := beq_iff_eq.mpr pF; have LD : (IE != HE) = false := bne_eq_false_iff_eq.mpr pF; clear pF
              by_cases nF : JE = vB
              ·rw [if_pos nF] at H
               have KD : (JE == vB) = true := beq_iff_eq.mpr nF; have JD : (JE != vB) = false := bne_eq_false_iff_eq.mpr nF; clear nF
               by_cases mF : GE = FE
               ·rw [if_pos mF] at H
                have ID : (GE == FE) = true := beq_iff_eq.mpr mF; have HD : (GE != FE) = false := bne_eq_false_iff_eq.mpr mF; clear mF; have H' := zQ H; clear H; have PI := tA.out; have NI := GA.out; obtain ⟨nB, mB, fB, eB⟩ := zy2 bA.out; obtain ⟨lB, kB, dB, cB⟩ := zy2 aA.out
                go_wp2
                go_meet
                case rel => exact ⟨_, ((qG != TE)), (zF), H', ⟨by first | omega | exact Nat.le_refl _⟩, ⟨by (with_reducible repeat (first | apply Kd.R_alloc | apply Kd.R_drewN | apply Kd.R_drew)); exact Kd.R_mono cA.out (fun _ hk => hk.2)⟩, ⟨by (with_reducible repeat (first | apply Kd.R_alloc | apply Kd.R_drewN | apply Kd.R_drew)); exact Kd.R_mono oA.out (fun _ hk => hk.2)⟩, ⟨zb bA.out⟩, ⟨zb aA.out⟩, ⟨zB3 HB.out dA.out fA.out⟩⟩
               ·rw [if_neg mF] at H
                have ID : (GE == FE) = false := beq_eq_false_iff_ne.mpr mF; have HD : (GE != FE) = true := bne_iff_ne.mpr mF
                exact (laws_FnSailWidths.j0_cut _ _ _ _ _ _ _ _ _ _ _ _ _ _ H HRT.out).elim
              ·rw [if_neg nF] at H
               have KD : (JE == vB) = false := beq_eq_false_iff_ne.mpr nF; have JD : (JE != vB) = true := bne_iff_ne.mpr nF
               exact (laws_FnSailWidths.j0_cut _ _ _ _ _ _ _ _ _ _ _ _ _ _ H HRT.out).elim
             ·rw [if_neg pF] at H
              have MD : (IE == HE) = false := beq_eq_false_iff_ne.mpr pF; have LD : (IE != HE) = true := bne_iff_ne.mpr pF
              exact (laws_FnSailWidths.j0_cut _ _ _ _ _ _ _ _ _ _ _ _ _ _ H HRT.out).elim
            ·rw [if_neg qF] at H
             have OD : (sB == LE) = false := beq_eq_false_iff_ne.mpr qF; have ND : (sB != LE) = true := bne_iff_ne.mpr qF
             exact (laws_FnSailWidths.j0_cut _ _ _ _ _ _ _ _ _ _ _ _ _ _ H HRT.out).elim
           ·rw [if_neg rF] at H
            have QD : (ZA == KE) = false := beq_eq_false_iff_ne.mpr rF; have PD : (ZA != KE) = true := bne_iff_ne.mpr rF
            exact (laws_FnSailWidths.j0_cut _ _ _ _ _ _ _ _ _ _ _ _ _ _ H HRT.out).elim
         ·rw [if_neg sF] at H
          have VD : (NE == ME) = false := beq_eq_false_iff_ne.mpr sF; have UD : (NE != ME) = true := bne_iff_ne.mpr sF
          exact (laws_FnSailWidths.j0_cut _ _ _ _ _ _ _ _ _ _ _ _ _ _ H HRT.out).elim
        ·rw [if_neg tF] at H
         have XD : (QE == IB) = false := beq_eq_false_iff_ne.mpr tF; have WD : (QE != IB) = true := bne_iff_ne.mpr tF
         exact (laws_FnSailWidths.j0_cut _ _ _ _ _ _ _ _ _ _ _ _ _ _ H HRT.out).elim
       ·rw [if_neg uF] at H
        have ZD : (RE == SA) = false := beq_eq_false_iff_ne.mpr uF; have YD : (RE != SA) = true := bne_iff_ne.mpr uF
        exact (laws_FnSailWidths.j0_cut _ _ _ _ _ _ _ _ _ _ _ _ _ _ H HRT.out).elim
      ·rw [if_neg vF] at H
       have bE : (PE == OE) = false := beq_eq_false_iff_ne.mpr vF; have aE : (PE != OE) = true := bne_iff_ne.mpr vF
       exact (laws_FnSailWidths.j0_cut _ _ _ _ _ _ _ _ _ _ _ _ _ _ H HRT.out).elim
    ·rw [if_neg wF] at H
     have QA : (TA == SE) = false := beq_eq_false_iff_ne.mpr wF; have dE : (TA != SE) = true := bne_iff_ne.mpr wF
     (first | rw [QA] | (simp only [i64_w, i32_w]; rw [QA]) | skip)
     exact (laws_FnSailWidths.j0_cut _ _ _ _ _ _ _ _ _ _ _ _ _ _ H HRT.out).elim
  case rest =>
   as_aux_lemma =>
    clear nG; (try clear c1); (try clear c2); (try clear p2); (try clear c3); (try clear c4); (try clear c5); (try clear c6); (try clear c7); (try clear c8); (try clear EI); (try clear DI); (try clear CI); (try clear BI); (try clear AI); (try clear zI); (try clear yI); (try clear xI); (try clear wI); (try clear vI); (try clear uI); (try clear tI); (try clear sI); (try clear rI); (try clear wF); (try clear QA); (try clear dE); (try clear RF); (try clear cE); (try clear qI); (try clear vF); (try clear bE); (try clear aE); (try clear uF); (try clear ZD); (try clear YD); (try clear tF); (try clear XD); (try clear WD); (try clear sF); (try clear VD); (try clear UD); (try clear iE); (try clear TD); (try clear SD); (try clear RD); (try clear pI); (try clear rF); (try clear QD); (try clear PD); (try clear qF); (try clear OD); (try clear ND); (try clear pF); (try clear MD); (try clear LD); (try clear nF); (try clear KD); (try clear JD); (try clear mF); (try clear ID); (try clear HD); (try clear oI); (try clear nI); (try clear mI); (try clear lI); (try clear kI); (try clear jI); (try clear iI); (try clear hI); (try clear gI); (try clear fI); (try clear rB qB); (try clear pB oB); (try clear tD sD); (try clear rD qD); (try clear pD oD); (try clear nD)
    (try clear mD uC tC); (try clear nB mB fB eB); (try clear lB kB dB cB); (try clear lD kD sC rC); (try clear jD iD qC pC); (try clear hD gD oC nC); (try clear fD eD mC lC); (try clear dD cD kC jC); (try clear bD aD iC hC); (try clear ZC YC gC fC); (try clear XC WC); (try clear VC UC); (try clear TC SC); (try clear RC QC); (try clear PC OC); (try clear NC MC); (try clear LC KC); (try clear JC IC); (try clear HC GC); (try clear FC EC); (try clear DC CC); (try clear jB iB); (try clear hB gB); (try clear BC AC); (try clear yC xC); (try clear wC vC)
    (try clear eC dC); (try clear cC bC); (try clear aC ZB); (try clear YB XB); (try clear WB VB); (try clear UB TB); (try clear SB RB); (try clear QB PB); (try clear OB NB); (try clear MB LB); (try clear KB JB); obtain ⟨kq, bB, rfl, HA, LF, xA, BE, bA, aA, HB⟩ := hcut
    cases kq with
    | zero => exact absurd HA.out (by simp [laws_FnSailWidths.j0])
    | succ rG =>
     have H := HA.out; clear HA
     simp only [laws_FnSailWidths.j0] at H
     by_cases kG : bB = true
     ·subst kG
      rw [if_pos rfl] at H; obtain rfl := Option.some.inj H
      exact absurd HRT.out (by decide)
     ·replace kG := Bool.eq_false_iff.mpr kG
      subst kG
      rw [if_neg Bool.false_ne_true] at H; have mG := zQ H; clear H
      go_upto_if 183 with (fail)
      go_cut [] (fun wc => ∃ (kq : Nat), Aside0 (laws_FnSailWidths.j1 kq rA BA TA SA IB wA zA = some r) ∧ Aside0 (kq ≤ rG) ∧ Aside0 (Kd.R k49 49 wc w.heap.size (fun _ => True) (.slice aB rA.length LA) rA) ∧ Aside0 (wc.heap[CA]? = some (.cells #[.int .i64 PA, .int .i64 UA] 25 (0, 0))) ∧ Aside0 (wc.heap[AA]? = some (.cells #[.int .i64 wA, .int .i64 zA] 25 (0, 0))) ∧ Aside0 (Below w.heap.size w wc))
      case first =>
       as_aux_lemma =>
        have H := mG.out; clear mG
        by_cases QF : ZA = 0
        ·rw [if_pos QF] at H
         have WA : (ZA == 0) = true := beq_iff_eq.mpr QF; have AE : (ZA != 0) = false := bne_eq_false_iff_eq.mpr QF; clear QF
         (first | rw [WA] | (simp only [i64_w, i32_w]; rw [WA]) | skip)
         replace H := zob H; obtain ⟨⟨pG, EE⟩, ZJ, H⟩ := H
         by_cases PF : EE = 0
         ·rw [if_pos PF] at H
          have yE : (EE == 0) = true := beq_iff_eq.mpr PF; have xE : (EE != 0) = false := bne_eq_false_iff_eq.mpr PF; clear PF
          by_cases YF : pG < vB
          ·rw [if_pos YF] at H
           have wE := decide_eq_true YF; clear YF; obtain rfl := Option.some.inj H
           exact absurd HRT.out (by decide)
          ·rw [if_neg YF] at H
           have wE := decide_eq_false YF; clear YF
           by_cases XF : (wrap64 (sB * sB)) < vB
           ·rw [if_pos XF] at H
            have vE := decide_eq_true XF; clear XF; obtain rfl := Option.some.inj H
            exact absurd HRT.out (by decide)
           ·rw [if_neg XF] at H
            have vE := decide_eq_false XF; clear XF
            by_cases WF : (wrap64 ((wrap64 (sB - 1)) * (wrap64 (sB - 1)))) ≥ vB
            ·rw [if_pos WF] at H
             have uE := decide_eq_true WF; clear WF; obtain rfl := Option.some.inj H
             exact absurd HRT.out (by decide)
            ·rw [if_neg WF] at H
             have uE := decide_eq_false WF; clear WF; have H' := zQ H; clear H
             go_wp2_with (first | ((with_reducible refine zgc 20 ?_); refine zgo (some 187) Try.func20 #[.slice xD yA.length uD, .int .i64 TE] ?_; (with_reducible refine (impl_SquareOfEdge.calls rG _ _ yA TE pG EE _ ?side1 ((Kd.R_reads' BE.out).2.1) ZJ.out).mono ?_); (case side1 => exact zk (Kd.R_reads' BE.out).2.2); rintro e jK ⟨rfl, hb⟩; refine ⟨_, rfl, ?_⟩; replace xA := zRb xA.out hb; replace BE := zRb BE.out hb; replace bA := zbl bA.out hb; replace aA := zbl aA.out hb; replace HB := zQ (below_step (zB3 HB.out dA.out fA.out) hb); (try clear hb)))
             go_meet
             case rel => exact ⟨_, H', ⟨by have := LF.out; first | omega | exact Nat.le_refl _⟩, ⟨by (with_reducible repeat (first | apply Kd.R_alloc | apply Kd.R_drewN | apply Kd.R_drew)); exact Kd.R_mono xA.out (fun _ hk => trivial)⟩, ⟨zb bA.out⟩, ⟨zb aA.out⟩, ⟨zB3 HB.out dA.out fA.out⟩⟩
         ·rw [if_neg PF] at H
          have yE : (EE == 0) = false := beq_eq_false_iff_ne.mpr PF; have xE : (EE != 0) = true := bne_iff_ne.mpr PF; obtain rfl := Option.some.inj H
          exact absurd HRT.out (by decide)
        ·rw [if_neg QF] at H
         have WA : (ZA == 0) = false := beq_eq_false_iff_ne.mpr QF; have AE : (ZA != 0) = true := bne_iff_ne.mpr QF
         (first | rw [WA] | (simp only [i64_w, i32_w]; rw [WA]) | skip)
         have H' := zQ H; clear H
         go_wp2
         go_meet
         case rel => exact ⟨_, H', ⟨by have := LF.out; first | omega | exact Nat.le_refl _⟩, ⟨by (with_reducible repeat (first | apply Kd.R_alloc | apply Kd.R_drewN | apply Kd.R_drew)); exact Kd.R_mono xA.out (fun _ hk => trivial)⟩, ⟨zb bA.out⟩, ⟨zb aA.out⟩, ⟨zB3 HB.out dA.out fA.out⟩⟩
      case rest =>
       as_aux_lemma =>
        clear mG; (try clear c1); (try clear c2); (try clear p2); (try clear c3); (try clear c4); (try clear c5); (try clear c6); (try clear p6); (try clear c7); (try clear c8); (try clear c9); (try clear EI); (try clear DI); (try clear CI); (try clear BI); (try clear AI); (try clear zI); (try clear yI); (try clear xI); (try clear wI); (try clear vI); (try clear uI); (try clear tI); (try clear sI); (try clear rI); (try clear wF); (try clear QA); (try clear dE); (try clear RF); (try clear cE); (try clear qI); (try clear vF); (try clear bE); (try clear aE); (try clear uF); (try clear ZD); (try clear YD); (try clear tF); (try clear XD); (try clear WD); (try clear sF); (try clear VD); (try clear UD); (try clear iE); (try clear TD); (try clear SD); (try clear RD); (try clear pI); (try clear rF); (try clear QD); (try clear PD); (try clear qF); (try clear OD); (try clear ND); (try clear pF); (try clear MD); (try clear LD); (try clear nF); (try clear KD); (try clear JD); (try clear mF); (try clear ID); (try clear HD); (try clear oI); (try clear nI); (try clear mI); (try clear vH); (try clear lI); (try clear kI); (try clear jI); (try clear iI); (try clear hI); (try clear gI); (try clear fI); (try clear kG); (try clear QF); (try clear WA); (try clear AE); (try clear PF); (try clear yE); (try clear xE); (try clear YF); (try clear wE); (try clear XF)
        (try clear vE); (try clear WF); (try clear uE); (try clear rB qB jB iB); (try clear pB oB hB gB); (try clear tD sD BC AC); (try clear rD qD yC xC); (try clear pD oD wC vC); (try clear nD mD uC tC); (try clear nB mB fB eB); (try clear lB kB dB cB); (try clear lD kD); (try clear jD iD); (try clear hD gD); (try clear fD eD); (try clear dD cD); (try clear bD aD); (try clear ZC YC); (try clear XC WC); (try clear VC UC); (try clear TC SC); (try clear RC QC); (try clear PC OC); (try clear NC MC); (try clear LC KC); (try clear JC IC); (try clear HC GC); (try clear FC EC); (try clear DC CC)
        (try clear sC rC); (try clear qC pC); (try clear oC nC); (try clear mC lC); (try clear kC jC); (try clear iC hC); (try clear gC fC); (try clear eC dC); (try clear cC bC); (try clear aC ZB); (try clear YB XB); (try clear WB VB); (try clear UB TB); (try clear SB RB); (try clear QB PB); (try clear OB NB); (try clear MB LB); (try clear KB JB); (try clear p2); obtain ⟨kq, HA, lG, xA, bA, aA, HB⟩ := hcut
        cases kq with
        | zero => exact absurd HA.out (by simp [laws_FnSailWidths.j1])
        | succ EH =>
         have H := HA.out; clear HA
         simp only [laws_FnSailWidths.j1] at H
         by_cases wD : TA = 0
         ·rw [if_pos wD] at H
          have tE : (TA == 0) = true := beq_iff_eq.mpr wD; have sE : (TA != 0) = false := bne_eq_false_iff_eq.mpr wD; clear wD
          by_cases gE : wA < 0
          ·rw [if_pos gE] at H
           have rE := decide_eq_true gE; clear gE; obtain rfl := Option.some.inj H; have cI := GA.out; have QH := tA.out; obtain ⟨FD, ED, BD, AD⟩ := zy2 aA.out
           go_wp2
           go_ret
           exact ⟨zE, zB3 HB.out dA.out fA.out⟩
          ·rw [if_neg gE] at H
           have rE := decide_eq_false gE; clear gE; have NF := zQ H; clear H; have bI := GA.out; have PH := tA.out; obtain ⟨DD, CD, zD, yD⟩ := zy2 aA.out
           go_upto_region 27 with (fail)
           go_cut [225] (fun CH wc => ∃ (kq : Nat) (OA : Bool), CH = .bool OA ∧ Aside0 (laws_FnSailWidths.j2 kq rA BA OA wA zA = some r) ∧ Aside0 (kq ≤ EH) ∧ Aside0 (Kd.R k49 49 wc w.heap.size (fun _ => True) (.slice aB rA.length LA) rA) ∧ Aside0 (wc.heap[CA]? = some (.cells #[.int .i64 PA, .int .i64 UA] 25 (0, 0))) ∧ Aside0 (wc.heap[AA]? = some (.cells #[.int .i64 wA, .int .i64 zA] 25 (0, 0))) ∧ Aside0 (Below w.heap.size w wc))
           case first =>
            as_aux_lemma =>
             have H := NF.out; clear NF
             by_cases vD : BA = SA
             ·rw [if_pos vD] at H
              have MA : (BA == SA) = true := beq_iff_eq.mpr vD; have qE : (BA != SA) = false := bne_eq_false_iff_eq.mpr vD; clear vD
              (first | rw [MA] | (simp only [i64_w, i32_w]; rw [MA]) | skip)
              have H' := zQ H; clear H
              go_wp2
              go_meet
              case rel => exact ⟨_, (true), (zF), H', ⟨by have := LF.out; have := lG.out; first | omega | exact Nat.le_refl _⟩, ⟨zR xA.out⟩, ⟨zb bA.out⟩, ⟨zb aA.out⟩, ⟨zB3 HB.out dA.out fA.out⟩⟩
             ·rw [if_neg vD] at H
              have MA : (BA == SA) = false := beq_eq_false_iff_ne.mpr vD; have qE : (BA != SA) = true := bne_iff_ne.mpr vD
              (first | rw [MA] | (simp only [i64_w, i32_w]; rw [MA]) | skip)
              have H' := zQ H; clear H
              go_wp2
              go_meet
              case rel => exact ⟨_, ((BA == IB)), (zF), H', ⟨by have := LF.out; have := lG.out; first | omega | exact Nat.le_refl _⟩, ⟨zR xA.out⟩, ⟨zb bA.out⟩, ⟨zb aA.out⟩, ⟨zB3 HB.out dA.out fA.out⟩⟩
           case rest =>
            as_aux_lemma =>
             clear NF; (try clear c1); (try clear c2); (try clear p2); (try clear c3); (try clear c4); (try clear c5); (try clear c6); (try clear p6); (try clear c7); (try clear c8); (try clear c9); (try clear YJ); (try clear EI); (try clear DI); (try clear CI); (try clear BI); (try clear AI); (try clear zI); (try clear yI); (try clear xI); (try clear wI); (try clear vI); (try clear uI); (try clear tI); (try clear sI); (try clear rI); (try clear wF); (try clear QA); (try clear dE); (try clear RF); (try clear cE); (try clear qI); (try clear vF); (try clear bE); (try clear aE); (try clear uF); (try clear ZD); (try clear YD); (try clear tF); (try clear XD); (try clear WD); (try clear sF); (try clear VD); (try clear UD); (try clear iE); (try clear TD); (try clear SD); (try clear RD); (try clear pI); (try clear rF); (try clear QD); (try clear PD); (try clear qF); (try clear OD); (try clear ND); (try clear pF); (try clear MD); (try clear LD); (try clear nF); (try clear KD); (try clear JD); (try clear mF); (try clear ID); (try clear HD); (try clear oI); (try clear nI); (try clear mI); (try clear vH); (try clear lI); (try clear kI); (try clear jI); (try clear iI); (try clear hI); (try clear gI); (try clear fI); (try clear kG); (try clear QF); (try clear WA); (try clear AE); (try clear PF); (try clear yE); (try clear xE); (try clear YF)
             (try clear wE); (try clear XF); (try clear vE); (try clear WF); (try clear uE); (try clear wD); (try clear tE); (try clear sE); (try clear gE); (try clear rE); (try clear GI); (try clear FI); (try clear vD); (try clear MA); (try clear qE); (try clear FD ED BD); (try clear DD CD); (try clear rB qB); (try clear pB oB); (try clear tD sD); (try clear rD qD); (try clear pD oD); (try clear nD mD); (try clear nB mB); (try clear lB kB); (try clear lD kD); (try clear jD iD); (try clear hD gD); (try clear fD eD); (try clear dD cD); (try clear bD aD); (try clear ZC YC); (try clear XC WC); (try clear VC UC); (try clear TC SC); (try clear RC QC); (try clear PC OC); (try clear NC MC); (try clear LC KC); (try clear JC IC); (try clear HC GC); (try clear FC EC); (try clear DC CC)
             (try clear AD); (try clear zD yD); (try clear jB iB); (try clear hB gB); (try clear BC AC); (try clear yC xC); (try clear wC vC); (try clear uC tC); (try clear fB eB); (try clear dB cB); (try clear sC rC); (try clear qC pC); (try clear oC nC); (try clear mC lC); (try clear kC jC); (try clear iC hC); (try clear gC fC); (try clear eC dC); (try clear cC bC); (try clear aC ZB); (try clear YB XB); (try clear WB VB); (try clear UB TB); (try clear SB RB); (try clear QB PB); (try clear OB NB); (try clear MB LB); (try clear KB JB); (try clear p2); (try clear p6); (try clear vH); obtain ⟨kq, OA, rfl, HA, sH, xA, bA, aA, HB⟩ := hcut
             cases kq with
             | zero => exact absurd HA.out (by simp [laws_FnSailWidths.j2])
             | succ UE =>
              have H := HA.out; clear HA
              simp only [laws_FnSailWidths.j2] at H
              by_cases JF : OA = true
              ·subst JF
               rw [if_pos rfl] at H; obtain rfl := Option.some.inj H
               go_wp2
               go_ret
               exact ⟨zE, zB3 HB.out dA.out fA.out⟩
              ·replace JF := Bool.eq_false_iff.mpr JF
               subst JF
               rw [if_neg Bool.false_ne_true] at H; replace H := zob H; obtain ⟨⟨YA, XA, DE⟩, LI, H⟩ := H; replace H := zob H; obtain ⟨⟨DB, CB, CE⟩, KI, H⟩ := H; have MF := zQ H; clear H
               go_upto_region 31 with (first | ((with_reducible refine zgc 8 ?_); refine zgo (some 230) Try.func8 #[.slice aB rA.length LA, .int .i64 (wrap64 (BA - 1))] ?_; (with_reducible refine (impl_WidthAt.calls UE _ _ rA (wrap64 (BA - 1)) YA XA DE _ ?side1 ((Kd.R_reads' xA.out).2.1) LI.out).mono ?_); (case side1 => exact zk (Kd.R_reads' xA.out).2.2); rintro e dJ ⟨rfl, hb⟩; refine ⟨_, rfl, ?_⟩; replace xA := zRb xA.out hb; replace bA := zbl bA.out hb; replace aA := zbl aA.out hb; replace HB := zQ (below_step (zB3 HB.out dA.out fA.out) hb); (try clear hb)) | ((with_reducible refine zd 35 ?_); refine zbx (N := 35) (cs := #[.int .i64 0, .int .i64 0]) (t := 25) ?_; intro KA hg cJ tB hb; have gA := zQ (tB); have VI := zQ ((by rw [hg]; exact (below_size (zB3 HB.out dA.out fA.out)) : w.heap.size ≤ KA)); have RA := zQ ((by rw [hg]; exact (below_size (zB3 HB.out dA.out fA.out)) : w.heap.size ≤ KA)); have JA := zn1 hg bA.out; have BB := zn2 hg bA.out; have FA := zn1 hg aA.out; have AB := zn2 hg aA.out; replace xA := zRb xA.out hb; replace bA := zbl bA.out hb; replace aA := zbl aA.out hb; replace HB := zQ (below_step (zB3 HB.out dA.out fA.out) hb); clear hb tB hg; have aI := BB.out; have OH := JA.out; have ZH := AB.out; have NH := FA.out; obtain ⟨lF, kF, cF, bF⟩ := zy2 gA.out) | ((with_reducible refine zgc 8 ?_); refine zgo (some 237) Try.func8 #[.slice aB rA.length LA, .int .i64 (wrap64 (BA + 1))] ?_; (with_reducible refine (impl_WidthAt.calls UE _ _ rA (wrap64 (BA + 1)) DB CB CE _ ?side1 ((Kd.R_reads' xA.out).2.1) KI.out).mono ?_); (case side1 => refine (Kd.R_reads' (e := 49) (base := w.heap.size) (ok := fun k_ => True) (n := rA.length) (c := LA) ?_).2.2; exact (by (with_reducible repeat (first | apply Kd.R_alloc | apply Kd.R_drewN | apply Kd.R_drew)); exact (Kd.R_mono (Kd.R_far (p := ⟨KA, 1, none⟩) (Kd.R_far (p := ⟨KA, 0, none⟩) (Kd.R_types xA.out gA.out (by decide)) (fun _ hk => hk.2) (.int .i64 YA)) (fun _ hk => hk.2) (.int .i64 XA)) (fun _ h_ => h_.1)))); rintro e bJ ⟨rfl, hb⟩; refine ⟨_, rfl, ?_⟩; replace xA := zQ (Kd.R_below (by (with_reducible repeat (first | apply Kd.R_alloc | apply Kd.R_drewN | apply Kd.R_drew)); exact (Kd.R_mono (Kd.R_far (p := ⟨KA, 1, none⟩) (Kd.R_far (p := ⟨KA, 0, none⟩) (Kd.R_types xA.out gA.out (by decide)) (fun _ hk => hk.2) (.int .i64 YA)) (fun _ hk => hk.2) (.int .i64 XA)) (fun _ h_ => h_.1))) hb); replace bA := zQ (blk_below (g := CA) (o := .cells #[.int .i64 PA, .int .i64 UA] 25 (0, 0)) (by refine zb ?_; refine blk_far ?_ JA.out _; refine zb ?_; refine blk_far ?_ JA.out _; refine zb ?_; exact bA.out) hb); replace aA := zQ (blk_below (g := AA) (o := .cells #[.int .i64 wA, .int .i64 zA] 25 (0, 0)) (by refine zb ?_; refine blk_far ?_ FA.out _; refine zb ?_; refine blk_far ?_ FA.out _; refine zb ?_; exact aA.out) hb); replace gA := zQ (blk_below (g := KA) (o := .cells #[.int .i64 YA, .int .i64 XA] 25 (0, 0)) (by refine zb ?_; refine blk_put (cs := #[.int .i64 YA, .int .i64 0]) ?_ 1 _ rfl; refine zb ?_; refine blk_put (cs := #[.int .i64 0, .int .i64 0]) ?_ 0 _ rfl; refine zb ?_; exact gA.out) hb); replace HB := zQ (below_step (by repeat (first | (with_reducible first | exact HB.out | apply below_alloc | apply pw_below_drewN | apply below_drew1 | refine below_set ?_ dA.out | refine below_set ?_ fA.out | refine below_set ?_ RA.out) | exact HB.out)) hb); (try clear hb)) | ((with_reducible refine zd 37 ?_); refine zbx (N := 37) (cs := #[.int .i64 0, .int .i64 0]) (t := 25) ?_; intro GD hg aJ tB hb; have pA := zQ (tB); have UI := zQ ((by rw [hg]; exact (below_size (by repeat (first | (with_reducible first | exact HB.out | apply below_alloc | apply pw_below_drewN | apply below_drew1 | refine below_set ?_ dA.out | refine below_set ?_ fA.out | refine below_set ?_ RA.out) | exact HB.out))) : w.heap.size ≤ GD)); have hE := zQ ((by rw [hg]; exact (below_size (by repeat (first | (with_reducible first | exact HB.out | apply below_alloc | apply pw_below_drewN | apply below_drew1 | refine below_set ?_ dA.out | refine below_set ?_ fA.out | refine below_set ?_ RA.out) | exact HB.out))) : w.heap.size ≤ GD)); have IA := zn1 hg bA.out; have yB := zn2 hg bA.out; have EA := zn1 hg aA.out; have xB := zn2 hg aA.out; have DA := zn1 hg gA.out; have wB := zn2 hg gA.out; replace xA := zRb xA.out hb; replace bA := zbl bA.out hb; replace aA := zbl aA.out hb; replace gA := zbl gA.out hb; replace HB := zQ (below_step (by repeat (first | (with_reducible first | exact HB.out | apply below_alloc | apply pw_below_drewN | apply below_drew1 | refine below_set ?_ dA.out | refine below_set ?_ fA.out | refine below_set ?_ RA.out) | exact HB.out)) hb); clear hb tB hg; have YH := yB.out; have MH := IA.out; have XH := xB.out; have LH := EA.out; have WH := wB.out; have KH := DA.out; obtain ⟨jF, hF, aF, ZE⟩ := zy2 pA.out))
               (try simp only [Act.put, List.setIfInBounds_toArray, List.set_cons_zero, List.set_cons_succ])
               go_cut [291] (fun BH wc => ∃ (kq : Nat) (NA : Bool), BH = .bool NA ∧ Aside0 (laws_FnSailWidths.j3 kq NA wA zA YA XA DB CB = some r) ∧ Aside0 (kq ≤ UE) ∧ Aside0 (wc.heap[CA]? = some (.cells #[.int .i64 PA, .int .i64 UA] 25 (0, 0))) ∧ Aside0 (wc.heap[AA]? = some (.cells #[.int .i64 wA, .int .i64 zA] 25 (0, 0))) ∧ Aside0 (wc.heap[KA]? = some (.cells #[.int .i64 YA, .int .i64 XA] 25 (0, 0))) ∧ Aside0 (wc.heap[GD]? = some (.cells #[.int .i64 DB, .int .i64 CB] 25 (0, 0))) ∧ Aside0 (Below w.heap.size w wc))
               case first =>
                as_aux_lemma =>
                 have H := MF.out; clear MF
                 by_cases fE : DE = 0
                 ·rw [if_pos fE] at H
                  have VA : (DE == 0) = true := beq_iff_eq.mpr fE; have HF : (DE != 0) = false := bne_eq_false_iff_eq.mpr fE; clear fE
                  (first | rw [VA] | (simp only [i64_w, i32_w]; rw [VA]) | skip)
                  by_cases eE : CE = 0
                  ·rw [if_pos eE] at H
                   have GF : (CE == 0) = true := beq_iff_eq.mpr eE; have FF : (CE != 0) = false := bne_eq_false_iff_eq.mpr eE; clear eE
                   by_cases pE : XA < 1
                   ·rw [if_pos pE] at H
                    have EF := decide_eq_true pE; clear pE
                    exact (laws_FnSailWidths.j3_cut _ _ _ _ _ _ _ _ H HRT.out).elim
                   ·rw [if_neg pE] at H
                    have EF := decide_eq_false pE; clear pE
                    by_cases oE : CB < 1
                    ·rw [if_pos oE] at H
                     have DF := decide_eq_true oE; clear oE
                     exact (laws_FnSailWidths.j3_cut _ _ _ _ _ _ _ _ H HRT.out).elim
                    ·rw [if_neg oE] at H
                     have DF := decide_eq_false oE; clear oE
                     by_cases nE : XA > 4000000
                     ·rw [if_pos nE] at H
                      have CF := decide_eq_true nE; clear nE
                      exact (laws_FnSailWidths.j3_cut _ _ _ _ _ _ _ _ H HRT.out).elim
                     ·rw [if_neg nE] at H
                      have CF := decide_eq_false nE; clear nE
                      by_cases mE : CB > 4000000
                      ·rw [if_pos mE] at H
                       have BF := decide_eq_true mE; clear mE
                       exact (laws_FnSailWidths.j3_cut _ _ _ _ _ _ _ _ H HRT.out).elim
                      ·rw [if_neg mE] at H
                       have BF := decide_eq_false mE; clear mE
                       by_cases lE : YA < 0
                       ·rw [if_pos lE] at H
                        have AF := decide_eq_true lE; clear lE
                        exact (laws_FnSailWidths.j3_cut _ _ _ _ _ _ _ _ H HRT.out).elim
                       ·rw [if_neg lE] at H
                        have AF := decide_eq_false lE; clear lE
                        by_cases kE : DB < 0
                        ·rw [if_pos kE] at H
                         have yF := decide_eq_true kE; clear kE
                         exact (laws_FnSailWidths.j3_cut _ _ _ _ _ _ _ _ H HRT.out).elim
                        ·rw [if_neg kE] at H
                         have yF := decide_eq_false kE; clear kE
                         by_cases jE : YA > (wrap64 (2000 * XA))
                         ·rw [if_pos jE] at H
                          have xF := decide_eq_true jE; clear jE
                          exact (laws_FnSailWidths.j3_cut _ _ _ _ _ _ _ _ H HRT.out).elim
                         ·rw [if_neg jE] at H
                          have xF := decide_eq_false jE; clear jE; have H' := zQ H; clear H; have VH := BB.out; have JH := JA.out; have UH := AB.out; have IH := FA.out; have TH := DA.out; have HH := wB.out; obtain ⟨gF, fF, YE, XE⟩ := zy2 gA.out; have SH := yB.out; have GH := IA.out; have RH := xB.out; have FH := EA.out; obtain ⟨eF, dF, WE, VE⟩ := zy2 pA.out
                          go_wp2
                          go_meet
                          case rel => exact ⟨_, (decide (DB > (wrap64 (2000 * CB)))), (zF), H', ⟨by have := LF.out; have := lG.out; have := sH.out; first | omega | exact Nat.le_refl _⟩, ⟨by refine zb ?_; refine blk_far ?_ IA.out _; refine zb ?_; refine blk_far ?_ IA.out _; refine zb ?_; exact bA.out⟩, ⟨by refine zb ?_; refine blk_far ?_ EA.out _; refine zb ?_; refine blk_far ?_ EA.out _; refine zb ?_; exact aA.out⟩, ⟨by refine zb ?_; refine blk_far ?_ DA.out _; refine zb ?_; refine blk_far ?_ DA.out _; refine zb ?_; exact gA.out⟩, ⟨by refine zb ?_; refine blk_put (cs := #[.int .i64 DB, .int .i64 0]) ?_ 1 _ rfl; refine zb ?_; refine blk_put (cs := #[.int .i64 0, .int .i64 0]) ?_ 0 _ rfl; refine zb ?_; exact pA.out⟩, ⟨by repeat (first | (with_reducible first | exact HB.out | apply below_alloc | apply pw_below_drewN | apply below_drew1 | refine below_set ?_ dA.out | refine below_set ?_ fA.out | refine below_set ?_ RA.out | refine below_set ?_ hE.out) | exact HB.out)⟩⟩
                  ·rw [if_neg eE] at H
                   have GF : (CE == 0) = false := beq_eq_false_iff_ne.mpr eE; have FF : (CE != 0) = true := bne_iff_ne.mpr eE
                   exact (laws_FnSailWidths.j3_cut _ _ _ _ _ _ _ _ H HRT.out).elim
                 ·rw [if_neg fE] at H
                  have VA : (DE == 0) = false := beq_eq_false_iff_ne.mpr fE; have HF : (DE != 0) = true := bne_iff_ne.mpr fE
                  (first | rw [VA] | (simp only [i64_w, i32_w]; rw [VA]) | skip)
                  exact (laws_FnSailWidths.j3_cut _ _ _ _ _ _ _ _ H HRT.out).elim
               case rest =>
                as_aux_lemma =>
                 clear MF; (try clear c1); (try clear c2); (try clear p2); (try clear c3); (try clear c4); (try clear c5); (try clear c6); (try clear p6); (try clear c7); (try clear c8); (try clear c9); (try clear YJ); (try clear EI); (try clear DI); (try clear CI); (try clear BI); (try clear AI); (try clear zI); (try clear yI); (try clear xI); (try clear wI); (try clear vI); (try clear uI); (try clear tI); (try clear sI); (try clear rI); (try clear wF); (try clear QA); (try clear dE); (try clear RF); (try clear cE); (try clear qI); (try clear vF); (try clear bE); (try clear aE); (try clear uF); (try clear ZD); (try clear YD); (try clear tF); (try clear XD); (try clear WD); (try clear sF); (try clear VD); (try clear UD); (try clear iE); (try clear TD); (try clear SD); (try clear RD); (try clear pI); (try clear rF); (try clear QD); (try clear PD); (try clear qF); (try clear OD); (try clear ND); (try clear pF); (try clear MD); (try clear LD); (try clear nF); (try clear KD); (try clear JD); (try clear mF); (try clear ID); (try clear HD); (try clear oI); (try clear nI); (try clear mI); (try clear vH); (try clear lI); (try clear kI); (try clear jI); (try clear iI); (try clear hI); (try clear gI); (try clear fI); (try clear kG); (try clear QF); (try clear WA); (try clear AE); (try clear PF); (try clear yE); (try clear xE); (try clear YF)
                 (try clear wE); (try clear XF); (try clear vE); (try clear WF); (try clear uE); (try clear wD); (try clear tE); (try clear sE); (try clear gE); (try clear rE); (try clear GI); (try clear FI); (try clear vD); (try clear MA); (try clear qE); (try clear JF); (try clear XJ); (try clear WJ); (try clear VJ); (try clear UJ); (try clear TJ); (try clear fE); (try clear VA); (try clear HF); (try clear eE); (try clear GF); (try clear FF); (try clear pE); (try clear EF); (try clear SJ); (try clear RJ); (try clear QJ); (try clear oE); (try clear DF); (try clear PJ); (try clear OJ); (try clear NJ); (try clear MJ); (try clear LJ); (try clear nE); (try clear CF); (try clear KJ); (try clear JJ); (try clear IJ); (try clear HJ); (try clear GJ); (try clear mE); (try clear BF); (try clear FJ); (try clear EJ); (try clear DJ); (try clear CJ); (try clear BJ); (try clear lE); (try clear AF); (try clear AJ); (try clear zJ); (try clear yJ); (try clear xJ); (try clear wJ); (try clear kE); (try clear yF); (try clear vJ); (try clear uJ); (try clear tJ); (try clear sJ); (try clear rJ); (try clear jE); (try clear xF); (try clear qJ); (try clear pJ); (try clear oJ); (try clear nJ); (try clear mJ); (try clear lJ); (try clear kJ); (try clear jJ); (try clear iJ); (try clear hJ); (try clear FD)
                 (try clear ED); (try clear DD CD); (try clear lF kF); (try clear jF hF); (try clear rH qH); (try clear pH oH); (try clear nH mH); (try clear lH kH); (try clear jH iH); (try clear hH gH); (try clear fH eH); (try clear dH cH); (try clear bH aH); (try clear ZG YG); (try clear XG WG); (try clear VG UG); (try clear TG SG); (try clear gF fF); (try clear eF dF); (try clear rB qB); (try clear pB oB); (try clear tD sD); (try clear rD qD); (try clear pD oD); (try clear nD mD); (try clear nB mB); (try clear lB kB); (try clear lD kD); (try clear jD iD); (try clear hD gD); (try clear fD eD); (try clear dD cD); (try clear bD aD); (try clear ZC YC); (try clear XC)
                 (try clear WC); (try clear VC UC); (try clear TC SC); (try clear RC QC); (try clear PC OC); (try clear NC MC); (try clear LC KC); (try clear JC IC); (try clear HC GC); (try clear FC EC); (try clear DC CC); (try clear BD AD); (try clear zD yD); (try clear cF bF); (try clear aF ZE); (try clear RG QG); (try clear PG OG); (try clear NG MG); (try clear LG KG); (try clear JG IG); (try clear HG GG); (try clear FG EG); (try clear DG CG); (try clear BG AG); (try clear zG yG); (try clear xG wG); (try clear vG uG); (try clear tG sG); (try clear YE XE); (try clear WE VE); (try clear jB iB); (try clear hB gB); (try clear BC AC); (try clear yC xC); (try clear wC)
                 (try clear vC); (try clear uC tC); (try clear fB eB); (try clear dB cB); (try clear sC rC); (try clear qC pC); (try clear oC nC); (try clear mC lC); (try clear kC jC); (try clear iC hC); (try clear gC fC); (try clear eC dC); (try clear cC bC); (try clear aC ZB); (try clear YB XB); (try clear WB VB); (try clear UB TB); (try clear SB RB); (try clear QB PB); (try clear OB NB); (try clear MB LB); (try clear KB JB); (try clear p2); (try clear p6); (try clear vH); obtain ⟨kq, NA, rfl, HA, TI, bA, aA, gA, pA, HB⟩ := hcut
                 cases kq with
                 | zero => exact absurd HA.out (by simp [laws_FnSailWidths.j3])
                 | succ MI =>
                  have H := HA.out; clear HA
                  simp only [laws_FnSailWidths.j3] at H
                  by_cases ZF : NA = true
                  ·subst ZF
                   rw [if_pos rfl] at H; obtain rfl := Option.some.inj H
                   exact absurd HRT.out (by decide)
                  ·replace ZF := Bool.eq_false_iff.mpr ZF
                   subst ZF
                   rw [if_neg Bool.false_ne_true] at H; replace H := zob H; obtain ⟨iG, JI, H⟩ := H; replace H := zob H; obtain ⟨hG, II, H⟩ := H; replace H := zob H; obtain ⟨gG, HI, H⟩ := H; obtain rfl := Option.some.inj H
                   try go_wp2
                   have n0_ := zQ (blk_drew bA.out); have n1_ := zQ (blk_drew aA.out); have n2_ := zQ (blk_drew gA.out); have n3_ := zQ (blk_drew pA.out); have n4_ := zQ (below_drew1 HB.out); clear bA; clear aA; clear gA; clear pA; clear HB; have bA := n0_; have aA := n1_; have gA := n2_; have pA := n3_; have HB := n4_; clear n0_ n1_ n2_ n3_ n4_
                   refine zs (fun w' => w'.cell? ⟨KA, 0, none⟩ = some (.int .i64 YA) ∧ w'.cell? ⟨KA, 1, none⟩ = some (.int .i64 XA) ∧ w'.cell? ⟨GD, 0, none⟩ = some (.int .i64 DB) ∧ w'.cell? ⟨GD, 1, none⟩ = some (.int .i64 CB) ∧ w'.cell? ⟨AA, 0, none⟩ = some (.int .i64 wA) ∧ w'.cell? ⟨AA, 1, none⟩ = some (.int .i64 zA)) [] 11 ⟨(blk_cell gA.out 0).trans rfl, (blk_cell gA.out 1).trans rfl, (blk_cell pA.out 0).trans rfl, (blk_cell pA.out 1).trans rfl, (blk_cell aA.out 0).trans rfl, (blk_cell aA.out 1).trans rfl⟩ (fun uB => ?_); refine with_tabW laws_FnSailWidths.tab33 laws_FnSailWidths.bits33 (fun HT_ HW_ => ?_)
                   generalize wc.drew = ZI at bA aA gA pA HB uB ⊢
                   refine zt 0 292 uB ?_
                   refine zt 2 294 uB ?_
                   refine zt 5 297 uB ?_
                   refine zo 1 (some 293) (fun K hK => ?_)
                   refine goes_ Try.func24 (by kernel_rfl) rfl #[.agg #[.int .i64 YA, .int .i64 XA]] (by rfl) rfl rfl zM ?_
                   with_reducible refine (laws_f6floor.calls YA XA iG _ JI.out).mono ?_
                   rintro e YI ⟨rfl, hb⟩
                   refine ⟨_, rfl, ?_⟩
                   have n0_ := zbl bA.out hb; have n1_ := zbl aA.out hb; have n2_ := zbl gA.out hb; have n3_ := zbl pA.out hb; have n4_ := zQ (below_step (by repeat (first | (with_reducible first | exact HB.out | apply below_alloc | apply pw_below_drewN | apply below_drew1 | refine below_set ?_ dA.out | refine below_set ?_ fA.out | refine below_set ?_ RA.out | refine below_set ?_ hE.out) | exact HB.out)) hb); clear bA; clear aA; clear gA; clear pA; clear HB; have bA := n0_; have aA := n1_; have gA := n2_; have pA := n3_; have HB := n4_; clear n0_ n1_ n2_ n3_ n4_
                   (try clear hb)
                   (try clear RI)
                   (try clear hk)
                   (try clear hi)
                   refine hK.out _ _ ⟨(blk_cell gA.out 0).trans rfl, (blk_cell gA.out 1).trans rfl, (blk_cell pA.out 0).trans rfl, (blk_cell pA.out 1).trans rfl, (blk_cell aA.out 0).trans rfl, (blk_cell aA.out 1).trans rfl⟩ (fun uB => ?_)
                   clear hK K
                   refine zn 293 ?_
                   refine zo 3 (some 295) (fun K hK => ?_)
                   refine goes_ Try.func24 (by kernel_rfl) rfl #[.agg #[.int .i64 DB, .int .i64 CB]] (by rfl) rfl rfl zM ?_
                   with_reducible refine (laws_f6floor.calls DB CB hG _ II.out).mono ?_
                   rintro e XI ⟨rfl, hb⟩
                   refine ⟨_, rfl, ?_⟩
                   have n0_ := zbl bA.out hb; have n1_ := zbl aA.out hb; have n2_ := zbl gA.out hb; have n3_ := zbl pA.out hb; have n4_ := zQ (below_step (by repeat (first | (with_reducible first | exact HB.out | apply below_alloc | apply pw_below_drewN | apply below_drew1 | refine below_set ?_ dA.out | refine below_set ?_ fA.out | refine below_set ?_ RA.out | refine below_set ?_ hE.out) | exact HB.out)) hb); clear bA; clear aA; clear gA; clear pA; clear HB; have bA := n0_; have aA := n1_; have gA := n2_; have pA := n3_; have HB := n4_; clear n0_ n1_ n2_ n3_ n4_
                   (try clear hb)
                   (try clear RI)
                   (try clear hk)
                   (try clear hi)
                   refine hK.out _ _ ⟨(blk_cell gA.out 0).trans rfl, (blk_cell gA.out 1).trans rfl, (blk_cell pA.out 0).trans rfl, (blk_cell pA.out 1).trans rfl, (blk_cell aA.out 0).trans rfl, (blk_cell aA.out 1).trans rfl⟩ (fun uB => ?_)
                   clear hK K
                   refine zn 295 ?_
                   refine zp 4 296 ?_
                   refine zo 6 (some 298) (fun K hK => ?_)
                   refine goes_ Try.func24 (by kernel_rfl) rfl #[.agg #[.int .i64 wA, .int .i64 zA]] (by rfl) rfl rfl zM ?_
                   with_reducible refine (laws_f6floor.calls wA zA gG _ HI.out).mono ?_
                   rintro e WI ⟨rfl, hb⟩
                   refine ⟨_, rfl, ?_⟩
                   have n0_ := zbl bA.out hb; have n1_ := zbl aA.out hb; have n2_ := zbl gA.out hb; have n3_ := zbl pA.out hb; have n4_ := zQ (below_step (by repeat (first | (with_reducible first | exact HB.out | apply below_alloc | apply pw_below_drewN | apply below_drew1 | refine below_set ?_ dA.out | refine below_set ?_ fA.out | refine below_set ?_ RA.out | refine below_set ?_ hE.out) | exact HB.out)) hb); clear bA; clear aA; clear gA; clear pA; clear HB; have bA := n0_; have aA := n1_; have gA := n2_; have pA := n3_; have HB := n4_; clear n0_ n1_ n2_ n3_ n4_
                   (try clear hb)
                   (try clear RI)
                   (try clear hk)
                   (try clear hi)
                   refine hK.out _ _ ⟨(blk_cell gA.out 0).trans rfl, (blk_cell gA.out 1).trans rfl, (blk_cell pA.out 0).trans rfl, (blk_cell pA.out 1).trans rfl, (blk_cell aA.out 0).trans rfl, (blk_cell aA.out 1).trans rfl⟩ (fun uB => ?_)
                   clear hK K
                   refine zn 298 ?_
                   refine zp 7 299 ?_
                   refine zp 8 300 ?_
                   refine zp 9 301 ?_
                   refine zp 10 2 ?_
                   refine done_ (done_of HT_.out (by kernel_rfl)) ?_
                   try go_wp2
                   go_ret
                   exact ⟨zE, by repeat (first | (with_reducible first | exact HB.out | apply below_alloc | apply pw_below_drewN | apply below_drew1 | refine below_set ?_ dA.out | refine below_set ?_ fA.out | refine below_set ?_ RA.out | refine below_set ?_ hE.out) | exact HB.out)⟩
         ·rw [if_neg wD] at H
          have tE : (TA == 0) = false := beq_eq_false_iff_ne.mpr wD; have sE : (TA != 0) = true := bne_iff_ne.mpr wD; obtain rfl := Option.some.inj H
          go_wp2
          go_ret
          exact ⟨zE, zB3 HB.out dA.out fA.out⟩

def laws_FnSailWidths.Pure : Prop := ∀ (l0 : List Int), l0.length ≤ maxLen → l0.length * 1 ≤ 140737488351232 → (∀ x ∈ l0, (Lit.int .u8 x).wf = true) → ∃ k, laws_FnSailWidths.f k l0 = some true

end
end Go.Proofs.Ytchngbjpjbahiaa.PSailw

