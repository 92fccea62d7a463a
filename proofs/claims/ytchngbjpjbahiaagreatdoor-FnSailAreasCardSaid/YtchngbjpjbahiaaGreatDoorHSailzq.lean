import Derived.Test.YtchngbjpjbahiaaGreatDoorHSailz0
import Derived.Test.YtchngbjpjbahiaaGreatDoorHSailza
import Derived.Test.YtchngbjpjbahiaaGreatDoorHSailzp
namespace Go.Proofs.YtchngbjpjbahiaaGreatDoor.PSailz
noncomputable section
open Go.RowKit Go.Proofs.YtchngbjpjbahiaaGreatDoorW.PrintWords Go.Proofs.YtchngbjpjbahiaaGreatDoorW.PrintLast Go.Proofs.YtchngbjpjbahiaaGreatDoorW.PrintMore
attribute [local go_sem] max2_int min2_int max_two min_two max_three min_three max_four min_four   -- for this text's walks alone
set_option linter.unusedVariables false
set_option linter.unusedSimpArgs false
set_option maxHeartbeats 8000000
set_option maxRecDepth 100000
attribute [local go_sem high] eqA47

def spec_l00Src_text.f (s0_0 : List Int) (s0_1 : Int) (s0_2 : Int) (l1 : List ByteArray) : Option (ByteArray × Int × Int) := (spec_l00Src_pick.f s0_0 s0_1 s0_2 (l1.length : Int)).bind fun bt461 => (if 0 ≤ bt461.1 then (if bt461.1 < (l1.length : Int) then (some (rdOf ByteArray.empty l1 bt461.1, bt461.2.1, bt461.2.2)) else (none)) else (none))
theorem spec_l00Src_text.calls (g : Nat) (s0_0 : List Int) (s0_1 : Int) (s0_2 : Int) (A1 : Option Addr) (c1 : Nat) (l1 : List ByteArray) (r1 : ByteArray) (r2 : Int) (r3 : Int) (w0 w : World) (hI : IsS72 w0 w g s0_0 s0_1 s0_2) (hB : Below w0.heap.size w0 w) (hr1 : Kd.C Kd.string w A1 l1.length l1) (hc1 : l1.length ≤ c1) (hf1 : ∀ ad, A1 = some ad → 0 < l1.length → ad.block ≠ g) (h : spec_l00Src_text.f s0_0 s0_1 s0_2 l1 = some (r1, r2, r3)) :
  Calls Tryz.prog 65 #[.pointer (some ⟨g, 0, none⟩), .slice A1 l1.length c1] w fun e w' => e = .returned (.string r1) ∧ IsS72 w0 w' g s0_0 r2 r3 ∧ Below w0.heap.size w0 w' ∧ KeepBut w w' g none := by
 have HR1 := zQ hr1
 have HC1 := zQ hc1
 clear hr1 hc1
 have HI0 := zQ hI
 have HK := zQ (KeepBut.refl w g none)
 have HL := zQ hB.size
 clear hI
 have HW0 := zQ hB.size
 have HB := zQ hB
 clear hB
 have H := h; unfold spec_l00Src_text.f at H
 clear h
 replace H := zob H; obtain ⟨⟨t461, t462, t463⟩, A3, H⟩ := H
 by_cases c4 : 0 ≤ t461
 ·rw [if_pos c4] at H
  have c4b0 := decide_eq_true c4; clear c4
  by_cases c5 : t461 < (l1.length : Int)
  ·rw [if_pos c5] at H
   have c5b0 := decide_eq_true c5; clear c5
   simp only [Option.some.injEq, Prod.mk.injEq] at H
   obtain ⟨rfl, rfl, rfl⟩ := H
   go_enter Tryz.func65, Tryz.ntmps65
   go_wp2_with (first | ((with_reducible refine zgc 27 ?_); refine goesL_ (some 9) rfl rfl Tryz.func27 (by kernel_rfl) rfl #[.pointer (some ⟨g, 0, none⟩), .int .i64 (l1.length : Int)] rfl zM ?_; (with_reducible refine (spec_l00Src_pick.calls g s0_0 s0_1 s0_2 (l1.length : Int) t461 t462 t463 w0 _ ?side1 ?side2 A3.out).mono ?_); (case side1 => repeat (first | (with_reducible first | exact HI0.out | apply IsS72.alloc | apply IsS72.drewN | apply IsS72.drew | apply IsS72.set_1 | apply IsS72.set_2) | exact HI0.out)); (case side2 => repeat (first | (with_reducible first | exact HB.out | apply below_alloc | apply pw_below_drewN | apply below_drew1 | refine below_set ?_ (IsS72.ge HI0.out)) | exact HB.out)); rintro e w6 ⟨rfl, hi, hb, hk⟩; refine ⟨_, rfl, ?_⟩; replace HK := zQ (KeepBut.trans (by repeat (first | (with_reducible first | exact HK.out | apply KeepBut.set_ | apply keep_drewN | apply keep_drew | apply keep_alloc) | exact HK.out)) hk (.inl rfl)); replace HB := zQ (hb); replace HI0 := zQ (hi); (try clear hb); (try clear hk); (try clear hi); have p464 : 0 ≤ (t461 : Int) := zD; have q464 : t461 < (l1.length : Int) := zD; obtain ⟨ad464, e464, hx464_0⟩ := Kd.at_string HR1.out t461 p464 q464; cases e464; replace hx464_0 := keep_cell HK.out hx464_0 (by first | (rw [add_block]; exact hf1 _ rfl (by omega)) | exact hf1 _ rfl (by omega) | exact hf1 ad464 rfl (by omega)); replace p464 := eq_true p464; replace q464 := eq_true q464))
   go_ret
   exact ⟨zE, by repeat (first | (with_reducible first | exact HI0.out | apply IsS72.alloc | apply IsS72.drewN | apply IsS72.drew | apply IsS72.set_1 | apply IsS72.set_2) | exact HI0.out), by repeat (first | (with_reducible first | exact HB.out | apply below_alloc | apply pw_below_drewN | apply below_drew1 | refine below_set ?_ (IsS72.ge HI0.out)) | exact HB.out), by repeat (first | (with_reducible first | exact HK.out | apply KeepBut.set_ | apply keep_drewN | apply keep_drew | apply keep_alloc) | exact HK.out)⟩
  ·rw [if_neg c5] at H
   exact absurd H (by simp)
 ·rw [if_neg c4] at H
  exact absurd H (by simp)

def spec_l01Spoil.f (s0_0 : List Int) (s0_1 : Int) (s0_2 : Int) (a1 : ByteArray) : Option (ByteArray × Int × Int) := (spec_l00Src_pick.f s0_0 s0_1 s0_2 5).bind fun bt465 => (if bt465.1 = 0 then ((spec_l00Src_pick.f s0_0 bt465.2.1 bt465.2.2 (wrap64 ((a1.size : Int) + 1))).bind fun bt468 => (if 0 ≤ bt468.1 then (if bt468.1 ≤ (a1.size : Int) then ((spec_l00Src_text.f s0_0 bt468.2.1 bt468.2.2 (([(⟨#[32]⟩ : ByteArray), (⟨#[48]⟩ : ByteArray), (⟨#[45]⟩ : ByteArray), (⟨#[120]⟩ : ByteArray), (⟨#[49]⟩ : ByteArray), (⟨#[57]⟩ : ByteArray), (⟨#[46]⟩ : ByteArray)] : List ByteArray))).bind fun bt474 => (if (a1.extract 0 (bt468.1 : Int).toNat).size + bt474.1.size ≤ 9223372036854775807 then (if ((a1.extract 0 (bt468.1 : Int).toNat) ++ bt474.1).size + (a1.extract (bt468.1 : Int).toNat a1.size).size ≤ 9223372036854775807 then (some (((a1.extract 0 (bt468.1 : Int).toNat) ++ bt474.1) ++ (a1.extract (bt468.1 : Int).toNat a1.size), bt474.2.1, bt474.2.2)) else (none)) else (none))) else (none)) else (none))) else (if bt465.1 = 1 then (if a1.toList = ([] : List UInt8) then (some (a1, bt465.2.1, bt465.2.2)) else ((spec_l00Src_pick.f s0_0 bt465.2.1 bt465.2.2 (a1.size : Int)).bind fun bt477 => (if 0 ≤ bt477.1 then (if bt477.1 ≤ (a1.size : Int) then (if 0 ≤ (wrap64 (bt477.1 + 1)) then (if (wrap64 (bt477.1 + 1)) ≤ (a1.size : Int) then (if (a1.extract 0 (bt477.1 : Int).toNat).size + (a1.extract ((wrap64 (bt477.1 + 1)) : Int).toNat a1.size).size ≤ 9223372036854775807 then (some ((a1.extract 0 (bt477.1 : Int).toNat) ++ (a1.extract ((wrap64 (bt477.1 + 1)) : Int).toNat a1.size), bt477.2.1, bt477.2.2)) else (none)) else (none)) else (none)) else (none)) else (none)))) else (some (a1, bt465.2.1, bt465.2.2))))
def spec_l01Spoil.T4 : Bool × List (List Nat × List Nat) := (true, [([], []), ([], []), ([0, 1], [0, 1]), ([], []), ([], []), ([3, 4], [3, 4]), ([2, 5], [2, 5]), ([], []), ([], []), ([7, 8], [7, 8]), ([6, 9], [6, 9]), ([10, 5, 0, 1, 2, 3, 4, 5, 6, 7, 8, 9, 10], [0, 7, 10])])
def spec_l01Spoil.B4 : List Nat := [0, 0, 3, 0, 0, 24, 63, 0, 0, 384, 1023, 2047]
theorem spec_l01Spoil.tab4 : rtab .any (opsOf Tryz.f45 4) = spec_l01Spoil.T4 := by kernel_rfl
theorem spec_l01Spoil.bits4 : waitsOk spec_l01Spoil.T4.2 spec_l01Spoil.B4 = true := by kernel_rfl
def spec_l01Spoil.T8 : Bool × List (List Nat × List Nat) := (true, [([], []), ([], []), ([0, 1], [0, 1]), ([], []), ([], []), ([4], [4]), ([3, 5], [3, 5]), ([2, 6], [2, 6]), ([7, 0, 1, 2, 3, 4, 5, 6, 7], [0, 3, 7])])
def spec_l01Spoil.B8 : List Nat := [0, 0, 3, 0, 0, 16, 56, 127, 255]
theorem spec_l01Spoil.tab8 : rtab .any (opsOf Tryz.f45 8) = spec_l01Spoil.T8 := by kernel_rfl
theorem spec_l01Spoil.bits8 : waitsOk spec_l01Spoil.T8.2 spec_l01Spoil.B8 = true := by kernel_rfl
theorem spec_l01Spoil.calls (g : Nat) (s0_0 : List Int) (s0_1 : Int) (s0_2 : Int) (a1 : ByteArray) (r1 : ByteArray) (r2 : Int) (r3 : Int) (w0 w : World) (hI : IsS72 w0 w g s0_0 s0_1 s0_2) (hB : Below w0.heap.size w0 w) (h : spec_l01Spoil.f s0_0 s0_1 s0_2 a1 = some (r1, r2, r3)) :
  Calls Tryz.prog 45 #[.pointer (some ⟨g, 0, none⟩), .string a1] w fun e w' => e = .returned (.string r1) ∧ IsS72 w0 w' g s0_0 r2 r3 ∧ Below w0.heap.size w0 w' ∧ KeepBut w w' g none := by
 have HI0 := zQ hI
 have HK := zQ (KeepBut.refl w g none)
 have HL := zQ hB.size
 clear hI
 have HW0 := zQ hB.size
 have HB := zQ hB
 clear hB
 have H := h; unfold spec_l01Spoil.f at H
 clear h
 replace H := zob H; obtain ⟨⟨t465, t466, t467⟩, A3, H⟩ := H
 by_cases c4 : t465 = 0
 ·rw [if_pos c4] at H
  have c4b0 : (t465 == 0) = true := beq_iff_eq.mpr c4; have c4b1 : (t465 != 0) = false := bne_eq_false_iff_eq.mpr c4; clear c4; replace H := zob H; obtain ⟨⟨t468, t469, t470⟩, A5, H⟩ := H
  by_cases c6 : 0 ≤ t468
  ·rw [if_pos c6] at H
   have c6b0 := eq_true c6; have c6b1 := decide_eq_true c6; clear c6
   by_cases c7 : t468 ≤ (a1.size : Int)
   ·rw [if_pos c7] at H
    have c7b0 := eq_true c7; have c7b1 := decide_eq_true c7; clear c7; obtain ⟨y471, hy471⟩ : ∃ y_ : List ByteArray, y_ = (([(⟨#[32]⟩ : ByteArray), (⟨#[48]⟩ : ByteArray), (⟨#[45]⟩ : ByteArray), (⟨#[120]⟩ : ByteArray), (⟨#[49]⟩ : ByteArray), (⟨#[57]⟩ : ByteArray), (⟨#[46]⟩ : ByteArray)] : List ByteArray)) := ⟨_, rfl⟩; replace H : ((spec_l00Src_text.f s0_0 t469 t470 y471).bind fun bt474 => (if (a1.extract 0 (t468 : Int).toNat).size + bt474.1.size ≤ 9223372036854775807 then (if ((a1.extract 0 (t468 : Int).toNat) ++ bt474.1).size + (a1.extract (t468 : Int).toNat a1.size).size ≤ 9223372036854775807 then (some (((a1.extract 0 (t468 : Int).toNat) ++ bt474.1) ++ (a1.extract (t468 : Int).toNat a1.size), bt474.2.1, bt474.2.2)) else (none)) else (none))) = some (r1, r2, r3) := zh H; have Ny471 := zQ hy471; clear hy471; replace H := zob H; obtain ⟨⟨t474, t475, t476⟩, A8, H⟩ := H
    by_cases c9 : (a1.extract 0 (t468 : Int).toNat).size + t474.size ≤ 9223372036854775807
    ·rw [if_pos c9] at H
     have c9b0 := eq_true c9; have c9b1 := decide_eq_true c9
     try have c9b2 : (9223372036854775807 < (a1.extract 0 (t468 : Int).toNat).size + t474.size) = False := eq_false (Nat.not_lt.2 c9)
     try have c9b4 : (9223372036854775807 < (t468 : Int).toNat + t474.size) = False := eq_false (by have h_ := c9; simp only [ByteArray.size_append, ByteArray.size_extract] at h_; (try have q0_ := of_eq_true c7b0); (try have q1_ := of_eq_true c6b0); omega)
     have c10b0 := eq_true (zD : 0 ≤ t468); have c11b0 := eq_true (zD : t468 ≤ (a1.size : Int))
     by_cases c12 : ((a1.extract 0 (t468 : Int).toNat) ++ t474).size + (a1.extract (t468 : Int).toNat a1.size).size ≤ 9223372036854775807
     ·rw [if_pos c12] at H
      have c12b0 := eq_true c12; have c12b1 := decide_eq_true c12
      try have c12b2 : (9223372036854775807 < ((a1.extract 0 (t468 : Int).toNat) ++ t474).size + (a1.extract (t468 : Int).toNat a1.size).size) = False := eq_false (Nat.not_lt.2 c12)
      try have c12b4 : (9223372036854775807 < (t468 : Int).toNat + t474.size + (a1.size - (t468 : Int).toNat)) = False := eq_false (by have h_ := c12; simp only [ByteArray.size_append, ByteArray.size_extract] at h_; (try have q0_ := of_eq_true c7b0); (try have q1_ := of_eq_true c6b0); omega)
      try have c12b3 := c12b2
      try simp only [ByteArray.size_append, show ((⟨#[44]⟩ : ByteArray)).size = 1 from rfl, show ((⟨#[45]⟩ : ByteArray)).size = 1 from rfl, show ((⟨#[32]⟩ : ByteArray)).size = 1 from rfl] at c12b3
      simp only [Option.some.injEq, Prod.mk.injEq] at H
      obtain ⟨rfl, rfl, rfl⟩ := H
      go_enter Tryz.func45, Tryz.ntmps45
      try go_wp2_with (first | ((with_reducible refine zgc 27 ?_); refine goesL_ (some 8) rfl rfl Tryz.func27 (by kernel_rfl) rfl #[.pointer (some ⟨g, 0, none⟩), .int .i64 5] rfl zM ?_; (with_reducible refine (spec_l00Src_pick.calls g s0_0 s0_1 s0_2 5 t465 t466 t467 w0 _ ?side1 ?side2 A3.out).mono ?_); (case side1 => repeat (first | (with_reducible first | exact HI0.out | apply IsS72.alloc | apply IsS72.drewN | apply IsS72.drew | apply IsS72.set_1 | apply IsS72.set_2) | exact HI0.out)); (case side2 => repeat (first | (with_reducible first | exact HB.out | apply below_alloc | apply pw_below_drewN | apply below_drew1 | refine below_set ?_ (IsS72.ge HI0.out)) | exact HB.out)); rintro e w13 ⟨rfl, hi, hb, hk⟩; refine ⟨_, rfl, ?_⟩; replace HK := zQ (KeepBut.trans (by repeat (first | (with_reducible first | exact HK.out | apply KeepBut.set_ | apply keep_drewN | apply keep_drew | apply keep_alloc) | exact HK.out)) hk (.inl rfl)); replace HB := zQ (hb); replace HI0 := zQ (hi); (try clear hb); (try clear hk); (try clear hi)) | ((with_reducible refine zgc 27 ?_); refine goesL_ (some 15) rfl rfl Tryz.func27 (by kernel_rfl) rfl #[.pointer (some ⟨g, 0, none⟩), .int .i64 (wrap64 ((a1.size : Int) + 1))] rfl zM ?_; (with_reducible refine (spec_l00Src_pick.calls g s0_0 t466 t467 (wrap64 ((a1.size : Int) + 1)) t468 t469 t470 w0 _ ?side1 ?side2 A5.out).mono ?_); (case side1 => repeat (first | (with_reducible first | exact HI0.out | apply IsS72.alloc | apply IsS72.drewN | apply IsS72.drew | apply IsS72.set_1 | apply IsS72.set_2) | exact HI0.out)); (case side2 => repeat (first | (with_reducible first | exact HB.out | apply below_alloc | apply pw_below_drewN | apply below_drew1 | refine below_set ?_ (IsS72.ge HI0.out)) | exact HB.out)); rintro e w14 ⟨rfl, hi, hb, hk⟩; refine ⟨_, rfl, ?_⟩; replace HK := zQ (KeepBut.trans (by repeat (first | (with_reducible first | exact HK.out | apply KeepBut.set_ | apply keep_drewN | apply keep_drew | apply keep_alloc) | exact HK.out)) hk (.inl rfl)); replace HB := zQ (hb); replace HI0 := zQ (hi); (try clear hb); (try clear hk); (try clear hi)))
      have n0_ := zQ (IsS72.drew HI0.out); have n1_ := zQ (keep_drew HK.out); have n2_ := zQ (below_drew1 HB.out); clear HI0; clear HK; clear HB; have HI0 := n0_; have HK := n1_; have HB := n2_; clear n0_ n1_ n2_
      refine zs (fun w' => True) [] 12 trivial (fun hHeld => ?_); refine with_tabW spec_l01Spoil.tab4 spec_l01Spoil.bits4 (fun HT_ HW_ => ?_)
      generalize w14.drew = w15 at HI0 HK HB hHeld ⊢
      refine zp 0 16 ?_
      refine zp 1 17 ?_
      refine zp 2 18 ?_
      refine zp 3 19 ?_
      refine zp 7 23 ?_
      refine zp 8 24 ?_
      refine zp 9 25 ?_
      refine zo 4 (some 20) (fun K hK => ?_)
      refine Kd.R_lit_step Kd.string _ 9 ?hg (N := 20) ?hd (xs := ([(⟨#[32]⟩ : ByteArray), (⟨#[48]⟩ : ByteArray), (⟨#[45]⟩ : ByteArray), (⟨#[120]⟩ : ByteArray), (⟨#[49]⟩ : ByteArray), (⟨#[57]⟩ : ByteArray), (⟨#[46]⟩ : ByteArray)] : List ByteArray)) (inner := [.string (⟨#[32]⟩ : ByteArray), .string (⟨#[48]⟩ : ByteArray), .string (⟨#[45]⟩ : ByteArray), .string (⟨#[120]⟩ : ByteArray), .string (⟨#[49]⟩ : ByteArray), .string (⟨#[57]⟩ : ByteArray), .string (⟨#[46]⟩ : ByteArray)]) (ok := fun _ => True) (okp := fun _ => True) ?hr ?hp (fun _ hk => hk) trivial (Below.refl _ _) (Nat.le_refl _) (by simp) ?_; (case hd => rfl); (case hg => rfl); (case hr => first | (go_simp; done) | (go_simp; rfl)); (case hp => exact (Reps.one (show Kd.M Kd.string _ _ _ (⟨#[32]⟩ : ByteArray) [.string (⟨#[32]⟩ : ByteArray)] from rfl) (Reps.one (show Kd.M Kd.string _ _ _ (⟨#[48]⟩ : ByteArray) [.string (⟨#[48]⟩ : ByteArray)] from rfl) (Reps.one (show Kd.M Kd.string _ _ _ (⟨#[45]⟩ : ByteArray) [.string (⟨#[45]⟩ : ByteArray)] from rfl) (Reps.one (show Kd.M Kd.string _ _ _ (⟨#[120]⟩ : ByteArray) [.string (⟨#[120]⟩ : ByteArray)] from rfl) (Reps.one (show Kd.M Kd.string _ _ _ (⟨#[49]⟩ : ByteArray) [.string (⟨#[49]⟩ : ByteArray)] from rfl) (Reps.one (show Kd.M Kd.string _ _ _ (⟨#[57]⟩ : ByteArray) [.string (⟨#[57]⟩ : ByteArray)] from rfl) (Reps.one (show Kd.M Kd.string _ _ _ (⟨#[46]⟩ : ByteArray) [.string (⟨#[46]⟩ : ByteArray)] from rfl) (Reps.none _ _)))))))))
      intro v472 w16 ho17 hb hg_ hnew_
      clear hg_ hnew_
      (first | rw [← Ny471.out] at ho17 | (simp only [Int.reduceToNat] at ho17; rw [← Ny471.out] at ho17))
      have n0_ := zQ (Kd.R_lower ho17 (keep_size (w := w) (g := g) (row := none) (by repeat (first | (with_reducible first | exact HK.out | apply KeepBut.set_ | apply keep_drewN | apply keep_drew | apply keep_alloc) | exact HK.out)))); have n1_ := zQ (IsS72.below (by repeat (first | (with_reducible first | exact HI0.out | apply IsS72.alloc | apply IsS72.drewN | apply IsS72.drew | apply IsS72.set_1 | apply IsS72.set_2) | exact HI0.out)) hb); have n2_ := zQ (KeepBut.trans (by repeat (first | (with_reducible first | exact HK.out | apply KeepBut.set_ | apply keep_drewN | apply keep_drew | apply keep_alloc) | exact HK.out)) (KeepBut.of_below hb g none) (.inl rfl)); have n3_ := zQ (below_step (by repeat (first | (with_reducible first | exact HB.out | apply below_alloc | apply pw_below_drewN | apply below_drew1 | refine below_set ?_ (IsS72.ge HI0.out)) | exact HB.out)) hb); clear HI0; clear HK; clear HB; have HO473 := n0_; have HI0 := n1_; have HK := n2_; have HB := n3_; clear n0_ n1_ n2_ n3_; clear hb ho17; obtain ⟨Ao18, co18, eo18⟩ := Kd.R_slice HO473.out
      (first | subst eo18 | (injection eo18 with f1_ f2_ f3_; have f4_ := f1_.symm; have f5_ := f3_.symm; clear f1_ f2_ f3_; subst f4_; subst f5_))
      refine hK.out _ _ trivial (fun hHeld => ?_)
      clear hK K
      refine zn 20 ?_
      refine zo 5 (some 21) (fun K hK => ?_)
      refine goes_ Tryz.func65 (by kernel_rfl) rfl #[.pointer (some ⟨g, 0, none⟩), .slice Ao18 y471.length co18] (by rfl) rfl rfl zM ?_
      with_reducible refine (spec_l00Src_text.calls g s0_0 t469 t470 _ _ y471 t474 t475 t476 w0 _ ?side1 ?side2 ?side3 ?side4 ?side5 A8.out).mono ?_
      (case side1 => repeat (first | (with_reducible first | exact HI0.out | apply IsS72.alloc | apply IsS72.drewN | apply IsS72.drew | apply IsS72.set_1 | apply IsS72.set_2) | exact HI0.out))
      (case side2 => repeat (first | (with_reducible first | exact HB.out | apply below_alloc | apply pw_below_drewN | apply below_drew1 | refine below_set ?_ (IsS72.ge HI0.out)) | exact HB.out))
      (case side3 => exact zk (Kd.R_reads' HO473.out).2.2)
      (case side4 => exact (Kd.R_reads' HO473.out).2.1)
      (case side5 => exact far_slice (IsS72.own_ne HI0.out HO473.out (by decide)))
      rintro e w19 ⟨rfl, hi, hb, hk⟩
      refine ⟨_, rfl, ?_⟩
      have n0_ := zQ (Kd.R_mono (Kd.R_keep (IsS72.apart (show IsS72 w0 _ g s0_0 t469 t470 from by repeat (first | (with_reducible first | exact HI0.out | apply IsS72.alloc | apply IsS72.drewN | apply IsS72.drew | apply IsS72.set_1 | apply IsS72.set_2) | exact HI0.out)) (zR HO473.out) (by decide)) hk (fun _ h => h.2)) (fun _ h => h.1)); have n1_ := zQ (KeepBut.trans (by repeat (first | (with_reducible first | exact HK.out | apply KeepBut.set_ | apply keep_drewN | apply keep_drew | apply keep_alloc) | exact HK.out)) hk (.inl rfl)); have n2_ := zQ (hb); have n3_ := zQ (hi); clear HO473; clear HK; clear HB; clear HI0; have HO473 := n0_; have HK := n1_; have HB := n2_; have HI0 := n3_; clear n0_ n1_ n2_ n3_
      (try clear hb)
      (try clear hb2)
      (try clear hk)
      (try clear hi)
      refine hK.out _ _ trivial (fun hHeld => ?_)
      clear hK K
      refine zn 21 ?_
      refine zp 6 22 ?_
      refine zp 10 26 ?_
      refine zp 11 1 ?_
      refine done_ (done_of HT_.out (by kernel_rfl)) ?_
      try go_wp2
      go_ret
      exact ⟨zE, by repeat (first | (with_reducible first | exact HI0.out | apply IsS72.alloc | apply IsS72.drewN | apply IsS72.drew | apply IsS72.set_1 | apply IsS72.set_2) | exact HI0.out), by repeat (first | (with_reducible first | exact HB.out | apply below_alloc | apply pw_below_drewN | apply below_drew1 | refine below_set ?_ (IsS72.ge HI0.out)) | exact HB.out), by repeat (first | (with_reducible first | exact HK.out | apply KeepBut.set_ | apply keep_drewN | apply keep_drew | apply keep_alloc) | exact HK.out)⟩
     ·rw [if_neg c12] at H
      exact absurd H (by simp)
    ·rw [if_neg c9] at H
     exact absurd H (by simp)
   ·rw [if_neg c7] at H
    exact absurd H (by simp)
  ·rw [if_neg c6] at H
   exact absurd H (by simp)
 ·rw [if_neg c4] at H
  have c4b0 : (t465 == 0) = false := beq_eq_false_iff_ne.mpr c4; have c4b1 : (t465 != 0) = true := bne_iff_ne.mpr c4
  by_cases c20 : t465 = 1
  ·rw [if_pos c20] at H
   have c20b0 : (t465 == 1) = true := beq_iff_eq.mpr c20; have c20b1 : (t465 != 1) = false := bne_eq_false_iff_eq.mpr c20; clear c20
   by_cases c21 : a1.toList = ([] : List UInt8)
   ·rw [if_pos c21] at H
    have c21b0 : (a1.toList == ([] : List UInt8)) = true := beq_iff_eq.mpr c21; have c21b1 : (a1.toList != ([] : List UInt8)) = false := bne_eq_false_iff_eq.mpr c21; clear c21
    simp only [Option.some.injEq, Prod.mk.injEq] at H
    obtain ⟨rfl, rfl, rfl⟩ := H
    go_enter Tryz.func45, Tryz.ntmps45
    go_wp2_with (first | ((with_reducible refine zgc 27 ?_); refine goesL_ (some 8) rfl rfl Tryz.func27 (by kernel_rfl) rfl #[.pointer (some ⟨g, 0, none⟩), .int .i64 5] rfl zM ?_; (with_reducible refine (spec_l00Src_pick.calls g s0_0 s0_1 s0_2 5 t465 t466 t467 w0 _ ?side1 ?side2 A3.out).mono ?_); (case side1 => repeat (first | (with_reducible first | exact HI0.out | apply IsS72.alloc | apply IsS72.drewN | apply IsS72.drew | apply IsS72.set_1 | apply IsS72.set_2) | exact HI0.out)); (case side2 => repeat (first | (with_reducible first | exact HB.out | apply below_alloc | apply pw_below_drewN | apply below_drew1 | refine below_set ?_ (IsS72.ge HI0.out)) | exact HB.out)); rintro e w22 ⟨rfl, hi, hb, hk⟩; refine ⟨_, rfl, ?_⟩; replace HK := zQ (KeepBut.trans (by repeat (first | (with_reducible first | exact HK.out | apply KeepBut.set_ | apply keep_drewN | apply keep_drew | apply keep_alloc) | exact HK.out)) hk (.inl rfl)); replace HB := zQ (hb); replace HI0 := zQ (hi); (try clear hb); (try clear hk); (try clear hi)))
    go_ret
    exact ⟨zE, by repeat (first | (with_reducible first | exact HI0.out | apply IsS72.alloc | apply IsS72.drewN | apply IsS72.drew | apply IsS72.set_1 | apply IsS72.set_2) | exact HI0.out), by repeat (first | (with_reducible first | exact HB.out | apply below_alloc | apply pw_below_drewN | apply below_drew1 | refine below_set ?_ (IsS72.ge HI0.out)) | exact HB.out), by repeat (first | (with_reducible first | exact HK.out | apply KeepBut.set_ | apply keep_drewN | apply keep_drew | apply keep_alloc) | exact HK.out)⟩
   ·rw [if_neg c21] at H
    have c21b0 : (a1.toList == ([] : List UInt8)) = false := beq_eq_false_iff_ne.mpr c21; have c21b1 : (a1.toList != ([] : List UInt8)) = true := bne_iff_ne.mpr c21; replace H := zob H; obtain ⟨⟨t477, t478, t479⟩, A23, H⟩ := H
    by_cases c24 : 0 ≤ t477
    ·rw [if_pos c24] at H
     have c24b0 := eq_true c24; have c24b1 := decide_eq_true c24; clear c24
     by_cases c25 : t477 ≤ (a1.size : Int)
     ·rw [if_pos c25] at H
      have c25b0 := eq_true c25; have c25b1 := decide_eq_true c25; clear c25; obtain ⟨ji26, hji26⟩ : ∃ j_ : Int, (wrap64 (t477 + 1)) = j_ := ⟨_, rfl⟩
      replace H : (if 0 ≤ (ji26) then (if (ji26) ≤ (a1.size : Int) then (if (a1.extract 0 (t477 : Int).toNat).size + (a1.extract ((ji26) : Int).toNat a1.size).size ≤ 9223372036854775807 then (some ((a1.extract 0 (t477 : Int).toNat) ++ (a1.extract ((ji26) : Int).toNat a1.size), t478, t479)) else (none)) else (none)) else (none)) = some (r1, r2, r3) := by first | (rw [hji26] at H; exact H) | (simp only [hji26] at H ⊢; exact H)
      (try rw [hji26] at A3)
      (try rw [hji26] at A23)
      have hji26w : (IntKind.i64.wrap (t477 + 1)) = ji26 := (i64_w _).trans hji26
      by_cases c27 : 0 ≤ (ji26)
      ·rw [if_pos c27] at H
       have c27b0 := eq_true c27; have c27b1 := decide_eq_true c27; clear c27
       by_cases c28 : (ji26) ≤ (a1.size : Int)
       ·rw [if_pos c28] at H
        have c28b0 := eq_true c28; have c28b1 := decide_eq_true c28; clear c28
        by_cases c29 : (a1.extract 0 (t477 : Int).toNat).size + (a1.extract ((ji26) : Int).toNat a1.size).size ≤ 9223372036854775807
        ·rw [if_pos c29] at H
         have c29b0 := eq_true c29; have c29b1 := decide_eq_true c29
         try have c29b2 : (9223372036854775807 < (a1.extract 0 (t477 : Int).toNat).size + (a1.extract ((ji26) : Int).toNat a1.size).size) = False := eq_false (Nat.not_lt.2 c29)
         try have c29b4 : (9223372036854775807 < (t477 : Int).toNat + (a1.size - (ji26 : Int).toNat)) = False := eq_false (by have h_ := c29; simp only [ByteArray.size_append, ByteArray.size_extract] at h_; (try have q0_ := of_eq_true c28b0); (try have q1_ := of_eq_true c27b0); (try have q2_ := of_eq_true c25b0); (try have q3_ := of_eq_true c24b0); (try have q4_ := of_eq_true c7b0); (try have q5_ := of_eq_true c6b0); omega)
         simp only [Option.some.injEq, Prod.mk.injEq] at H
         obtain ⟨rfl, rfl, rfl⟩ := H
         go_enter Tryz.func45, Tryz.ntmps45
         try go_wp2_with (first | ((with_reducible refine zgc 27 ?_); refine goesL_ (some 8) rfl rfl Tryz.func27 (by kernel_rfl) rfl #[.pointer (some ⟨g, 0, none⟩), .int .i64 5] rfl zM ?_; (with_reducible refine (spec_l00Src_pick.calls g s0_0 s0_1 s0_2 5 t465 t466 t467 w0 _ ?side1 ?side2 A3.out).mono ?_); (case side1 => repeat (first | (with_reducible first | exact HI0.out | apply IsS72.alloc | apply IsS72.drewN | apply IsS72.drew | apply IsS72.set_1 | apply IsS72.set_2) | exact HI0.out)); (case side2 => repeat (first | (with_reducible first | exact HB.out | apply below_alloc | apply pw_below_drewN | apply below_drew1 | refine below_set ?_ (IsS72.ge HI0.out)) | exact HB.out)); rintro e w30 ⟨rfl, hi, hb, hk⟩; refine ⟨_, rfl, ?_⟩; replace HK := zQ (KeepBut.trans (by repeat (first | (with_reducible first | exact HK.out | apply KeepBut.set_ | apply keep_drewN | apply keep_drew | apply keep_alloc) | exact HK.out)) hk (.inl rfl)); replace HB := zQ (hb); replace HI0 := zQ (hi); (try clear hb); (try clear hk); (try clear hi)) | ((with_reducible refine zgc 27 ?_); refine goesL_ (some 34) rfl rfl Tryz.func27 (by kernel_rfl) rfl #[.pointer (some ⟨g, 0, none⟩), .int .i64 (a1.size : Int)] rfl zM ?_; (with_reducible refine (spec_l00Src_pick.calls g s0_0 t466 t467 (a1.size : Int) t477 t478 t479 w0 _ ?side1 ?side2 A23.out).mono ?_); (case side1 => repeat (first | (with_reducible first | exact HI0.out | apply IsS72.alloc | apply IsS72.drewN | apply IsS72.drew | apply IsS72.set_1 | apply IsS72.set_2) | exact HI0.out)); (case side2 => repeat (first | (with_reducible first | exact HB.out | apply below_alloc | apply pw_below_drewN | apply below_drew1 | refine below_set ?_ (IsS72.ge HI0.out)) | exact HB.out)); rintro e w31 ⟨rfl, hi, hb, hk⟩; refine ⟨_, rfl, ?_⟩; replace HK := zQ (KeepBut.trans (by repeat (first | (with_reducible first | exact HK.out | apply KeepBut.set_ | apply keep_drewN | apply keep_drew | apply keep_alloc) | exact HK.out)) hk (.inl rfl)); replace HB := zQ (hb); replace HI0 := zQ (hi); (try clear hb); (try clear hk); (try clear hi)))
         have n0_ := zQ (IsS72.drew HI0.out); have n1_ := zQ (keep_drew HK.out); have n2_ := zQ (below_drew1 HB.out); clear HI0; clear HK; clear HB; have HI0 := n0_; have HK := n1_; have HB := n2_; clear n0_ n1_ n2_
         refine zs (fun w' => True) [] 9 trivial (fun hHeld => ?_); refine with_tabW spec_l01Spoil.tab8 spec_l01Spoil.bits8 (fun HT_ HW_ => ?_)
         generalize w31.drew = w32 at HI0 HK HB hHeld ⊢
         refine zp 0 35 ?_
         refine zp 1 36 ?_
         refine zp 2 37 ?_
         refine zp 3 38 ?_
         refine zp 4 39 ?_
         refine zp 5 40 ?_
         refine zp 6 41 ?_
         refine zp 7 42 ?_
         refine zp 8 1 ?_
         refine done_ (done_of HT_.out (by kernel_rfl)) ?_
         try go_wp2
         go_ret
         exact ⟨by first | rfl | (simp [errW_none, errW_some] <;> rfl) | (simp only [← hji26]; first | rfl | (simp [errW_none, errW_some] <;> rfl)) | (simp [*, errW_none, errW_some] <;> rfl), by repeat (first | (with_reducible first | exact HI0.out | apply IsS72.alloc | apply IsS72.drewN | apply IsS72.drew | apply IsS72.set_1 | apply IsS72.set_2) | exact HI0.out), by repeat (first | (with_reducible first | exact HB.out | apply below_alloc | apply pw_below_drewN | apply below_drew1 | refine below_set ?_ (IsS72.ge HI0.out)) | exact HB.out), by repeat (first | (with_reducible first | exact HK.out | apply KeepBut.set_ | apply keep_drewN | apply keep_drew | apply keep_alloc) | exact HK.out)⟩
        ·rw [if_neg c29] at H
         exact absurd H (by simp)
       ·rw [if_neg c28] at H
        exact absurd H (by simp)
      ·rw [if_neg c27] at H
       exact absurd H (by simp)
     ·rw [if_neg c25] at H
      exact absurd H (by simp)
    ·rw [if_neg c24] at H
     exact absurd H (by simp)
  ·rw [if_neg c20] at H
   have c20b0 : (t465 == 1) = false := beq_eq_false_iff_ne.mpr c20; have c20b1 : (t465 != 1) = true := bne_iff_ne.mpr c20
   simp only [Option.some.injEq, Prod.mk.injEq] at H
   obtain ⟨rfl, rfl, rfl⟩ := H
   go_enter Tryz.func45, Tryz.ntmps45
   go_wp2_with (first | ((with_reducible refine zgc 27 ?_); refine goesL_ (some 8) rfl rfl Tryz.func27 (by kernel_rfl) rfl #[.pointer (some ⟨g, 0, none⟩), .int .i64 5] rfl zM ?_; (with_reducible refine (spec_l00Src_pick.calls g s0_0 s0_1 s0_2 5 t465 t466 t467 w0 _ ?side1 ?side2 A3.out).mono ?_); (case side1 => repeat (first | (with_reducible first | exact HI0.out | apply IsS72.alloc | apply IsS72.drewN | apply IsS72.drew | apply IsS72.set_1 | apply IsS72.set_2) | exact HI0.out)); (case side2 => repeat (first | (with_reducible first | exact HB.out | apply below_alloc | apply pw_below_drewN | apply below_drew1 | refine below_set ?_ (IsS72.ge HI0.out)) | exact HB.out)); rintro e w33 ⟨rfl, hi, hb, hk⟩; refine ⟨_, rfl, ?_⟩; replace HK := zQ (KeepBut.trans (by repeat (first | (with_reducible first | exact HK.out | apply KeepBut.set_ | apply keep_drewN | apply keep_drew | apply keep_alloc) | exact HK.out)) hk (.inl rfl)); replace HB := zQ (hb); replace HI0 := zQ (hi); (try clear hb); (try clear hk); (try clear hi)))
   go_ret
   exact ⟨zE, by repeat (first | (with_reducible first | exact HI0.out | apply IsS72.alloc | apply IsS72.drewN | apply IsS72.drew | apply IsS72.set_1 | apply IsS72.set_2) | exact HI0.out), by repeat (first | (with_reducible first | exact HB.out | apply below_alloc | apply pw_below_drewN | apply below_drew1 | refine below_set ?_ (IsS72.ge HI0.out)) | exact HB.out), by repeat (first | (with_reducible first | exact HK.out | apply KeepBut.set_ | apply keep_drewN | apply keep_drew | apply keep_alloc) | exact HK.out)⟩

def spec_DrawReadSail.f (k : Nat) (l0 : List Int) : Option (ByteArray) := (spec_l00From.f l0).bind fun bt480 => ((spec_l13Draw.f bt480.1 bt480.2.1 bt480.2.2).bind fun bt484 => ((spec_l13Text.f k bt484.1).bind fun t489 => ((spec_l00Src_one.f bt480.1 bt484.2.1 bt484.2.2 3).bind fun bt490 => (if bt490.1 = true then ((spec_l01Spoil.f bt480.1 bt490.2.1 bt490.2.2 t489).bind fun bt493 => (some bt493.1)) else (some t489)))))
theorem spec_DrawReadSail.calls (k : Nat) (A0 : Option Addr) (c0 : Nat) (l0 : List Int) (r : ByteArray) (w : World) (hr0 : Kd.C (Kd.int .u8) w A0 l0.length l0) (hc0 : l0.length ≤ c0) (h : spec_DrawReadSail.f k l0 = some r) :
  Calls Tryz.prog 15 #[.slice A0 l0.length c0] w fun e w' => e = .returned (.string r) ∧ Below w.heap.size w w' := by
 have HR0 := zQ hr0
 have HC0 := zQ hc0
 clear hr0 hc0
 have HB := zQ (Below.refl w.heap.size w)
 have H := h; unfold spec_DrawReadSail.f at H
 clear h
 replace H := zob H; obtain ⟨⟨t480, t481, t482⟩, A2, H⟩ := H
 replace H := zob H; obtain ⟨⟨t484, t487, t488⟩, A3, H⟩ := H
 replace H := zob H; obtain ⟨t489, A4, H⟩ := H
 replace H := zob H; obtain ⟨⟨t490, t491, t492⟩, A5, H⟩ := H
 by_cases c6 : t490 = true
 ·subst c6
  rw [if_pos rfl] at H; replace H := zob H; obtain ⟨⟨t493, t494, t495⟩, A7, H⟩ := H; obtain rfl := Option.some.inj H
  go_enter Tryz.func15, Tryz.ntmps15
  go_wp2_with (first | ((with_reducible refine zgc 25 ?_); refine goesL_ (some 6) rfl rfl Tryz.func25 (by kernel_rfl) rfl #[.slice A0 l0.length c0] rfl zM ?_; (with_reducible refine (spec_l00From.calls _ _ l0 t480 t481 t482 w _ ?side1 HR0.out HC0.out A2.out).mono ?_); (case side1 => exact zB HB.out); rintro e w8 ⟨g483, rfl, hi, hb, hb2⟩; refine ⟨_, rfl, ?_⟩; have HI483 := zQ (hi); replace HB := zQ (hb); (try clear hb); (try clear hb2); (try clear hi)) | ((with_reducible refine zgc 44 ?_); refine goesL_ (some 8) rfl rfl Tryz.func44 (by kernel_rfl) rfl #[.pointer (some ⟨g483, 0, none⟩)] rfl zM ?_; (with_reducible refine (spec_l13Draw.calls g483 t480 t481 t482 t484 t487 t488 w _ ?side1 ?side2 A3.out).mono ?_); (case side1 => repeat (first | (with_reducible first | exact HI483.out | apply IsS72.alloc | apply IsS72.drewN | apply IsS72.drew | apply IsS72.set_1 | apply IsS72.set_2) | exact HI483.out)); (case side2 => repeat (first | (with_reducible first | exact HB.out | apply below_alloc | apply pw_below_drewN | apply below_drew1 | refine below_set ?_ (IsS72.ge HI483.out)) | exact HB.out)); rintro e w9 ⟨v485, rfl, ho0, hi, hb, hk⟩; refine ⟨_, rfl, ?_⟩; have HO486 := zQ (Kd.R_lower ho0 (below_size (by repeat (first | (with_reducible first | exact HB.out | apply below_alloc | apply pw_below_drewN | apply below_drew1 | refine below_set ?_ (IsS72.ge HI483.out)) | exact HB.out)))); replace HB := zQ (hb); replace HI483 := zQ (hi); (try clear hb); (try clear hk); (try clear hi); (try clear ho0); obtain ⟨Ao10, co10, eo10⟩ := Kd.R_slice HO486.out; subst eo10) | ((with_reducible refine zgc 43 ?_); refine goesL_ (some 9) rfl rfl Tryz.func43 (by kernel_rfl) rfl #[.slice Ao10 t484.length co10] rfl zM ?_; (with_reducible refine (spec_l13Text.calls k _ _ t484 t489 _ ?side1 ((Kd.R_reads' HO486.out).2.1) A4.out).mono ?_); (case side1 => exact zk (Kd.R_reads' HO486.out).2.2); rintro e w11 ⟨rfl, hb⟩; refine ⟨_, rfl, ?_⟩; replace HO486 := zRb HO486.out hb; replace HB := zQ (below_step (by repeat (first | (with_reducible first | exact HB.out | apply below_alloc | apply pw_below_drewN | apply below_drew1 | refine below_set ?_ (IsS72.ge HI483.out)) | exact HB.out)) hb); replace HI483 := zQ (IsS72.below (by repeat (first | (with_reducible first | exact HI483.out | apply IsS72.alloc | apply IsS72.drewN | apply IsS72.drew | apply IsS72.set_1 | apply IsS72.set_2) | exact HI483.out)) hb); (try clear hb)) | ((with_reducible refine zgc 28 ?_); refine goesL_ (some 11) rfl rfl Tryz.func28 (by kernel_rfl) rfl #[.pointer (some ⟨g483, 0, none⟩), .int .i64 3] rfl zM ?_; (with_reducible refine (spec_l00Src_one.calls g483 t480 t487 t488 3 true t491 t492 w _ ?side1 ?side2 A5.out).mono ?_); (case side1 => repeat (first | (with_reducible first | exact HI483.out | apply IsS72.alloc | apply IsS72.drewN | apply IsS72.drew | apply IsS72.set_1 | apply IsS72.set_2) | exact HI483.out)); (case side2 => repeat (first | (with_reducible first | exact HB.out | apply below_alloc | apply pw_below_drewN | apply below_drew1 | refine below_set ?_ (IsS72.ge HI483.out)) | exact HB.out)); rintro e w12 ⟨rfl, hi, hb, hk⟩; refine ⟨_, rfl, ?_⟩; replace HO486 := zQ (Kd.R_mono (Kd.R_keep (IsS72.apart (show IsS72 w _ g483 t480 t487 t488 from by repeat (first | (with_reducible first | exact HI483.out | apply IsS72.alloc | apply IsS72.drewN | apply IsS72.drew | apply IsS72.set_1 | apply IsS72.set_2) | exact HI483.out)) (zR HO486.out) (by decide)) hk (fun _ h => h.2)) (fun _ h => h.1)); replace HB := zQ (hb); replace HI483 := zQ (hi); (try clear hb); (try clear hk); (try clear hi)) | ((with_reducible refine zgc 45 ?_); refine goesL_ (some 14) rfl rfl Tryz.func45 (by kernel_rfl) rfl #[.pointer (some ⟨g483, 0, none⟩), .string t489] rfl zM ?_; (with_reducible refine (spec_l01Spoil.calls g483 t480 t491 t492 t489 t493 t494 t495 w _ ?side1 ?side2 A7.out).mono ?_); (case side1 => repeat (first | (with_reducible first | exact HI483.out | apply IsS72.alloc | apply IsS72.drewN | apply IsS72.drew | apply IsS72.set_1 | apply IsS72.set_2) | exact HI483.out)); (case side2 => repeat (first | (with_reducible first | exact HB.out | apply below_alloc | apply pw_below_drewN | apply below_drew1 | refine below_set ?_ (IsS72.ge HI483.out)) | exact HB.out)); rintro e w13 ⟨rfl, hi, hb, hk⟩; refine ⟨_, rfl, ?_⟩; replace HO486 := zQ (Kd.R_mono (Kd.R_keep (IsS72.apart (show IsS72 w _ g483 t480 t491 t492 from by repeat (first | (with_reducible first | exact HI483.out | apply IsS72.alloc | apply IsS72.drewN | apply IsS72.drew | apply IsS72.set_1 | apply IsS72.set_2) | exact HI483.out)) (zR HO486.out) (by decide)) hk (fun _ h => h.2)) (fun _ h => h.1)); replace HB := zQ (hb); replace HI483 := zQ (hi); (try clear hb); (try clear hk); (try clear hi)))
  go_ret
  exact ⟨zE, by repeat (first | (with_reducible first | exact HB.out | apply below_alloc | apply pw_below_drewN | apply below_drew1 | refine below_set ?_ (IsS72.ge HI483.out)) | exact HB.out)⟩
 ·replace c6 := Bool.eq_false_iff.mpr c6
  subst c6
  rw [if_neg Bool.false_ne_true] at H; obtain rfl := Option.some.inj H
  go_enter Tryz.func15, Tryz.ntmps15
  go_wp2_with (first | ((with_reducible refine zgc 25 ?_); refine goesL_ (some 6) rfl rfl Tryz.func25 (by kernel_rfl) rfl #[.slice A0 l0.length c0] rfl zM ?_; (with_reducible refine (spec_l00From.calls _ _ l0 t480 t481 t482 w _ ?side1 HR0.out HC0.out A2.out).mono ?_); (case side1 => exact zB HB.out); rintro e w14 ⟨g483, rfl, hi, hb, hb2⟩; refine ⟨_, rfl, ?_⟩; have HI483 := zQ (hi); replace HB := zQ (hb); (try clear hb); (try clear hb2); (try clear hi)) | ((with_reducible refine zgc 44 ?_); refine goesL_ (some 8) rfl rfl Tryz.func44 (by kernel_rfl) rfl #[.pointer (some ⟨g483, 0, none⟩)] rfl zM ?_; (with_reducible refine (spec_l13Draw.calls g483 t480 t481 t482 t484 t487 t488 w _ ?side1 ?side2 A3.out).mono ?_); (case side1 => repeat (first | (with_reducible first | exact HI483.out | apply IsS72.alloc | apply IsS72.drewN | apply IsS72.drew | apply IsS72.set_1 | apply IsS72.set_2) | exact HI483.out)); (case side2 => repeat (first | (with_reducible first | exact HB.out | apply below_alloc | apply pw_below_drewN | apply below_drew1 | refine below_set ?_ (IsS72.ge HI483.out)) | exact HB.out)); rintro e w15 ⟨v485, rfl, ho0, hi, hb, hk⟩; refine ⟨_, rfl, ?_⟩; have HO486 := zQ (Kd.R_lower ho0 (below_size (by repeat (first | (with_reducible first | exact HB.out | apply below_alloc | apply pw_below_drewN | apply below_drew1 | refine below_set ?_ (IsS72.ge HI483.out)) | exact HB.out)))); replace HB := zQ (hb); replace HI483 := zQ (hi); (try clear hb); (try clear hk); (try clear hi); (try clear ho0); obtain ⟨Ao16, co16, eo16⟩ := Kd.R_slice HO486.out; subst eo16) | ((with_reducible refine zgc 43 ?_); refine goesL_ (some 9) rfl rfl Tryz.func43 (by kernel_rfl) rfl #[.slice Ao16 t484.length co16] rfl zM ?_; (with_reducible refine (spec_l13Text.calls k _ _ t484 t489 _ ?side1 ((Kd.R_reads' HO486.out).2.1) A4.out).mono ?_); (case side1 => exact zk (Kd.R_reads' HO486.out).2.2); rintro e w17 ⟨rfl, hb⟩; refine ⟨_, rfl, ?_⟩; replace HO486 := zRb HO486.out hb; replace HB := zQ (below_step (by repeat (first | (with_reducible first | exact HB.out | apply below_alloc | apply pw_below_drewN | apply below_drew1 | refine below_set ?_ (IsS72.ge HI483.out)) | exact HB.out)) hb); replace HI483 := zQ (IsS72.below (by repeat (first | (with_reducible first | exact HI483.out | apply IsS72.alloc | apply IsS72.drewN | apply IsS72.drew | apply IsS72.set_1 | apply IsS72.set_2) | exact HI483.out)) hb); (try clear hb)) | ((with_reducible refine zgc 28 ?_); refine goesL_ (some 11) rfl rfl Tryz.func28 (by kernel_rfl) rfl #[.pointer (some ⟨g483, 0, none⟩), .int .i64 3] rfl zM ?_; (with_reducible refine (spec_l00Src_one.calls g483 t480 t487 t488 3 false t491 t492 w _ ?side1 ?side2 A5.out).mono ?_); (case side1 => repeat (first | (with_reducible first | exact HI483.out | apply IsS72.alloc | apply IsS72.drewN | apply IsS72.drew | apply IsS72.set_1 | apply IsS72.set_2) | exact HI483.out)); (case side2 => repeat (first | (with_reducible first | exact HB.out | apply below_alloc | apply pw_below_drewN | apply below_drew1 | refine below_set ?_ (IsS72.ge HI483.out)) | exact HB.out)); rintro e w18 ⟨rfl, hi, hb, hk⟩; refine ⟨_, rfl, ?_⟩; replace HO486 := zQ (Kd.R_mono (Kd.R_keep (IsS72.apart (show IsS72 w _ g483 t480 t487 t488 from by repeat (first | (with_reducible first | exact HI483.out | apply IsS72.alloc | apply IsS72.drewN | apply IsS72.drew | apply IsS72.set_1 | apply IsS72.set_2) | exact HI483.out)) (zR HO486.out) (by decide)) hk (fun _ h => h.2)) (fun _ h => h.1)); replace HB := zQ (hb); replace HI483 := zQ (hi); (try clear hb); (try clear hk); (try clear hi)))
  go_ret
  exact ⟨zE, by repeat (first | (with_reducible first | exact HB.out | apply below_alloc | apply pw_below_drewN | apply below_drew1 | refine below_set ?_ (IsS72.ge HI483.out)) | exact HB.out)⟩

def spec_DrawSameSail.j0 : Nat → List (S47) → List (S47) → List Int → Int → Int → Option ((List (S47)) × (List (S47)))
 | 0, _, _, _, _, _ => none
 | k + 1, x5, x6, x530000, x530001, x530002 => (spec_l00Src_one.f x530000 x530001 x530002 5).bind fun bt549 => (if bt549.1 = true then (if x6.length < 8796093022208 then (some (x5, (x6 ++ [(⟨0, 0⟩ : S47)]))) else (none)) else (some (x5, x6)))
def spec_DrawSameSail.f (k : Nat) (l0 : List Int) : Option ((List (S47)) × (List (S47))) := (spec_l00From.f l0).bind fun bt526 => ((spec_l13Draw.f bt526.1 bt526.2.1 bt526.2.2).bind fun bt530 => ((some (([] : List (S47)) : List (S47))).bind fun y535 => (if y535.length + bt530.1.length < 8796093022208 then ((some (y535 ++ bt530.1 : List (S47))).bind fun y538 => ((spec_l00Src_one.f bt526.1 bt530.2.1 bt530.2.2 2).bind fun bt541 => (if bt541.1 = true then (if 0 < (y538.length : Int) then ((spec_l00Src_pick.f bt526.1 bt541.2.1 bt541.2.2 2).bind fun bt545 => (spec_DrawSameSail.j0 k bt530.1 (y538.set (0 : Int).toNat (⟨(rd_T47 y538 0).f0, wrap64 (((rd_T47 y538 0).f1) + bt545.1)⟩ : S47)) bt526.1 bt545.2.1 bt545.2.2)) else (none)) else (spec_DrawSameSail.j0 k bt530.1 y538 bt526.1 bt541.2.1 bt541.2.2)))) else (none))))
def spec_DrawSameSail.T5 : Bool × List (List Nat × List Nat) := (true, [([], []), ([0], [0]), ([1], [1]), ([2], [2]), ([], []), ([4], [4]), ([3, 5], [3, 5]), ([0, 0, 1, 2, 3, 4, 5, 6], [0]), ([7, 0, 1, 2, 3, 4, 5, 6], [7]), ([8, 6, 5, 0, 1, 2, 3, 4, 5, 6], [6, 8])])
def spec_DrawSameSail.B5 : List Nat := [0, 1, 3, 7, 0, 16, 63, 127, 255, 511]
theorem spec_DrawSameSail.tab5 : rtab .any (opsOf Tryz.f17 5) = spec_DrawSameSail.T5 := by kernel_rfl
theorem spec_DrawSameSail.bits5 : waitsOk spec_DrawSameSail.T5.2 spec_DrawSameSail.B5 = true := by kernel_rfl
theorem spec_DrawSameSail.calls (k : Nat) (A0 : Option Addr) (c0 : Nat) (l0 : List Int) (r1 : List (S47)) (r2 : List (S47)) (w : World) (hr0 : Kd.C (Kd.int .u8) w A0 l0.length l0) (hc0 : l0.length ≤ c0) (h : spec_DrawSameSail.f k l0 = some (r1, r2)) :
  Calls Tryz.prog 17 #[.slice A0 l0.length c0] w fun e w' => ∃ v0_ v1_ : Value, e = .returned (.tuple #[v0_, v1_]) ∧ Kd.R k47 47 w' w.heap.size (fun k_ => some k_ ≠ (v1_ : Value).ownBlock) v0_ r1 ∧ Kd.R k47 47 w' w.heap.size (fun k_ => some k_ ≠ (v0_ : Value).ownBlock) v1_ r2 ∧ Below w.heap.size w w' := by
 have hu47 := Tryz.underlying47
 have HR0 := zQ hr0
 have HC0 := zQ hc0
 clear hr0 hc0
 have HB := zQ (Below.refl w.heap.size w)
 have H := h; unfold spec_DrawSameSail.f at H
 clear h
 replace H := zob H; obtain ⟨⟨t526, t527, t528⟩, A2, H⟩ := H
 replace H := zob H; obtain ⟨⟨t530, t533, t534⟩, A3, H⟩ := H
 obtain ⟨y535, hy535⟩ : ∃ y_ : List (S47), y_ = (([] : List (S47))) := ⟨_, rfl⟩
 replace H : (if y535.length + t530.length < 8796093022208 then ((some (y535 ++ t530 : List (S47))).bind fun y538 => ((spec_l00Src_one.f t526 t533 t534 2).bind fun bt541 => (if bt541.1 = true then (if 0 < (y538.length : Int) then ((spec_l00Src_pick.f t526 bt541.2.1 bt541.2.2 2).bind fun bt545 => (spec_DrawSameSail.j0 k t530 (y538.set (0 : Int).toNat (⟨(rd_T47 y538 0).f0, wrap64 (((rd_T47 y538 0).f1) + bt545.1)⟩ : S47)) t526 bt545.2.1 bt545.2.2)) else (none)) else (spec_DrawSameSail.j0 k t530 y538 t526 bt541.2.1 bt541.2.2)))) else (none)) = some (r1, r2) := zh H
 have Ny535 := zQ hy535
 clear hy535
 by_cases c4 : y535.length + t530.length < 8796093022208
 ·rw [if_pos c4] at H
  have LMc4 := zQ c4; clear c4; obtain ⟨y538, hy538⟩ : ∃ y_ : List (S47), y_ = (y535 ++ t530) := ⟨_, rfl⟩; replace H : ((spec_l00Src_one.f t526 t533 t534 2).bind fun bt541 => (if bt541.1 = true then (if 0 < (y538.length : Int) then ((spec_l00Src_pick.f t526 bt541.2.1 bt541.2.2 2).bind fun bt545 => (spec_DrawSameSail.j0 k t530 (y538.set (0 : Int).toNat (⟨(rd_T47 y538 0).f0, wrap64 (((rd_T47 y538 0).f1) + bt545.1)⟩ : S47)) t526 bt545.2.1 bt545.2.2)) else (none)) else (spec_DrawSameSail.j0 k t530 y538 t526 bt541.2.1 bt541.2.2))) = some (r1, r2) := zh H; have Ny538 := zQ hy538; clear hy538; replace H := zob H; obtain ⟨⟨t541, t542, t543⟩, A5, H⟩ := H; have HC6 := zQ H; clear H
  go_enter Tryz.func17, Tryz.ntmps17
  go_upto_if 15 with (first | ((with_reducible refine zgc 25 ?_); refine goesL_ (some 8) rfl rfl Tryz.func25 (by kernel_rfl) rfl #[.slice A0 l0.length c0] rfl zM ?_; (with_reducible refine (spec_l00From.calls _ _ l0 t526 t527 t528 w _ ?side1 HR0.out HC0.out A2.out).mono ?_); (case side1 => exact zB HB.out); rintro e w7 ⟨g529, rfl, hi, hb, hb2⟩; refine ⟨_, rfl, ?_⟩; have HI529 := zQ (hi); replace HB := zQ (hb); (try clear hb); (try clear hb2); (try clear hi)) | ((with_reducible refine zgc 44 ?_); refine goesL_ (some 10) rfl rfl Tryz.func44 (by kernel_rfl) rfl #[.pointer (some ⟨g529, 0, none⟩)] rfl zM ?_; (with_reducible refine (spec_l13Draw.calls g529 t526 t527 t528 t530 t533 t534 w _ ?side1 ?side2 A3.out).mono ?_); (case side1 => repeat (first | (with_reducible first | exact HI529.out | apply IsS72.alloc | apply IsS72.drewN | apply IsS72.drew | apply IsS72.set_1 | apply IsS72.set_2) | exact HI529.out)); (case side2 => repeat (first | (with_reducible first | exact HB.out | apply below_alloc | apply pw_below_drewN | apply below_drew1 | refine below_set ?_ (IsS72.ge HI529.out)) | exact HB.out)); rintro e w8 ⟨v531, rfl, ho0, hi, hb, hk⟩; refine ⟨_, rfl, ?_⟩; have HO532 := zQ (Kd.R_lower ho0 (below_size (by repeat (first | (with_reducible first | exact HB.out | apply below_alloc | apply pw_below_drewN | apply below_drew1 | refine below_set ?_ (IsS72.ge HI529.out)) | exact HB.out)))); replace HB := zQ (hb); replace HI529 := zQ (hi); (try clear hb); (try clear hk); (try clear hi); (try clear ho0)) | ((with_reducible refine zd 11 ?_); refine Kd.R_lit k47 _ 47 ?hg (N := 11) ?hd (xs := ([] : List (S47))) (inner := []) (ok := fun _ => True) (okp := fun _ => True) ?hr ?hp (fun _ hk => hk) trivial (Below.refl _ _) (Nat.le_refl _) (by simp) ?_; (case hd => rfl); (case hg => rfl); (case hr => first | (go_simp; done) | (go_simp; rfl)); (case hp => exact (Reps.none _ _)); intro v536 w9 ho10 hb hg_ hnew_; clear hg_ hnew_; (first | rw [← Ny535.out] at ho10 | (simp only [Int.reduceToNat] at ho10; rw [← Ny535.out] at ho10)); have HO537 := zQ (Kd.R_lower (Kd.R_new' ho10 (Kd.R_lt (zR HO532.out))) (below_size (by repeat (first | (with_reducible first | exact HB.out | apply below_alloc | apply pw_below_drewN | apply below_drew1 | refine below_set ?_ (IsS72.ge HI529.out)) | exact HB.out)))); replace HO532 := zQ (Kd.R_elder' (zR HO532.out) (Kd.R_base ho10) hb); replace HB := zQ (below_step (by repeat (first | (with_reducible first | exact HB.out | apply below_alloc | apply pw_below_drewN | apply below_drew1 | refine below_set ?_ (IsS72.ge HI529.out)) | exact HB.out)) hb); replace HI529 := zQ (IsS72.below (by repeat (first | (with_reducible first | exact HI529.out | apply IsS72.alloc | apply IsS72.drewN | apply IsS72.drew | apply IsS72.set_1 | apply IsS72.set_2) | exact HI529.out)) hb); clear hb ho10; obtain ⟨Ao12, co12, eo12⟩ := Kd.R_slice HO532.out; subst eo12) | ((with_reducible refine gate_builtin (b := .append) (xs := #[.tmp 11, .tmp 12]) rfl ?_); at_builtin; refine Kd.R_append_rows k47 (w0 := w) w.heap.size rfl (.tmp 11) (.tmp 12) 24 47 (.agg #[(.int .i64 0), (.int .i64 0)]) 16 rfl Tryz.underlying24 info47 rfl (by decide) (by omega) v536 y535 t530 _ _ _ (fun k_ => some k_ ≠ (.slice Ao12 t530.length co12 : Value).ownBlock) (fun _ => False) rfl rfl ?aO ?aR (fun _ _ h => h) (fun _ h => h.elim) ?aF ?aB ?aS ?aL ?_; (case aR => repeat (first | exact (Kd.R_reads' HO532.out).2.2 | (with_reducible refine Kd.C_alloc ?_ _) | (with_reducible refine Kd.C_drewN ?_ _) | (with_reducible refine Kd.C_drew ?_))); (case aB => exact (by repeat (first | (with_reducible first | exact HB.out | apply below_alloc | apply pw_below_drewN | apply below_drew1 | refine below_set ?_ (IsS72.ge HI529.out)) | exact HB.out))); (case aF => exact (fun k_ hk => Kd.fresh' (Kd.R_lt (zR HO532.out)) k_ hk)); (case aO => exact (by (with_reducible repeat (first | apply Kd.R_alloc | apply Kd.R_drewN | apply Kd.R_drew)); exact Kd.R_mono HO537.out (fun _ hk => hk.2))); (case aS => exact (below_size (by repeat (first | (with_reducible first | exact HB.out | apply below_alloc | apply pw_below_drewN | apply below_drew1 | refine below_set ?_ (IsS72.ge HI529.out)) | exact HB.out)))); (case aL => have := LMc4.out; omega); intro v539 w11 ho hb hg hat; rw [← Ny538.out] at ho; have HO540 := zQ (ho); replace HI529 := zQ (IsS72.grown (by repeat (first | (with_reducible first | exact HI529.out | apply IsS72.alloc | apply IsS72.drewN | apply IsS72.drew | apply IsS72.set_1 | apply IsS72.set_2) | exact HI529.out)) hg (IsS72.own_ne HI529.out HO537.out (by decide))); replace HO532 := zQ (Kd.R_after (ok := (fun _ => True)) (zR HO532.out) hg hat); replace HB := zQ (hb); clear HO537 ho hb hg hat) | ((with_reducible refine zgc 28 ?_); refine goesL_ (some 15) rfl rfl Tryz.func28 (by kernel_rfl) rfl #[.pointer (some ⟨g529, 0, none⟩), .int .i64 2] rfl zM ?_; (with_reducible refine (spec_l00Src_one.calls g529 t526 t533 t534 2 t541 t542 t543 w _ ?side1 ?side2 A5.out).mono ?_); (case side1 => repeat (first | (with_reducible first | exact HI529.out | apply IsS72.alloc | apply IsS72.drewN | apply IsS72.drew | apply IsS72.set_1 | apply IsS72.set_2) | exact HI529.out)); (case side2 => repeat (first | (with_reducible first | exact HB.out | apply below_alloc | apply pw_below_drewN | apply below_drew1 | refine below_set ?_ (IsS72.ge HI529.out)) | exact HB.out)); rintro e w13 ⟨rfl, hi, hb, hk⟩; refine ⟨_, rfl, ?_⟩; replace HO532 := zQ (Kd.R_mono (Kd.R_keep (IsS72.apart (show IsS72 w _ g529 t526 t533 t534 from by repeat (first | (with_reducible first | exact HI529.out | apply IsS72.alloc | apply IsS72.drewN | apply IsS72.drew | apply IsS72.set_1 | apply IsS72.set_2) | exact HI529.out)) (zR HO532.out) (by decide)) hk (fun _ h => h.2)) (fun _ h => h.1)); replace HO540 := zQ (Kd.R_mono (Kd.R_keep (IsS72.apart (show IsS72 w _ g529 t526 t533 t534 from by repeat (first | (with_reducible first | exact HI529.out | apply IsS72.alloc | apply IsS72.drewN | apply IsS72.drew | apply IsS72.set_1 | apply IsS72.set_2) | exact HI529.out)) (zR HO540.out) (by decide)) hk (fun _ h => h.2)) (fun _ h => h.1)); replace HB := zQ (hb); replace HI529 := zQ (hi); (try clear hb); (try clear hk); (try clear hi)))
  (try simp only [Act.put, List.setIfInBounds_toArray, List.set_cons_zero, List.set_cons_succ])
  go_cut [] (fun wc => ∃ (kq : Nat) (x6_5 : List (S47)) (x530001_5 : Int) (x530002_5 : Int), Aside0 (spec_DrawSameSail.j0 kq t530 x6_5 t526 x530001_5 x530002_5 = some (r1, r2)) ∧ Aside0 (kq ≤ k) ∧ Aside0 (Kd.R k47 47 wc w.heap.size (fun k_ => some k_ ≠ (v539 : Value).ownBlock) (.slice Ao12 t530.length co12) t530) ∧ Aside0 (Kd.R k47 47 wc w.heap.size (fun k_ => some k_ ≠ ((.slice Ao12 t530.length co12) : Value).ownBlock) v539 x6_5) ∧ Aside0 (IsS72 w wc g529 t526 x530001_5 x530002_5) ∧ Aside0 (Below w.heap.size w wc))
  case first =>
   have H := HC6.out; clear HC6
   by_cases c14 : t541 = true
   ·subst c14
    rw [if_pos rfl] at H
    by_cases c15 : 0 < (y538.length : Int)
    ·rw [if_pos c15] at H
     have c15b0 := decide_eq_true c15; have c15b1 : decide (0 < y538.length) = true := decide_eq_true (by omega); clear c15
     (first | rw [c15b0] | (simp only [i64_w, i32_w]; rw [c15b0]) | skip)
     replace H := zob H; obtain ⟨⟨t545, t546, t547⟩, A16, H⟩ := H; obtain ⟨y548, hy548⟩ : ∃ y_ : List (S47), y_ = (y538.set (0 : Int).toNat (⟨(rd_T47 y538 0).f0, wrap64 (((rd_T47 y538 0).f1) + t545)⟩ : S47)) := ⟨_, rfl⟩; replace H : (spec_DrawSameSail.j0 k t530 y548 t526 t546 t547) = some (r1, r2) := zh H; have Ny548 := zQ hy548; clear hy548; have H' := zQ H; clear H
     try go_wp2
     have n0_ := zQ (Kd.R_drew HO532.out); have n1_ := zQ (Kd.R_drew HO540.out); have n2_ := zQ (IsS72.drew HI529.out); have n3_ := zQ (below_drew1 HB.out); clear HO532; clear HO540; clear HI529; clear HB; have HO532 := n0_; have HO540 := n1_; have HI529 := n2_; have HB := n3_; clear n0_ n1_ n2_ n3_; obtain ⟨Ao19, co19, eo19⟩ := Kd.R_slice HO540.out
     (first | subst eo19 | (injection eo19 with f1_ f2_ f3_; have f4_ := f1_.symm; have f5_ := f3_.symm; clear f1_ f2_ f3_; subst f4_; subst f5_))
     have p544 : 0 ≤ (0 : Int) := (by omega); have q544 : 0 < (y538.length : Int) := zD; obtain ⟨ad544, e544, hx544_0, hx544_1⟩ := at_T47 (Kd.R_reads' HO540.out).2.2 0 p544 q544
     cases e544
     have qi544 : (0 < y538.length) = True := eq_true (by omega)
     (try rw [show ((0 : Int)).toNat = 0 from rfl] at hx544_0)
     (try rw [show 0 * 2 = 0 from rfl] at hx544_0)
     (try rw [Addr.add_zero'] at hx544_0)
     (try rw [show ((0 : Int)).toNat = 0 from rfl] at hx544_1)
     (try rw [show 0 * 2 = 0 from rfl] at hx544_1)
     (try rw [Addr.add_zero'] at hx544_1)
     replace p544 := eq_true p544; replace q544 := eq_true q544
     refine zs (fun w' => w'.cell? ad544 = some (.int .i64 ((rd_T47 y538 0).f0)) ∧ w'.cell? ⟨ad544.block, ad544.off + 1, none⟩ = some (.int .i64 ((rd_T47 y538 0).f1))) [9] 10 ⟨hx544_0, hx544_1⟩ (fun hHeld => ?_); refine with_tabW spec_DrawSameSail.tab5 spec_DrawSameSail.bits5 (fun HT_ HW_ => ?_)
     generalize w13.drew = w18 at HO532 HO540 HI529 HB hx544_0 hx544_1 hHeld ⊢
     refine zp 0 16 ?_
     refine zp 1 17 ?_
     refine zp 2 18 ?_
     refine zp 4 20 ?_
     refine zt 3 19 hHeld ?_
     refine zo 5 (some 21) (fun K hK => ?_)
     refine goes_ Tryz.func27 (by kernel_rfl) rfl #[.pointer (some ⟨g529, 0, none⟩), .int .i64 2] (by rfl) rfl rfl zM ?_
     with_reducible refine (spec_l00Src_pick.calls g529 t526 t542 t543 2 t545 t546 t547 w _ ?side1 ?side2 A16.out).mono ?_
     (case side1 => repeat (first | (with_reducible first | exact HI529.out | apply IsS72.alloc | apply IsS72.drewN | apply IsS72.drew | apply IsS72.set_1 | apply IsS72.set_2) | exact HI529.out))
     (case side2 => repeat (first | (with_reducible first | exact HB.out | apply below_alloc | apply pw_below_drewN | apply below_drew1 | refine below_set ?_ (IsS72.ge HI529.out)) | exact HB.out))
     rintro e w20 ⟨rfl, hi, hb, hk⟩
     have HS0_ := keep_cell hk (hHeld.1) (by first | (rw [add_block]; exact Kd.own_blk (IsS72.own_ne HI529.out HO540.out (by decide))) | (show (Addr.add _ _).block ≠ _; rw [add_block]; exact Kd.own_blk (IsS72.own_ne HI529.out HO540.out (by decide))) | exact Kd.own_blk (IsS72.own_ne HI529.out HO540.out (by decide)) | (have q_ := Kd.own_blk (IsS72.own_ne HI529.out HO540.out (by decide)); exact q_)); have HS1_ := keep_cell hk (hHeld.2) (by first | (rw [add_block]; exact Kd.own_blk (IsS72.own_ne HI529.out HO540.out (by decide))) | (show (Addr.add _ _).block ≠ _; rw [add_block]; exact Kd.own_blk (IsS72.own_ne HI529.out HO540.out (by decide))) | exact Kd.own_blk (IsS72.own_ne HI529.out HO540.out (by decide)) | (have q_ := Kd.own_blk (IsS72.own_ne HI529.out HO540.out (by decide)); exact q_))
     refine ⟨_, rfl, ?_⟩
     have n0_ := zQ (Kd.R_mono (Kd.R_keep (IsS72.apart (show IsS72 w _ g529 t526 t542 t543 from by repeat (first | (with_reducible first | exact HI529.out | apply IsS72.alloc | apply IsS72.drewN | apply IsS72.drew | apply IsS72.set_1 | apply IsS72.set_2) | exact HI529.out)) (zR HO532.out) (by decide)) hk (fun _ h => h.2)) (fun _ h => h.1)); have n1_ := zQ (Kd.R_mono (Kd.R_keep (IsS72.apart (show IsS72 w _ g529 t526 t542 t543 from by repeat (first | (with_reducible first | exact HI529.out | apply IsS72.alloc | apply IsS72.drewN | apply IsS72.drew | apply IsS72.set_1 | apply IsS72.set_2) | exact HI529.out)) (zR HO540.out) (by decide)) hk (fun _ h => h.2)) (fun _ h => h.1)); have n2_ := zQ (hb); have n3_ := zQ (hi); clear HO532; clear HO540; clear HB; clear HI529; have HO532 := n0_; have HO540 := n1_; have HB := n2_; have HI529 := n3_; clear n0_ n1_ n2_ n3_
     (try clear hb)
     (try clear hb2)
     (try clear hk)
     (try clear hi)
     have p17 : 0 ≤ (0 : Int) := (by omega); have q17 : (0 : Int) < ((y538.length : Int) : Int) := zD; have qi17 : (0 < y538.length) = True := eq_true (by omega); obtain ⟨go17, co17, eo17, gb17, gl17, cl17, HG17⟩ := Kd.R_form HO540.out (by omega)
     (first | cases eo17 | (injection eo17 with ea_ en_ ec_; (first | subst ea_ | (injection ea_ with ea_; subst ea_)); subst ec_; clear en_))
     have GB17 := zQ gb17; have GG17 := zQ HG17; clear gb17 gl17 HG17
     (first | simp only [add_plain] at hx544_0 | skip)
     (first | simp only [add_plain] at hx544_1 | skip)
     obtain ⟨ce17, hcl17, hM17, hcc17, hfr17⟩ := Kd.R_elem HO540.out z47 (0 : Int) p17 q17; obtain rfl := k47_openM hM17; have hx17_0 : World.cell? _ ⟨go17, (0 : Int).toNat * 2, none⟩ = some (.int .i64 ((rd_T47 y538 0).f0)) := hcc17 0 _ rfl; have hx17_1 : World.cell? _ ⟨go17, (0 : Int).toNat * 2 + 1, none⟩ = some (.int .i64 ((rd_T47 y538 0).f1)) := hcc17 1 _ rfl; have hf17_0 : World.frozen? _ ⟨go17, (0 : Int).toNat * 2, none⟩ = false := hfr17 0; have hf17_1 : World.frozen? _ ⟨go17, (0 : Int).toNat * 2 + 1, none⟩ = false := hfr17 1
     (try clear hM17); clear hcl17 hcc17 hfr17
     (try rw [show ((0 : Int)).toNat = 0 from rfl] at hx17_0)
     (try simp only [Nat.reduceMul, Nat.zero_mul, Nat.zero_add, Nat.reduceAdd] at hx17_0)
     (try rw [show ((0 : Int)).toNat = 0 from rfl] at hf17_0)
     (try simp only [Nat.reduceMul, Nat.zero_mul, Nat.zero_add, Nat.reduceAdd] at hf17_0)
     (try rw [show ((0 : Int)).toNat = 0 from rfl] at hx17_1)
     (try simp only [Nat.reduceMul, Nat.zero_mul, Nat.zero_add, Nat.reduceAdd] at hx17_1)
     (try rw [show ((0 : Int)).toNat = 0 from rfl] at hf17_1)
     (try simp only [Nat.reduceMul, Nat.zero_mul, Nat.zero_add, Nat.reduceAdd] at hf17_1)
     replace p17 := eq_true p17; replace q17 := eq_true q17; have HN529_go17 := zQ (show g529 ≠ go17 from by have h_ := IsS72.own_ne HI529.out HO540.out (by decide); intro e_; exact h_ (by rw [e_]; rfl)); obtain ⟨ce21, hcl21, hM21, hcc21, hfr21⟩ := Kd.R_elem HO540.out z47 (0 : Int) (by omega) (by have h_ : (0 : Int) < ((y538.length : Int) : Int) := zD; first | exact h_ | (have e_ := (Kd.R_reads' HO540.out).1; omega) | simpa using h_); obtain rfl := k47_openM hM21; have HP21 := (Kd.R_seg HO540.out (0 : Int) (by omega) (by have h_ : (0 : Int) < ((y538.length : Int) : Int) := zD; first | exact h_ | (have e_ := (Kd.R_reads' HO540.out).1; omega) | simpa using h_) (seg := [.int .i64 (wrap64 (((rd_T47 y538 0).f1) + t545))]) (j := 1) hcl21 hcc21 (show 2 ≤ 2 from by decide) (x' := (⟨(rd_T47 y538 0).f0, wrap64 (((rd_T47 y538 0).f1) + t545)⟩ : S47)) (k47_mkM _ _ _ (⟨(rd_T47 y538 0).f0, wrap64 (((rd_T47 y538 0).f1) + t545)⟩ : S47) ) (fun _ hk => hk)).1; rw [← Ny548.out] at HP21; have HQ21 := zQ HP21
     (try clear hM21); clear hcl21 hcc21 hfr21 HP21
     refine hK.out _ _ ⟨HS0_, HS1_⟩ (fun hHeld => ?_)
     clear hK K
     refine zn 21 ?_
     refine zp 6 22 ?_
     refine zp 7 23 ?_
     refine zp 8 24 ?_
     refine last_ (i := 9) (N := none) (zm 10 1023) rfl rfl (one_of HT_.out (by kernel_rfl)) (by decide) (fun K hK => ?_)
     refine skip_ (w1 := ?_) (by rfl) rfl ?_ ?_
     rotate_left
     ·go_simp
      rfl
     refine hK.out _ _ ?_
     clear hK K
     refine done_ (done_of HT_.out (by kernel_rfl)) ?_
     try go_wp2
     go_meet
     case rel => exact ⟨_, (y548), (t546), (t547), H', ⟨by first | omega | exact Nat.le_refl _⟩, ⟨by (with_reducible repeat (first | apply Kd.R_alloc | apply Kd.R_drewN | apply Kd.R_drew)); exact Kd.R_mono (Kd.R_far (p := ⟨go17, 1, none⟩) (Kd.R_mono HO532.out (fun k_ hk => (⟨hk, fun e_ => hk.2 (by rw [e_]; rfl)⟩ : _ ∧ k_ ≠ go17))) (fun _ hk => hk.2) (.int .i64 (wrap64 (((rd_T47 y538 0).f1) + t545)))) (fun _ hk => hk.1.2)⟩, ⟨zR HQ21.out⟩, ⟨by repeat (first | (with_reducible first | exact HI529.out | apply IsS72.alloc | apply IsS72.drewN | apply IsS72.drew | apply IsS72.set_1 | apply IsS72.set_2 | refine IsS72.far ?_ HN529_go17.out _) | exact HI529.out)⟩, ⟨by repeat (first | (with_reducible first | exact HB.out | apply below_alloc | apply pw_below_drewN | apply below_drew1 | refine below_set ?_ GB17.out | refine below_set ?_ (IsS72.ge HI529.out)) | exact HB.out)⟩⟩
    ·rw [if_neg c15] at H
     exact absurd H (by simp)
   ·replace c14 := Bool.eq_false_iff.mpr c14
    subst c14
    rw [if_neg Bool.false_ne_true] at H; have H' := zQ H; clear H
    go_wp2
    go_meet
    case rel => exact ⟨_, (y538), (t542), (t543), H', ⟨by first | omega | exact Nat.le_refl _⟩, ⟨by (with_reducible repeat (first | apply Kd.R_alloc | apply Kd.R_drewN | apply Kd.R_drew)); exact Kd.R_mono HO532.out (fun _ hk => hk.2)⟩, ⟨zR HO540.out⟩, ⟨by repeat (first | (with_reducible first | exact HI529.out | apply IsS72.alloc | apply IsS72.drewN | apply IsS72.drew | apply IsS72.set_1 | apply IsS72.set_2) | exact HI529.out)⟩, ⟨by repeat (first | (with_reducible first | exact HB.out | apply below_alloc | apply pw_below_drewN | apply below_drew1 | refine below_set ?_ (IsS72.ge HI529.out)) | exact HB.out)⟩⟩
  case rest =>
   clear HC6; (try clear c1); (try clear p1); (try clear q1); (try clear hx1); (try clear qi1); (try clear hf1); (try clear c2); (try clear p2); (try clear c4); (try clear p5); (try clear q5); (try clear hx5); (try clear qi5); (try clear p6); (try clear c14); (try clear c15); (try clear c15b0); (try clear c15b1); (try clear c17); (try clear p17); (try clear q17); (try clear hx17); (try clear qi17); (try clear hf17); (try clear c21); (try clear hx17_0); (try clear hx17_1); (try clear hx544_0); (try clear hx544_1); (try clear p17); (try clear p544); (try clear q17); (try clear q544); obtain ⟨kq, x6_5, x530001_5, x530002_5, HA, HJ5, HO_5, HO_6, HI529, HB⟩ := hcut
   cases kq with
   | zero => exact absurd HA.out (by simp [spec_DrawSameSail.j0])
   | succ kj5 =>
    have H := HA.out; clear HA
    simp only [spec_DrawSameSail.j0] at H
    replace H := zob H; obtain ⟨⟨t549, t550, t551⟩, A22, H⟩ := H
    by_cases c23 : t549 = true
    ·subst c23
     rw [if_pos rfl] at H
     by_cases c24 : x6_5.length < 8796093022208
     ·rw [if_pos c24] at H
      have LMc24 := zQ c24; clear c24; obtain ⟨y552, hy552⟩ : ∃ y_ : List (S47), y_ = (x6_5 ++ [(⟨0, 0⟩ : S47)]) := ⟨_, rfl⟩; replace H : (some (t530, y552)) = some (r1, r2) := zh H; have Ny552 := zQ hy552; clear hy552
      simp only [Option.some.injEq, Prod.mk.injEq] at H
      obtain ⟨rfl, rfl⟩ := H
      go_wp2_with (first | ((with_reducible refine zgc 28 ?_); refine goesL_ (some 26) rfl rfl Tryz.func28 (by kernel_rfl) rfl #[.pointer (some ⟨g529, 0, none⟩), .int .i64 5] rfl zM ?_; (with_reducible refine (spec_l00Src_one.calls g529 t526 x530001_5 x530002_5 5 true t550 t551 w _ ?side1 ?side2 A22.out).mono ?_); (case side1 => repeat (first | (with_reducible first | exact HI529.out | apply IsS72.alloc | apply IsS72.drewN | apply IsS72.drew | apply IsS72.set_1 | apply IsS72.set_2) | exact HI529.out)); (case side2 => repeat (first | (with_reducible first | exact HB.out | apply below_alloc | apply pw_below_drewN | apply below_drew1 | refine below_set ?_ (IsS72.ge HI529.out)) | exact HB.out)); rintro e w25 ⟨rfl, hi, hb, hk⟩; refine ⟨_, rfl, ?_⟩; replace HO_5 := zQ (Kd.R_mono (Kd.R_keep (IsS72.apart (show IsS72 w _ g529 t526 x530001_5 x530002_5 from by repeat (first | (with_reducible first | exact HI529.out | apply IsS72.alloc | apply IsS72.drewN | apply IsS72.drew | apply IsS72.set_1 | apply IsS72.set_2) | exact HI529.out)) (zR HO_5.out) (by decide)) hk (fun _ h => h.2)) (fun _ h => h.1)); replace HO_6 := zQ (Kd.R_mono (Kd.R_keep (IsS72.apart (show IsS72 w _ g529 t526 x530001_5 x530002_5 from by repeat (first | (with_reducible first | exact HI529.out | apply IsS72.alloc | apply IsS72.drewN | apply IsS72.drew | apply IsS72.set_1 | apply IsS72.set_2) | exact HI529.out)) (zR HO_6.out) (by decide)) hk (fun _ h => h.2)) (fun _ h => h.1)); replace HB := zQ (hb); replace HI529 := zQ (hi); (try clear hb); (try clear hk); (try clear hi)) | ((with_reducible refine gate_builtin (b := .append) (xs := #[.tmp 27, .tmp 29]) rfl ?_); at_builtin; refine Kd.R_append k47 (w0 := w) w.heap.size rfl (.tmp 27) (.tmp 29) 24 47 (.agg #[(.int .i64 0), (.int .i64 0)]) 16 rfl Tryz.underlying24 info47 rfl (by decide) (by omega) v539 x6_5 (⟨0, 0⟩ : S47) [.int .i64 0, .int .i64 0] (fun k_ => some k_ ≠ (.slice Ao12 t530.length co12 : Value).ownBlock) (fun _ => False) rfl rfl ?aP (fun _ hk => hk.elim) ?aF ?aO ?aB ?aS ?aL ?_; (case aP => exact k47_mkM _ _ _ (⟨0, 0⟩ : S47)); (case aB => exact (by repeat (first | (with_reducible first | exact HB.out | apply below_alloc | apply pw_below_drewN | apply below_drew1 | refine below_set ?_ (IsS72.ge HI529.out)) | exact HB.out))); (case aF => exact (fun k_ hk => Kd.fresh' (Kd.R_lt (zR HO_5.out)) k_ hk)); (case aO => exact (zR HO_6.out)); (case aS => exact (below_size (by repeat (first | (with_reducible first | exact HB.out | apply below_alloc | apply pw_below_drewN | apply below_drew1 | refine below_set ?_ (IsS72.ge HI529.out)) | exact HB.out)))); (case aL => have := LMc24.out; omega); intro v553 w26 ho hb hg hat; rw [← Ny552.out] at ho; have HO554 := zQ (ho); replace HO_5 := zQ (Kd.R_after (ok := (fun _ => True)) (by (with_reducible repeat (first | apply Kd.R_alloc | apply Kd.R_drewN | apply Kd.R_drew)); exact Kd.R_mono HO_5.out (fun _ hk => ⟨trivial, hk⟩)) hg hat); replace HI529 := zQ (IsS72.grown (by repeat (first | (with_reducible first | exact HI529.out | apply IsS72.alloc | apply IsS72.drewN | apply IsS72.drew | apply IsS72.set_1 | apply IsS72.set_2) | exact HI529.out)) hg (IsS72.own_ne HI529.out HO_6.out (by decide))); replace HB := zQ (hb); clear HO_6 ho hb hg hat))
      go_ret2
      exact ⟨_, _, zE, by (with_reducible repeat (first | apply Kd.R_alloc | apply Kd.R_drewN | apply Kd.R_drew)); exact Kd.R_mono HO_5.out (fun _ hk => hk.2), zR HO554.out, by repeat (first | (with_reducible first | exact HB.out | apply below_alloc | apply pw_below_drewN | apply below_drew1 | refine below_set ?_ (IsS72.ge HI529.out)) | exact HB.out)⟩
     ·rw [if_neg c24] at H
      exact absurd H (by simp)
    ·replace c23 := Bool.eq_false_iff.mpr c23
     subst c23
     rw [if_neg Bool.false_ne_true] at H
     simp only [Option.some.injEq, Prod.mk.injEq] at H
     obtain ⟨rfl, rfl⟩ := H
     go_wp2_with (first | ((with_reducible refine zgc 28 ?_); refine goesL_ (some 26) rfl rfl Tryz.func28 (by kernel_rfl) rfl #[.pointer (some ⟨g529, 0, none⟩), .int .i64 5] rfl zM ?_; (with_reducible refine (spec_l00Src_one.calls g529 t526 x530001_5 x530002_5 5 false t550 t551 w _ ?side1 ?side2 A22.out).mono ?_); (case side1 => repeat (first | (with_reducible first | exact HI529.out | apply IsS72.alloc | apply IsS72.drewN | apply IsS72.drew | apply IsS72.set_1 | apply IsS72.set_2) | exact HI529.out)); (case side2 => repeat (first | (with_reducible first | exact HB.out | apply below_alloc | apply pw_below_drewN | apply below_drew1 | refine below_set ?_ (IsS72.ge HI529.out)) | exact HB.out)); rintro e w27 ⟨rfl, hi, hb, hk⟩; refine ⟨_, rfl, ?_⟩; replace HO_5 := zQ (Kd.R_mono (Kd.R_keep (IsS72.apart (show IsS72 w _ g529 t526 x530001_5 x530002_5 from by repeat (first | (with_reducible first | exact HI529.out | apply IsS72.alloc | apply IsS72.drewN | apply IsS72.drew | apply IsS72.set_1 | apply IsS72.set_2) | exact HI529.out)) (zR HO_5.out) (by decide)) hk (fun _ h => h.2)) (fun _ h => h.1)); replace HO_6 := zQ (Kd.R_mono (Kd.R_keep (IsS72.apart (show IsS72 w _ g529 t526 x530001_5 x530002_5 from by repeat (first | (with_reducible first | exact HI529.out | apply IsS72.alloc | apply IsS72.drewN | apply IsS72.drew | apply IsS72.set_1 | apply IsS72.set_2) | exact HI529.out)) (zR HO_6.out) (by decide)) hk (fun _ h => h.2)) (fun _ h => h.1)); replace HB := zQ (hb); replace HI529 := zQ (hi); (try clear hb); (try clear hk); (try clear hi)))
     go_ret2
     exact ⟨_, _, zE, zR HO_5.out, zR HO_6.out, by repeat (first | (with_reducible first | exact HB.out | apply below_alloc | apply pw_below_drewN | apply below_drew1 | refine below_set ?_ (IsS72.ge HI529.out)) | exact HB.out)⟩
 ·rw [if_neg c4] at H
  exact absurd H (by simp)

end
end Go.Proofs.YtchngbjpjbahiaaGreatDoor.PSailz

