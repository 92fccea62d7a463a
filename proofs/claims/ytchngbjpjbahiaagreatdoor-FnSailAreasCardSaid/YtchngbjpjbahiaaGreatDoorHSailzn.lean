import Derived.Test.YtchngbjpjbahiaaGreatDoorHSailz0
import Derived.Test.YtchngbjpjbahiaaGreatDoorHSailze
import Derived.Test.YtchngbjpjbahiaaGreatDoorHSailzm
namespace Go.Proofs.YtchngbjpjbahiaaGreatDoor.PSailz
noncomputable section
open Go.RowKit Go.Proofs.YtchngbjpjbahiaaGreatDoorW.PrintWords Go.Proofs.YtchngbjpjbahiaaGreatDoorW.PrintLast Go.Proofs.YtchngbjpjbahiaaGreatDoorW.PrintMore
attribute [local go_sem] max2_int min2_int max_two min_two max_three min_three max_four min_four   -- for this text's walks alone
set_option linter.unusedVariables false
set_option linter.unusedSimpArgs false
set_option maxHeartbeats 8000000
set_option maxRecDepth 100000

def impl_SailText.l0 : Nat → List ByteArray → List (S47) → Int → Int → Option (ByteArray)
 | 0, _, _, _, _ => none
 | k + 1, x3, x10, x11, x12 => if x12 < x11 then (if 0 ≤ x12 then (if x12 < (x10.length : Int) then ((impl_Decimal.f k ((rd_T47 x10 x12).f0)).bind fun t409 => (if t409.size + 1 ≤ 9223372036854775807 then ((impl_Decimal.f k ((rd_T47 x10 x12).f1)).bind fun t410 => (if (t409 ++ (⟨#[44]⟩ : ByteArray)).size + t410.size ≤ 9223372036854775807 then (if x3.length < 8796093022208 then (impl_SailText.l0 k (x3 ++ [(t409 ++ (⟨#[44]⟩ : ByteArray)) ++ t410]) x10 x11 (wrap64 (x12 + 1))) else (none)) else (none))) else (none))) else (none)) else (none)) else ((strings_Join.f k x3 (⟨#[32]⟩ : ByteArray)).bind fun t414 => (some t414))
def impl_SailText.f (k : Nat) (l0 : List (S47)) : Option (ByteArray) := (impl_ValidSail.f k l0).bind fun t403 => (if t403 = true then (impl_SailText.l0 k (([] : List ByteArray)) l0 (l0.length : Int) 0) else (some (⟨#[]⟩ : ByteArray)))
def impl_SailText.T7 : Bool × List (List Nat × List Nat) := (true, [([], []), ([], []), ([1], [1]), ([2], [2]), ([3], [3]), ([], []), ([5], [5]), ([6, 3], [6]), ([4, 7], [4, 7]), ([8], [8]), ([0, 9, 7], [0, 9]), ([10, 10, 0, 1, 2, 3, 4, 5, 6, 7, 8, 9, 10], [0, 10])])
def impl_SailText.B7 : List Nat := [0, 0, 2, 6, 14, 0, 32, 110, 254, 510, 1023, 2047]
theorem impl_SailText.tab7 : rtab .any (opsOf Tryz.f13 7) = impl_SailText.T7 := by kernel_rfl
theorem impl_SailText.bits7 : waitsOk impl_SailText.T7.2 impl_SailText.B7 = true := by kernel_rfl
theorem impl_SailText.calls (k : Nat) (A0 : Option Addr) (c0 : Nat) (l0 : List (S47)) (r : ByteArray) (w : World) (hT : TabW w) (hr0 : Kd.C k47 w A0 l0.length l0) (hc0 : l0.length ≤ c0) (h : impl_SailText.f k l0 = some r) :
  Calls Tryz.prog 13 #[.slice A0 l0.length c0] w fun e w' => e = .returned (.string r) ∧ Below w.heap.size w w' := by
 have HT := zQ hT
 clear hT
 have hu47 := Tryz.underlying47
 have HR0 := zQ hr0
 have HC0 := zQ hc0
 clear hr0 hc0
 have HB := zQ (Below.refl w.heap.size w)
 have H := h; unfold impl_SailText.f at H
 clear h
 replace H := zob H; obtain ⟨t403, A2, H⟩ := H
 by_cases c3 : t403 = true
 ·subst c3
  rw [if_pos rfl] at H; obtain ⟨y404, hy404⟩ : ∃ y_ : List ByteArray, y_ = (([] : List ByteArray)) := ⟨_, rfl⟩; replace H : (impl_SailText.l0 k y404 l0 (l0.length : Int) 0) = some r := zh H; have Ny404 := zQ hy404; clear hy404; have H' := zQ H; clear H
  go_enter Tryz.func13, Tryz.ntmps13
  go_wp2_with (first | ((with_reducible refine zgc 23 ?_); refine goesL_ (some 7) rfl rfl Tryz.func23 (by kernel_rfl) rfl #[.slice A0 l0.length c0] rfl zM ?_; (with_reducible refine (impl_ValidSail.calls k _ _ l0 true _ ?side1 HC0.out A2.out).mono ?_); (case side1 => repeat (first | exact HR0.out | (with_reducible refine Kd.C_alloc ?_ _) | (with_reducible refine Kd.C_drewN ?_ _) | (with_reducible refine Kd.C_drew ?_))); rintro e w4 ⟨rfl, hb⟩; refine ⟨_, rfl, ?_⟩; replace HB := zbs HB.out hb; (try clear hb)) | ((with_reducible refine zd 9 ?_); refine Kd.R_lit Kd.string _ 9 ?hg (N := 9) ?hd (xs := ([] : List ByteArray)) (inner := []) (ok := fun _ => True) (okp := fun _ => True) ?hr ?hp (fun _ hk => hk) trivial (Below.refl _ _) (Nat.le_refl _) (by simp) ?_; (case hd => rfl); (case hg => rfl); (case hr => first | (go_simp; done) | (go_simp; rfl)); (case hp => exact (Reps.none _ _)); intro v405 w5 ho6 hb hg_ hnew_; clear hg_ hnew_; (first | rw [← Ny404.out] at ho6 | (simp only [Int.reduceToNat] at ho6; rw [← Ny404.out] at ho6)); have HO406 := zQ (Kd.R_lower ho6 (below_size (zB HB.out))); replace HB := zbs HB.out hb; clear hb ho6))
  go_loopg [3, 12] k (fun kq v3 v12 w' => ∃ (x3_1 : List ByteArray) (x12_1 : Int), v12 = .int .i64 x12_1 ∧ Aside0 (impl_SailText.l0 kq x3_1 l0 (l0.length : Int) x12_1 = some r) ∧ Aside0 (kq ≤ k) ∧ Aside0 (Kd.R Kd.string 9 w' w.heap.size (fun _ => True) v3 x3_1) ∧ Aside0 (Below w.heap.size w w'))
  case atStart => exact ⟨(y404), (0), (zF), H', ⟨Nat.le_refl _⟩, ⟨zR HO406.out⟩, ⟨zB HB.out⟩⟩
  case round =>
   clear H'; (try clear c1); (try clear c2); (try clear p2); (try clear c3); obtain ⟨x3_1, x12_1, rfl, HA, HK1, HO_3, HB⟩ := hrel
   cases gk with
   | zero => exact absurd HA.out (by simp [impl_SailText.l0])
   | succ k1 =>
    have H := HA.out; clear HA
    simp only [impl_SailText.l0] at H
    by_cases c7 : x12_1 < (l0.length : Int)
    ·rw [if_pos c7] at H
     have c7b0 := decide_eq_true c7; clear c7
     by_cases c8 : 0 ≤ x12_1
     ·rw [if_pos c8] at H
      have c8b0 := decide_eq_true c8; clear c8
      by_cases c9 : x12_1 < (l0.length : Int)
      ·rw [if_pos c9] at H
       have c9b0 := decide_eq_true c9; clear c9; replace H := zob H; obtain ⟨t409, A10, H⟩ := H
       by_cases c11 : t409.size + 1 ≤ 9223372036854775807
       ·rw [if_pos c11] at H
        have c11b0 := eq_true c11; have c11b1 := decide_eq_true c11
        try have c11b2 : (9223372036854775807 < t409.size + 1) = False := eq_false (Nat.not_lt.2 c11)
        replace H := zob H; obtain ⟨t410, A12, H⟩ := H
        by_cases c13 : (t409 ++ (⟨#[44]⟩ : ByteArray)).size + t410.size ≤ 9223372036854775807
        ·rw [if_pos c13] at H
         have c13b0 := eq_true c13; have c13b1 := decide_eq_true c13
         try have c13b2 : (9223372036854775807 < (t409 ++ (⟨#[44]⟩ : ByteArray)).size + t410.size) = False := eq_false (Nat.not_lt.2 c13)
         try have c13b3 := c13b2
         try simp only [ByteArray.size_append, show ((⟨#[44]⟩ : ByteArray)).size = 1 from rfl, show ((⟨#[45]⟩ : ByteArray)).size = 1 from rfl, show ((⟨#[32]⟩ : ByteArray)).size = 1 from rfl] at c13b3
         by_cases c14 : x3_1.length < 8796093022208
         ·rw [if_pos c14] at H
          have LMc14 := zQ c14; clear c14; obtain ⟨y411, hy411⟩ : ∃ y_ : List ByteArray, y_ = (x3_1 ++ [(t409 ++ (⟨#[44]⟩ : ByteArray)) ++ t410]) := ⟨_, rfl⟩; replace H : (impl_SailText.l0 k1 y411 l0 (l0.length : Int) (wrap64 (x12_1 + 1))) = some r := zh H; have Ny411 := zQ hy411; clear hy411; have H' := zQ H; clear H; have p407 : 0 ≤ (x12_1 : Int) := zD; have q407 : x12_1 < (l0.length : Int) := zD; obtain ⟨ad407, e407, hx407_0, hx407_1⟩ := at_T47 HR0.out x12_1 p407 q407
          cases e407
          replace hx407_0 := zw HB.out hx407_0; replace hx407_1 := zw HB.out hx407_1; replace p407 := eq_true p407; replace q407 := eq_true q407
          try go_wp2_with (first | ((with_reducible refine zd 5 ?_); refine zbx (N := 5) (cs := #[.int .i64 0, .int .i64 0]) (t := 47) ?_; intro gb408 hg w15 hbox hb; have BK408 := zQ (hbox); have GW408 := zgz hg HB.out; have GE408 := GW408; replace HO_3 := zRb HO_3.out hb; replace HB := zbs HB.out hb; clear hb hbox hg; obtain ⟨hcz16_0, hcz16_1, hfz16_0, hfz16_1⟩ := zy2 BK408.out))
          have n0_ : Aside0 (Kd.R Kd.string 9 ((w15.setCell ⟨gb408, 0, none⟩ (.int .i64 ((rd_T47 l0 x12_1).f0))).setCell ⟨gb408, 1, none⟩ (.int .i64 ((rd_T47 l0 x12_1).f1))) w.heap.size (fun _ => True) u3 x3_1) := ⟨by (with_reducible repeat (first | apply Kd.R_alloc | apply Kd.R_drewN | apply Kd.R_drew)); exact Kd.R_mono (Kd.R_far (p := ⟨gb408, 1, none⟩) (Kd.R_far (p := ⟨gb408, 0, none⟩) (Kd.R_types HO_3.out BK408.out (by decide)) (fun _ hk => hk.2) (.int .i64 ((rd_T47 l0 x12_1).f0))) (fun _ hk => hk.2) (.int .i64 ((rd_T47 l0 x12_1).f1))) (fun _ hk => trivial)⟩; have n1_ : Aside0 (((w15.setCell ⟨gb408, 0, none⟩ (.int .i64 ((rd_T47 l0 x12_1).f0))).setCell ⟨gb408, 1, none⟩ (.int .i64 ((rd_T47 l0 x12_1).f1))).heap[gb408]? = some (.cells #[.int .i64 ((rd_T47 l0 x12_1).f0), .int .i64 ((rd_T47 l0 x12_1).f1)] 47 (0, 0))) := ⟨by refine zb ?_; refine blk_put (cs := #[.int .i64 ((rd_T47 l0 x12_1).f0), .int .i64 0]) ?_ 1 _ rfl; refine zb ?_; refine blk_put (cs := #[.int .i64 0, .int .i64 0]) ?_ 0 _ rfl; refine zb ?_; exact BK408.out⟩; have n2_ : Aside0 (Below w.heap.size w ((w15.setCell ⟨gb408, 0, none⟩ (.int .i64 ((rd_T47 l0 x12_1).f0))).setCell ⟨gb408, 1, none⟩ (.int .i64 ((rd_T47 l0 x12_1).f1)))) := ⟨zB2 HB.out GE408.out⟩
          (try clear HO_3)
          (try clear BK408)
          (try clear HB)
          generalize ((w15.setCell ⟨gb408, 0, none⟩ (.int .i64 ((rd_T47 l0 x12_1).f0))).setCell ⟨gb408, 1, none⟩ (.int .i64 ((rd_T47 l0 x12_1).f1))) = w17 at n0_ n1_ n2_ ⊢
          have HO_3 := n0_; have BK408 := n1_; have HB := n2_; clear n0_ n1_ n2_; have n0_ := zQ (Kd.R_drew HO_3.out); have n1_ := zQ (blk_drew BK408.out); have n2_ := zQ (below_drew1 HB.out); clear HO_3; clear BK408; clear HB; have HO_3 := n0_; have BK408 := n1_; have HB := n2_; clear n0_ n1_ n2_
          refine zs (fun w' => w'.cell? ⟨gb408, 0, none⟩ = some (.int .i64 ((rd_T47 l0 x12_1).f0)) ∧ w'.cell? ⟨gb408, 1, none⟩ = some (.int .i64 ((rd_T47 l0 x12_1).f1))) [] 12 ⟨(blk_cell BK408.out 0).trans rfl, (blk_cell BK408.out 1).trans rfl⟩ (fun hHeld => ?_); refine with_tabW impl_SailText.tab7 impl_SailText.bits7 (fun HT_ HW_ => ?_)
          generalize w17.drew = w18 at HO_3 BK408 HB hHeld ⊢
          refine zp 0 16 ?_
          refine zp 1 17 ?_
          refine zp 5 21 ?_
          refine zt 2 18 hHeld ?_
          refine zt 6 22 hHeld ?_
          refine zo 3 (some 19) (fun K hK => ?_)
          refine goes_ Tryz.func38 (by kernel_rfl) rfl #[.int .i64 ((rd_T47 l0 x12_1).f0)] (by rfl) rfl rfl zM ?_
          with_reducible refine (impl_Decimal.calls k1 ((rd_T47 l0 x12_1).f0) t409 _ (HT.out.at_ (zB HB.out)) A10.out).mono ?_
          rintro e w19 ⟨rfl, hb⟩
          refine ⟨_, rfl, ?_⟩
          have n0_ := zRb HO_3.out hb; have n1_ := zbl BK408.out hb; have n2_ := zbs2 HB.out GE408.out hb; clear HO_3; clear BK408; clear HB; have HO_3 := n0_; have BK408 := n1_; have HB := n2_; clear n0_ n1_ n2_
          (try clear hb)
          (try clear hb2)
          (try clear hk)
          (try clear hi)
          refine hK.out _ _ ⟨(blk_cell BK408.out 0).trans rfl, (blk_cell BK408.out 1).trans rfl⟩ (fun hHeld => ?_)
          clear hK K
          refine zn 19 ?_
          refine zp 4 20 ?_
          refine zo 7 (some 23) (fun K hK => ?_)
          refine goes_ Tryz.func38 (by kernel_rfl) rfl #[.int .i64 ((rd_T47 l0 x12_1).f1)] (by rfl) rfl rfl zM ?_
          with_reducible refine (impl_Decimal.calls k1 ((rd_T47 l0 x12_1).f1) t410 _ (HT.out.at_ (zB HB.out)) A12.out).mono ?_
          rintro e w20 ⟨rfl, hb⟩
          refine ⟨_, rfl, ?_⟩
          have n0_ := zRb HO_3.out hb; have n1_ := zbl BK408.out hb; have n2_ := zbs2 HB.out GE408.out hb; clear HO_3; clear BK408; clear HB; have HO_3 := n0_; have BK408 := n1_; have HB := n2_; clear n0_ n1_ n2_
          (try clear hb)
          (try clear hb2)
          (try clear hk)
          (try clear hi)
          refine hK.out _ _ ⟨(blk_cell BK408.out 0).trans rfl, (blk_cell BK408.out 1).trans rfl⟩ (fun hHeld => ?_)
          clear hK K
          refine zn 23 ?_
          refine zp 8 24 ?_
          refine zo 9 (some 25) (fun K hK => ?_)
          refine value_ (w1 := ?_) (v := ?_) (by rfl) rfl ?_ ?_
          rotate_left 2
          ·go_simp
           constructor
           ·rfl
           ·rfl
          refine hK.out _ _ ⟨(blk_cell (blk_alloc BK408.out _) 0).trans rfl, (blk_cell (blk_alloc BK408.out _) 1).trans rfl⟩ (fun hHeld => ?_)
          clear hK K
          refine zn 25 ?_
          refine zo 10 (some 26) (fun K hK => ?_)
          refine Kd.R_append_step Kd.string (w0 := w) w.heap.size (by rfl) (.tmp 16) (.tmp 25) 58 9 (.string ⟨#[]⟩) 16 rfl Tryz.underlying58 info9 rfl (by decide) (by omega) u3 x3_1 ((t409 ++ (⟨#[44]⟩ : ByteArray)) ++ t410) [.string ((t409 ++ (⟨#[44]⟩ : ByteArray)) ++ t410)] (fun _ => True) (fun _ => False) rfl rfl ?aP (fun _ hk => hk.elim) ?aF ?aO ?aB ?aS ?aL ?_
          (case aP => exact rfl)
          (case aB => exact (zB2 HB.out GE408.out))
          (case aF => exact (fun _ _ => trivial))
          (case aO => exact (zR HO_3.out))
          (case aS => exact (below_size (zB2 HB.out GE408.out)))
          (case aL => have := LMc14.out; omega)
          intro v412 w21 ho hb hg hat
          rw [← Ny411.out] at ho; have n0_ := zQ (blk_grown (g := gb408) (o := .cells #[.int .i64 ((rd_T47 l0 x12_1).f0), .int .i64 ((rd_T47 l0 x12_1).f1)] 47 (0, 0)) (zb BK408.out) hg (Kd.R_ne HO_3.out BK408.out (by decide))); have n1_ := zQ (hb); have n2_ := zQ (ho); clear BK408; clear HB; clear HO_3; have BK408 := n0_; have HB := n1_; have HO413 := n2_; clear n0_ n1_ n2_; clear ho hb hg hat
          refine hK.out _ _ ⟨(blk_cell BK408.out 0).trans rfl, (blk_cell BK408.out 1).trans rfl⟩ (fun hHeld => ?_)
          clear hK K
          refine zn 26 ?_
          refine zp 11 3 ?_
          refine done_ (done_of HT_.out (by kernel_rfl)) ?_
          try go_wp2
          go_roundg k1
          case measure => have := HK1.out; omega
          case rel => exact ⟨(y411), (wrap64 (x12_1 + 1)), (zF), H', ⟨by have := HK1.out; omega⟩, ⟨zR HO413.out⟩, ⟨zB2 HB.out GE408.out⟩⟩
         ·rw [if_neg c14] at H
          exact absurd H (by simp)
        ·rw [if_neg c13] at H
         exact absurd H (by simp)
       ·rw [if_neg c11] at H
        exact absurd H (by simp)
      ·rw [if_neg c9] at H
       exact absurd H (by simp)
     ·rw [if_neg c8] at H
      exact absurd H (by simp)
    ·rw [if_neg c7] at H
     have c7b0 := decide_eq_false c7; clear c7; replace H := zob H; obtain ⟨t414, A22, H⟩ := H; obtain rfl := Option.some.inj H; obtain ⟨Ao23, co23, eo23⟩ := Kd.R_slice HO_3.out; subst eo23
     go_wp2_with (first | ((with_reducible refine zgc 39 ?_); refine goesL_ (some 29) rfl rfl Tryz.func39 (by kernel_rfl) rfl #[.slice Ao23 x3_1.length co23, .string (⟨#[32]⟩ : ByteArray)] rfl zM ?_; (with_reducible refine (strings_Join.calls k1 _ _ x3_1 (⟨#[32]⟩ : ByteArray) t414 _ ?side1 ((Kd.R_reads' HO_3.out).2.1) A22.out).mono ?_); (case side1 => repeat (first | exact ⟨_, _, HO_3.out⟩ | exact ⟨_, _, (by (with_reducible repeat (first | apply Kd.R_alloc | apply Kd.R_drewN | apply Kd.R_drew)); exact HO_3.out)⟩ | (with_reducible refine Kd.C_alloc ?_ _) | (with_reducible refine Kd.C_drewN ?_ _) | (with_reducible refine Kd.C_drew ?_))); rintro e w24 ⟨rfl, hb⟩; refine ⟨_, rfl, ?_⟩; replace HO_3 := zRb HO_3.out hb; replace HB := zbs HB.out hb; (try clear hb)))
     go_ret
     exact ⟨zE, zB HB.out⟩
 ·replace c3 := Bool.eq_false_iff.mpr c3
  subst c3
  rw [if_neg Bool.false_ne_true] at H; obtain rfl := Option.some.inj H
  go_enter Tryz.func13, Tryz.ntmps13
  go_wp2_with (first | ((with_reducible refine zgc 23 ?_); refine goesL_ (some 7) rfl rfl Tryz.func23 (by kernel_rfl) rfl #[.slice A0 l0.length c0] rfl zM ?_; (with_reducible refine (impl_ValidSail.calls k _ _ l0 false _ ?side1 HC0.out A2.out).mono ?_); (case side1 => repeat (first | exact HR0.out | (with_reducible refine Kd.C_alloc ?_ _) | (with_reducible refine Kd.C_drewN ?_ _) | (with_reducible refine Kd.C_drew ?_))); rintro e w25 ⟨rfl, hb⟩; refine ⟨_, rfl, ?_⟩; replace HB := zbs HB.out hb; (try clear hb)))
  go_ret
  exact ⟨zE, zB HB.out⟩

end
end Go.Proofs.YtchngbjpjbahiaaGreatDoor.PSailz

