import Derived.Test.YtimjblgepbhoaaaHStays0
import Derived.Test.YtimjblgepbhoaaaHStaysa
import Derived.Test.YtimjblgepbhoaaaHStaysb
import Derived.Test.YtimjblgepbhoaaaHStaysu
import Derived.Test.YtimjblgepbhoaaaHStaysv
import Derived.Test.YtimjblgepbhoaaaHStaysx
namespace Go.Proofs.Ytimjblgepbhoaaa.PStays
noncomputable section
open Go.RowKit Go.Proofs.YtimjblgepbhoaaaW.PrintWords Go.Proofs.YtimjblgepbhoaaaW.PrintLast Go.Proofs.YtimjblgepbhoaaaW.PrintMore
attribute [local go_sem] max2_int min2_int max_two min_two max_three min_three max_four min_four   -- for this text's walks alone
set_option linter.unusedVariables false
set_option linter.unusedSimpArgs false
set_option maxHeartbeats 8000000
set_option maxRecDepth 100000

def spec_HoldingBars.f (k : Nat) (l0_0 : List (S164)) (l0_1 : List (S115)) (l1 : List (S113)) : Option (List Int × Int) := (spec_l11Code.f k l0_0 l0_1 l1 (([] : List Int))).bind fun t250 => (if t250 = 0 then ((spec_l11Fewest.f k l0_0 l0_1 l1).bind fun bt251 => (if bt251.2 = true then (some (bt251.1, 0)) else (some (([] : List Int), 10)))) else (some (([] : List Int), t250)))
theorem spec_HoldingBars.mono : ∀ a0 a1 a2 k, LeO (spec_HoldingBars.f k a0 a1 a2) (spec_HoldingBars.f (k + 1) a0 a1 a2) := by
 intro a0 a1 a2 k
 unfold spec_HoldingBars.f
 have m0 := @spec_l11Code.mono; have m1 := @spec_l11Fewest.mono; exact zM0
theorem spec_HoldingBars.calls (k : Nat) (A0_0 : Option Addr) (c0_0 : Nat) (l0_0 : List (S164)) (A0_1 : Option Addr) (c0_1 : Nat) (l0_1 : List (S115)) (A1 : Option Addr) (c1 : Nat) (l1 : List (S113)) (r1 : List Int) (r2 : Int) (w : World) (hr0_0 : Kd.C k164 w A0_0 l0_0.length l0_0) (hc0_0 : l0_0.length ≤ c0_0) (hr0_1 : Kd.C k115 w A0_1 l0_1.length l0_1) (hc0_1 : l0_1.length ≤ c0_1) (hr1 : Kd.C k113 w A1 l1.length l1) (hc1 : l1.length ≤ c1) (h : spec_HoldingBars.f k l0_0 l0_1 l1 = some (r1, r2)) :
  Calls Try.prog 18 #[.agg #[.slice A0_0 l0_0.length c0_0, .slice A0_1 l0_1.length c0_1], .slice A1 l1.length c1] w fun e w' => ∃ v0_ : Value, e = .returned (.tuple #[v0_, .int .i64 r2]) ∧ Kd.R (Kd.int .i64) 2 w' w.heap.size (fun _ => True) v0_ r1 ∧ Below w.heap.size w w' := by
 have hu27 := Try.underlying27
 have HR0_0 := zQ hr0_0
 have HC0_0 := zQ hc0_0
 clear hr0_0 hc0_0
 have HR0_1 := zQ hr0_1
 have HC0_1 := zQ hc0_1
 clear hr0_1 hc0_1
 have HR1 := zQ hr1
 have HC1 := zQ hc1
 clear hr1 hc1
 have HB := zQ (Below.refl w.heap.size w)
 have H : ((spec_l11Code.f k l0_0 l0_1 l1 (([] : List Int))).bind fun t250 => (if t250 = 0 then ((spec_l11Fewest.f k l0_0 l0_1 l1).bind fun bt251 => (if bt251.2 = true then (some (bt251.1, 0)) else (some (([] : List Int), 10)))) else (some (([] : List Int), t250)))) = some (r1, r2) := h
 clear h
 obtain ⟨y247, hy247⟩ : ∃ y_ : List Int, y_ = (([] : List Int)) := ⟨_, rfl⟩
 replace H : ((spec_l11Code.f k l0_0 l0_1 l1 y247).bind fun t250 => (if t250 = 0 then ((spec_l11Fewest.f k l0_0 l0_1 l1).bind fun bt251 => (if bt251.2 = true then (some (bt251.1, 0)) else (some (([] : List Int), 10)))) else (some (([] : List Int), t250)))) = some (r1, r2) := zh H
 have Ny247 := zQ hy247
 clear hy247
 replace H := zob H; obtain ⟨t250, A3, H⟩ := H
 by_cases c4 : t250 = 0
 ·rw [if_pos c4] at H
  have c4b0 : (t250 == 0) = true := beq_iff_eq.mpr c4; have c4b1 : (t250 != 0) = false := bne_eq_false_iff_eq.mpr c4; clear c4; replace H := zob H; obtain ⟨⟨t251, t254⟩, A5, H⟩ := H
  by_cases c6 : t254 = true
  ·subst c6
   rw [if_pos rfl] at H
   simp only [Option.some.injEq, Prod.mk.injEq] at H
   obtain ⟨rfl, rfl⟩ := H
   go_enter Try.func18, Try.ntmps18
   go_wp2_with (first | ((with_reducible refine zd 2 ?_); refine zbx (N := 2) (cs := #[.slice A0_0 l0_0.length c0_0, .slice A0_1 l0_1.length c0_1]) (t := 27) ?_; intro gb246 hg w7 hbox hb; have BK246 := zQ (hbox); have GW246 := zgz hg HB.out; have GE246 := GW246; replace HB := zbs HB.out hb; clear hb hbox hg) | ((with_reducible refine zd 10 ?_); refine Kd.R_lit (Kd.int .i64) _ 2 ?hg (N := 10) ?hd (xs := ([] : List Int)) (inner := []) (ok := fun _ => True) (okp := fun _ => True) ?hr ?hp (fun _ hk => hk) trivial (Below.refl _ _) (Nat.le_refl _) (by simp) ?_; (case hd => rfl); (case hg => rfl); (case hr => first | (go_simp; done) | (go_simp; rfl)); (case hp => exact (Reps.none _ _)); intro v248 w8 ho9 hb hg_ hnew_; clear hg_ hnew_; (first | rw [← Ny247.out] at ho9 | (simp only [Int.reduceToNat] at ho9; rw [← Ny247.out] at ho9)); have HO249 := zQ (Kd.R_lower ho9 (below_size (zB2 HB.out GE246.out))); replace BK246 := zbl BK246.out hb; replace HB := zbs2 HB.out GE246.out hb; clear hb ho9; obtain ⟨Ao10, co10, eo10⟩ := Kd.R_slice HO249.out; subst eo10) | ((with_reducible refine zgc 71 ?_); refine zgo (some 11) Try.func71 #[.pointer (some ⟨gb246, 0, none⟩), .slice A1 l1.length c1, .slice Ao10 y247.length co10] ?_; (with_reducible refine (spec_l11Code.calls k gb246 A0_0 c0_0 l0_0 A0_1 c0_1 l0_1 _ _ l1 _ _ y247 t250 _ (zb BK246.out) (zC HR0_0.out HB.out) HC0_0.out (zC HR0_1.out HB.out) HC0_1.out (zC HR1.out HB.out) HC1.out ?side8 ((Kd.R_reads' HO249.out).2.1) A3.out).mono ?_); (case side8 => exact zk (Kd.R_reads' HO249.out).2.2); rintro e w11 ⟨rfl, hb⟩; refine ⟨_, rfl, ?_⟩; replace HO249 := zRb HO249.out hb; replace BK246 := zbl BK246.out hb; replace HB := zbs2 HB.out GE246.out hb; (try clear hb)) | ((with_reducible refine zgc 72 ?_); refine zgo (some 17) Try.func72 #[.pointer (some ⟨gb246, 0, none⟩), .slice A1 l1.length c1] ?_; (with_reducible refine (spec_l11Fewest.calls k gb246 A0_0 c0_0 l0_0 A0_1 c0_1 l0_1 _ _ l1 t251 true _ (zb BK246.out) (zC HR0_0.out HB.out) HC0_0.out (zC HR0_1.out HB.out) HC0_1.out (zC HR1.out HB.out) HC1.out A5.out).mono ?_); rintro e w12 ⟨v252, rfl, ho0, hb⟩; refine ⟨_, rfl, ?_⟩; have HO253 := zQ (Kd.R_lower (Kd.R_new' ho0 (Kd.R_lt (zR HO249.out))) (below_size (zB2 HB.out GE246.out))); replace HO249 := zQ (Kd.R_elder' (zR HO249.out) (Kd.R_base ho0) hb); replace BK246 := zbl BK246.out hb; replace HB := zbs2 HB.out GE246.out hb; (try clear hb); (try clear ho0)))
   go_ret2
   exact ⟨_, zE, by (with_reducible repeat (first | apply Kd.R_alloc | apply Kd.R_drewN | apply Kd.R_drew)); exact Kd.R_mono HO253.out (fun _ hk => trivial), zB2 HB.out GE246.out⟩
  ·replace c6 := Bool.eq_false_iff.mpr c6
   subst c6
   have H1 : (some (([] : List Int), 10)) = some (r1, r2) := by rw [if_neg (show ¬ (false = true) by decide)] at H; exact H
   clear H; have H := H1; clear H1
   simp only [Option.some.injEq, Prod.mk.injEq] at H
   obtain ⟨rfl, rfl⟩ := H
   go_enter Try.func18, Try.ntmps18
   go_wp2_with (first | ((with_reducible refine zd 2 ?_); refine zbx (N := 2) (cs := #[.slice A0_0 l0_0.length c0_0, .slice A0_1 l0_1.length c0_1]) (t := 27) ?_; intro gb246 hg w13 hbox hb; have BK246 := zQ (hbox); have GW246 := zgz hg HB.out; have GE246 := GW246; replace HB := zbs HB.out hb; clear hb hbox hg) | ((with_reducible refine zd 10 ?_); refine Kd.R_lit (Kd.int .i64) _ 2 ?hg (N := 10) ?hd (xs := ([] : List Int)) (inner := []) (ok := fun _ => True) (okp := fun _ => True) ?hr ?hp (fun _ hk => hk) trivial (Below.refl _ _) (Nat.le_refl _) (by simp) ?_; (case hd => rfl); (case hg => rfl); (case hr => first | (go_simp; done) | (go_simp; rfl)); (case hp => exact (Reps.none _ _)); intro v248 w14 ho15 hb hg_ hnew_; clear hg_ hnew_; (first | rw [← Ny247.out] at ho15 | (simp only [Int.reduceToNat] at ho15; rw [← Ny247.out] at ho15)); have HO249 := zQ (Kd.R_lower ho15 (below_size (zB2 HB.out GE246.out))); replace BK246 := zbl BK246.out hb; replace HB := zbs2 HB.out GE246.out hb; clear hb ho15; obtain ⟨Ao16, co16, eo16⟩ := Kd.R_slice HO249.out; subst eo16) | ((with_reducible refine zgc 71 ?_); refine zgo (some 11) Try.func71 #[.pointer (some ⟨gb246, 0, none⟩), .slice A1 l1.length c1, .slice Ao16 y247.length co16] ?_; (with_reducible refine (spec_l11Code.calls k gb246 A0_0 c0_0 l0_0 A0_1 c0_1 l0_1 _ _ l1 _ _ y247 t250 _ (zb BK246.out) (zC HR0_0.out HB.out) HC0_0.out (zC HR0_1.out HB.out) HC0_1.out (zC HR1.out HB.out) HC1.out ?side8 ((Kd.R_reads' HO249.out).2.1) A3.out).mono ?_); (case side8 => exact zk (Kd.R_reads' HO249.out).2.2); rintro e w17 ⟨rfl, hb⟩; refine ⟨_, rfl, ?_⟩; replace HO249 := zRb HO249.out hb; replace BK246 := zbl BK246.out hb; replace HB := zbs2 HB.out GE246.out hb; (try clear hb)) | ((with_reducible refine zgc 72 ?_); refine zgo (some 17) Try.func72 #[.pointer (some ⟨gb246, 0, none⟩), .slice A1 l1.length c1] ?_; (with_reducible refine (spec_l11Fewest.calls k gb246 A0_0 c0_0 l0_0 A0_1 c0_1 l0_1 _ _ l1 t251 false _ (zb BK246.out) (zC HR0_0.out HB.out) HC0_0.out (zC HR0_1.out HB.out) HC0_1.out (zC HR1.out HB.out) HC1.out A5.out).mono ?_); rintro e w18 ⟨v252, rfl, ho0, hb⟩; refine ⟨_, rfl, ?_⟩; have HO253 := zQ (Kd.R_lower (Kd.R_new' ho0 (Kd.R_lt (zR HO249.out))) (below_size (zB2 HB.out GE246.out))); replace HO249 := zQ (Kd.R_elder' (zR HO249.out) (Kd.R_base ho0) hb); replace BK246 := zbl BK246.out hb; replace HB := zbs2 HB.out GE246.out hb; (try clear hb); (try clear ho0)))
   go_ret2
   exact ⟨_, zE, by first | exact Kd.R_nil _ _ _ _ _ | exact Kd.N_nil _ _ _ _ _ | exact Kd.V_nil _ _ _ _ _ | exact Kd.Q_nil _ _ _ _ _ | exact Kd.S_nil _ _ _ _ _, zB2 HB.out GE246.out⟩
 ·rw [if_neg c4] at H
  have c4b0 : (t250 == 0) = false := beq_eq_false_iff_ne.mpr c4; have c4b1 : (t250 != 0) = true := bne_iff_ne.mpr c4
  simp only [Option.some.injEq, Prod.mk.injEq] at H
  obtain ⟨rfl, rfl⟩ := H
  go_enter Try.func18, Try.ntmps18
  go_wp2_with (first | ((with_reducible refine zd 2 ?_); refine zbx (N := 2) (cs := #[.slice A0_0 l0_0.length c0_0, .slice A0_1 l0_1.length c0_1]) (t := 27) ?_; intro gb246 hg w19 hbox hb; have BK246 := zQ (hbox); have GW246 := zgz hg HB.out; have GE246 := GW246; replace HB := zbs HB.out hb; clear hb hbox hg) | ((with_reducible refine zd 10 ?_); refine Kd.R_lit (Kd.int .i64) _ 2 ?hg (N := 10) ?hd (xs := ([] : List Int)) (inner := []) (ok := fun _ => True) (okp := fun _ => True) ?hr ?hp (fun _ hk => hk) trivial (Below.refl _ _) (Nat.le_refl _) (by simp) ?_; (case hd => rfl); (case hg => rfl); (case hr => first | (go_simp; done) | (go_simp; rfl)); (case hp => exact (Reps.none _ _)); intro v248 w20 ho21 hb hg_ hnew_; clear hg_ hnew_; (first | rw [← Ny247.out] at ho21 | (simp only [Int.reduceToNat] at ho21; rw [← Ny247.out] at ho21)); have HO249 := zQ (Kd.R_lower ho21 (below_size (zB2 HB.out GE246.out))); replace BK246 := zbl BK246.out hb; replace HB := zbs2 HB.out GE246.out hb; clear hb ho21; obtain ⟨Ao22, co22, eo22⟩ := Kd.R_slice HO249.out; subst eo22) | ((with_reducible refine zgc 71 ?_); refine zgo (some 11) Try.func71 #[.pointer (some ⟨gb246, 0, none⟩), .slice A1 l1.length c1, .slice Ao22 y247.length co22] ?_; (with_reducible refine (spec_l11Code.calls k gb246 A0_0 c0_0 l0_0 A0_1 c0_1 l0_1 _ _ l1 _ _ y247 t250 _ (zb BK246.out) (zC HR0_0.out HB.out) HC0_0.out (zC HR0_1.out HB.out) HC0_1.out (zC HR1.out HB.out) HC1.out ?side8 ((Kd.R_reads' HO249.out).2.1) A3.out).mono ?_); (case side8 => exact zk (Kd.R_reads' HO249.out).2.2); rintro e w23 ⟨rfl, hb⟩; refine ⟨_, rfl, ?_⟩; replace HO249 := zRb HO249.out hb; replace BK246 := zbl BK246.out hb; replace HB := zbs2 HB.out GE246.out hb; (try clear hb)))
  go_ret2
  exact ⟨_, zE, by first | exact Kd.R_nil _ _ _ _ _ | exact Kd.N_nil _ _ _ _ _ | exact Kd.V_nil _ _ _ _ _ | exact Kd.Q_nil _ _ _ _ _ | exact Kd.S_nil _ _ _ _ _, zB2 HB.out GE246.out⟩

mutual
def laws_FnExactHoldingBars.j0 : Nat → List (S122) → List Int → Int → List (S113) → List Int → Int → Bool → List (S166) → List (S168) → List (S164) → List (S115) → Option (Bool)
 | 0, _, _, _, _, _, _, _, _, _, _, _ => none
 | k + 1, x1, x6, x7, x9, x10, x11, x53, x336000, x336001, x358000, x358001 => if x53 = true then (some false) else ((laws_toFrame.f k x336000 x336001).bind fun bt366 => ((laws_eqFrame.f k x358000 x358001 bt366.1 bt366.2).bind fun t372 => (if t372 = true then ((laws_toPullS.f k x1).bind fun t373 => ((laws_eqPullS.f k x9 t373).bind fun t376 => (if t376 = true then ((laws_markFrame.f k x358000 x358001 1).bind fun bt377 => ((laws_markPullS.f k x9 bt377.1).bind fun bt380 => (if bt380.1 < 0 then (laws_FnExactHoldingBars.j1 k x1 x6 x7 x10 true x336000 x336001) else ((laws_eqInt64S.f k x10 x6).bind fun t382 => (if t382 = true then (laws_FnExactHoldingBars.j1 k x1 x6 x7 x10 (x11 != x7) x336000 x336001) else (laws_FnExactHoldingBars.j1 k x1 x6 x7 x10 true x336000 x336001)))))) else (some false)))) else (some false))))
def laws_FnExactHoldingBars.j1 : Nat → List (S122) → List Int → Int → List Int → Bool → List (S166) → List (S168) → Option (Bool)
 | 0, _, _, _, _, _, _, _ => none
 | k + 1, x1, x6, x7, x10, x82, x336000, x336001 => if x82 = true then (some false) else ((laws_markInt64S.f k x10 1).bind fun bt383 => ((laws_heldInt64S.f k bt383.2 1).bind fun t385 => (if t385 < 0 then (some false) else (if t385 = bt383.1 then ((laws_toFrame.f k x336000 x336001).bind fun bt386 => ((laws_toPullS.f k x1).bind fun t392 => ((impl_HoldingBars.f k bt386.1 bt386.2 t392).bind fun bt395 => ((laws_eqInt64S.f k bt395.1 x6).bind fun t399 => (if t399 = true then (laws_FnExactHoldingBars.j2 k bt383.2 bt383.1 (bt395.2 != x7)) else (laws_FnExactHoldingBars.j2 k bt383.2 bt383.1 true)))))) else (some false)))))
def laws_FnExactHoldingBars.j2 : Nat → List Int → Int → Bool → Option (Bool)
 | 0, _, _, _ => none
 | k + 1, x10, x13, x110 => if x110 = true then (some false) else ((laws_heldInt64S.f k x10 1).bind fun t400 => (if t400 < 0 then (some false) else (if t400 = x13 then (some true) else (some false))))
end
def laws_FnExactHoldingBars.f (k : Nat) (l0_0 : List (S166)) (l0_1 : List (S168)) (l1 : List (S122)) : Option (Bool) := (laws_szFrame.f l0_0 l0_1 1048576).bind fun t336 => (if t336 < 0 then (some true) else ((laws_szPullS.f l1 t336).bind fun t337 => (if t337 < 0 then (some true) else ((laws_toFrame.f k l0_0 l0_1).bind fun bt338 => ((laws_toPullS.f k l1).bind fun t344 => ((spec_HoldingBars.f k bt338.1 bt338.2 t344).bind fun bt347 => ((laws_toFrame.f k l0_0 l0_1).bind fun bt351 => ((laws_toPullS.f k l1).bind fun t358 => ((impl_HoldingBars.f k bt351.1 bt351.2 t358).bind fun bt361 => ((laws_eqInt64S.f k bt361.1 bt347.1).bind fun t365 => (if t365 = true then (laws_FnExactHoldingBars.j0 k l1 bt347.1 bt347.2 t358 bt361.1 bt361.2 (bt361.2 != bt347.2) l0_0 l0_1 bt351.1 bt351.2) else (laws_FnExactHoldingBars.j0 k l1 bt347.1 bt347.2 t358 bt361.1 bt361.2 true l0_0 l0_1 bt351.1 bt351.2))))))))))))
theorem laws_FnExactHoldingBars.mono_l : ∀ k, (∀ y0 y1 y2 y3 y4 y5 y6 y7 y8 y9 y10, LeO (laws_FnExactHoldingBars.j0 k y0 y1 y2 y3 y4 y5 y6 y7 y8 y9 y10) (laws_FnExactHoldingBars.j0 (k + 1) y0 y1 y2 y3 y4 y5 y6 y7 y8 y9 y10)) ∧ (∀ y0 y1 y2 y3 y4 y5 y6, LeO (laws_FnExactHoldingBars.j1 k y0 y1 y2 y3 y4 y5 y6) (laws_FnExactHoldingBars.j1 (k + 1) y0 y1 y2 y3 y4 y5 y6)) ∧ (∀ y0 y1 y2, LeO (laws_FnExactHoldingBars.j2 k y0 y1 y2) (laws_FnExactHoldingBars.j2 (k + 1) y0 y1 y2))
 | 0 => ⟨fun _ _ _ _ _ _ _ _ _ _ _ r h => by simp [laws_FnExactHoldingBars.j0] at h, fun _ _ _ _ _ _ _ r h => by simp [laws_FnExactHoldingBars.j1] at h, fun _ _ _ r h => by simp [laws_FnExactHoldingBars.j2] at h⟩
 | k + 1 => by
  obtain ⟨ih0, ih1, ih2⟩ := laws_FnExactHoldingBars.mono_l k
  refine ⟨?_, ?_, ?_⟩
  ·intro y0 y1 y2 y3 y4 y5 y6 y7 y8 y9 y10
   unfold laws_FnExactHoldingBars.j0
   (with_reducible repeat' first | apply ih0 | apply ih1 | apply ih2 | apply impl_HoldingBars.mono | apply laws_eqFrame.mono | apply laws_eqInt64S.mono | apply laws_eqPullS.mono | apply laws_heldInt64S.mono | apply laws_markFrame.mono | apply laws_markInt64S.mono | apply laws_markPullS.mono | apply laws_toFrame.mono | apply laws_toPullS.mono | apply spec_HoldingBars.mono | apply LeO.refl | apply LeO.none | refine LeO.ite ?_ ?_ | refine LeO.bind ?_ (fun _ => ?_))
   repeat' first | apply ih0 | apply ih1 | apply ih2 | apply impl_HoldingBars.mono | apply laws_eqFrame.mono | apply laws_eqInt64S.mono | apply laws_eqPullS.mono | apply laws_heldInt64S.mono | apply laws_markFrame.mono | apply laws_markInt64S.mono | apply laws_markPullS.mono | apply laws_toFrame.mono | apply laws_toPullS.mono | apply spec_HoldingBars.mono | apply LeO.none | refine LeO.ite ?_ ?_ | refine LeO.bind ?_ (fun _ => ?_)
  ·intro y0 y1 y2 y3 y4 y5 y6
   unfold laws_FnExactHoldingBars.j1
   (with_reducible repeat' first | apply ih0 | apply ih1 | apply ih2 | apply impl_HoldingBars.mono | apply laws_eqFrame.mono | apply laws_eqInt64S.mono | apply laws_eqPullS.mono | apply laws_heldInt64S.mono | apply laws_markFrame.mono | apply laws_markInt64S.mono | apply laws_markPullS.mono | apply laws_toFrame.mono | apply laws_toPullS.mono | apply spec_HoldingBars.mono | apply LeO.refl | apply LeO.none | refine LeO.ite ?_ ?_ | refine LeO.bind ?_ (fun _ => ?_))
   repeat' first | apply ih0 | apply ih1 | apply ih2 | apply impl_HoldingBars.mono | apply laws_eqFrame.mono | apply laws_eqInt64S.mono | apply laws_eqPullS.mono | apply laws_heldInt64S.mono | apply laws_markFrame.mono | apply laws_markInt64S.mono | apply laws_markPullS.mono | apply laws_toFrame.mono | apply laws_toPullS.mono | apply spec_HoldingBars.mono | apply LeO.none | refine LeO.ite ?_ ?_ | refine LeO.bind ?_ (fun _ => ?_)
  ·intro y0 y1 y2
   unfold laws_FnExactHoldingBars.j2
   (with_reducible repeat' first | apply ih0 | apply ih1 | apply ih2 | apply impl_HoldingBars.mono | apply laws_eqFrame.mono | apply laws_eqInt64S.mono | apply laws_eqPullS.mono | apply laws_heldInt64S.mono | apply laws_markFrame.mono | apply laws_markInt64S.mono | apply laws_markPullS.mono | apply laws_toFrame.mono | apply laws_toPullS.mono | apply spec_HoldingBars.mono | apply LeO.refl | apply LeO.none | refine LeO.ite ?_ ?_ | refine LeO.bind ?_ (fun _ => ?_))
   repeat' first | apply ih0 | apply ih1 | apply ih2 | apply impl_HoldingBars.mono | apply laws_eqFrame.mono | apply laws_eqInt64S.mono | apply laws_eqPullS.mono | apply laws_heldInt64S.mono | apply laws_markFrame.mono | apply laws_markInt64S.mono | apply laws_markPullS.mono | apply laws_toFrame.mono | apply laws_toPullS.mono | apply spec_HoldingBars.mono | apply LeO.none | refine LeO.ite ?_ ?_ | refine LeO.bind ?_ (fun _ => ?_)
theorem laws_FnExactHoldingBars.mono : ∀ a0 a1 a2 k, LeO (laws_FnExactHoldingBars.f k a0 a1 a2) (laws_FnExactHoldingBars.f (k + 1) a0 a1 a2) := by
 intro a0 a1 a2 k
 obtain ⟨ih0, ih1, ih2⟩ := laws_FnExactHoldingBars.mono_l k
 unfold laws_FnExactHoldingBars.f
 (with_reducible repeat' first | apply ih0 | apply ih1 | apply ih2 | apply impl_HoldingBars.mono | apply laws_eqFrame.mono | apply laws_eqInt64S.mono | apply laws_eqPullS.mono | apply laws_heldInt64S.mono | apply laws_markFrame.mono | apply laws_markInt64S.mono | apply laws_markPullS.mono | apply laws_toFrame.mono | apply laws_toPullS.mono | apply spec_HoldingBars.mono | apply LeO.refl | apply LeO.none | refine LeO.ite ?_ ?_ | refine LeO.bind ?_ (fun _ => ?_))
 repeat' first | apply ih0 | apply ih1 | apply ih2 | apply impl_HoldingBars.mono | apply laws_eqFrame.mono | apply laws_eqInt64S.mono | apply laws_eqPullS.mono | apply laws_heldInt64S.mono | apply laws_markFrame.mono | apply laws_markInt64S.mono | apply laws_markPullS.mono | apply laws_toFrame.mono | apply laws_toPullS.mono | apply spec_HoldingBars.mono | apply LeO.none | refine LeO.ite ?_ ?_ | refine LeO.bind ?_ (fun _ => ?_)
theorem laws_FnExactHoldingBars.j0_cut (k : Nat) (x0_ : List (S122)) (x1_ : List Int) (x2_ : Int) (x3_ : List (S113)) (x4_ : List Int) (x5_ : Int) (x7_ : List (S166)) (x8_ : List (S168)) (x9_ : List (S164)) (x10_ : List (S115)) (r : Bool) (h : laws_FnExactHoldingBars.j0 k x0_ x1_ x2_ x3_ x4_ x5_ true x7_ x8_ x9_ x10_ = some r) (hr : r = true) : False := by
 cases k with
 | zero => simp only [laws_FnExactHoldingBars.j0] at h; cases h
 | succ k =>
  have h2 : some false = some r := h
  cases h2
  cases hr
theorem laws_FnExactHoldingBars.j1_cut (k : Nat) (x0_ : List (S122)) (x1_ : List Int) (x2_ : Int) (x3_ : List Int) (x5_ : List (S166)) (x6_ : List (S168)) (r : Bool) (h : laws_FnExactHoldingBars.j1 k x0_ x1_ x2_ x3_ true x5_ x6_ = some r) (hr : r = true) : False := by
 cases k with
 | zero => simp only [laws_FnExactHoldingBars.j1] at h; cases h
 | succ k =>
  have h2 : some false = some r := h
  cases h2
  cases hr
theorem laws_FnExactHoldingBars.j2_cut (k : Nat) (x0_ : List Int) (x1_ : Int) (r : Bool) (h : laws_FnExactHoldingBars.j2 k x0_ x1_ true = some r) (hr : r = true) : False := by
 cases k with
 | zero => simp only [laws_FnExactHoldingBars.j2] at h; cases h
 | succ k =>
  have h2 : some false = some r := h
  cases h2
  cases hr
theorem laws_FnExactHoldingBars.calls (k : Nat) (A0_0 : Option Addr) (c0_0 : Nat) (l0_0 : List (S166)) (A0_1 : Option Addr) (c0_1 : Nat) (l0_1 : List (S168)) (A1 : Option Addr) (c1 : Nat) (l1 : List (S122)) (r : Bool) (w : World) (hr0_0 : Kd.C k166 w A0_0 l0_0.length l0_0) (hc0_0 : l0_0.length ≤ c0_0) (hr0_1 : Kd.C k168 w A0_1 l0_1.length l0_1) (hc0_1 : l0_1.length ≤ c0_1) (hr1 : Kd.C k122 w A1 l1.length l1) (hc1 : l1.length ≤ c1) (h : laws_FnExactHoldingBars.f k l0_0 l0_1 l1 = some r) (hrt : r = true) :
  Calls Try.prog 8 #[.agg #[.slice A0_0 l0_0.length c0_0, .slice A0_1 l0_1.length c0_1], .slice A1 l1.length c1] w fun e w' => e = .returned (.bool r) ∧ Below w.heap.size w w' := by
 have HRT := zQ hrt
 clear hrt
 have hu54 := Try.underlying54
 have hu27 := Try.underlying27
 have HR0_0 := zQ hr0_0
 have HC0_0 := zQ hc0_0
 clear hr0_0 hc0_0
 have HR0_1 := zQ hr0_1
 have HC0_1 := zQ hc0_1
 clear hr0_1 hc0_1
 have HR1 := zQ hr1
 have HC1 := zQ hc1
 clear hr1 hc1
 have HB := zQ (Below.refl w.heap.size w)
 have H : ((laws_szFrame.f l0_0 l0_1 1048576).bind fun t336 => (if t336 < 0 then (some true) else ((laws_szPullS.f l1 t336).bind fun t337 => (if t337 < 0 then (some true) else ((laws_toFrame.f k l0_0 l0_1).bind fun bt338 => ((laws_toPullS.f k l1).bind fun t344 => ((spec_HoldingBars.f k bt338.1 bt338.2 t344).bind fun bt347 => ((laws_toFrame.f k l0_0 l0_1).bind fun bt351 => ((laws_toPullS.f k l1).bind fun t358 => ((impl_HoldingBars.f k bt351.1 bt351.2 t358).bind fun bt361 => ((laws_eqInt64S.f k bt361.1 bt347.1).bind fun t365 => (if t365 = true then (laws_FnExactHoldingBars.j0 k l1 bt347.1 bt347.2 t358 bt361.1 bt361.2 (bt361.2 != bt347.2) l0_0 l0_1 bt351.1 bt351.2) else (laws_FnExactHoldingBars.j0 k l1 bt347.1 bt347.2 t358 bt361.1 bt361.2 true l0_0 l0_1 bt351.1 bt351.2))))))))))))) = some r := h
 clear h
 replace H := zob H; obtain ⟨t336, A3, H⟩ := H
 by_cases c4 : t336 < 0
 ·rw [if_pos c4] at H
  have c4b0 := decide_eq_true c4; clear c4; obtain rfl := Option.some.inj H
  go_enter Try.func8, Try.ntmps8
  go_wp2_with (first | ((with_reducible refine zd 2 ?_); refine zbx (N := 2) (cs := #[.slice A0_0 l0_0.length c0_0, .slice A0_1 l0_1.length c0_1]) (t := 54) ?_; intro gb335 hg w5 hbox hb; have BK335 := zQ (hbox); have GW335 := zgz hg HB.out; have GE335 := GW335; replace HB := zbs HB.out hb; clear hb hbox hg; obtain ⟨hcz6_0, hcz6_1, hfz6_0, hfz6_1⟩ := zy2 BK335.out) | ((with_reducible refine zgc 34 ?_); refine zgo (some 19) Try.func34 #[.agg #[.slice A0_0 l0_0.length c0_0, .slice A0_1 l0_1.length c0_1], .int .i64 1048576] ?_; (with_reducible refine (laws_szFrame.calls _ _ l0_0 _ _ l0_1 1048576 t336 _ (zC HR0_0.out HB.out) HC0_0.out (zC HR0_1.out HB.out) HC0_1.out A3.out).mono ?_); rintro e w7 ⟨rfl, hb⟩; refine ⟨_, rfl, ?_⟩; replace BK335 := zbl BK335.out hb; replace HB := zbs2 HB.out GE335.out hb; (try clear hb)))
  go_ret
  exact ⟨zE, zB2 HB.out GE335.out⟩
 ·rw [if_neg c4] at H
  have c4b0 := decide_eq_false c4; clear c4; replace H := zob H; obtain ⟨t337, A8, H⟩ := H
  by_cases c9 : t337 < 0
  ·rw [if_pos c9] at H
   have c9b0 := decide_eq_true c9; clear c9; obtain rfl := Option.some.inj H
   go_enter Try.func8, Try.ntmps8
   go_wp2_with (first | ((with_reducible refine zd 2 ?_); refine zbx (N := 2) (cs := #[.slice A0_0 l0_0.length c0_0, .slice A0_1 l0_1.length c0_1]) (t := 54) ?_; intro gb335 hg w10 hbox hb; have BK335 := zQ (hbox); have GW335 := zgz hg HB.out; have GE335 := GW335; replace HB := zbs HB.out hb; clear hb hbox hg; obtain ⟨hcz11_0, hcz11_1, hfz11_0, hfz11_1⟩ := zy2 BK335.out) | ((with_reducible refine zgc 34 ?_); refine zgo (some 19) Try.func34 #[.agg #[.slice A0_0 l0_0.length c0_0, .slice A0_1 l0_1.length c0_1], .int .i64 1048576] ?_; (with_reducible refine (laws_szFrame.calls _ _ l0_0 _ _ l0_1 1048576 t336 _ (zC HR0_0.out HB.out) HC0_0.out (zC HR0_1.out HB.out) HC0_1.out A3.out).mono ?_); rintro e w12 ⟨rfl, hb⟩; refine ⟨_, rfl, ?_⟩; replace BK335 := zbl BK335.out hb; replace HB := zbs2 HB.out GE335.out hb; (try clear hb)) | ((with_reducible refine zgc 35 ?_); refine zgo (some 24) Try.func35 #[.slice A1 l1.length c1, .int .i64 t336] ?_; (with_reducible refine (laws_szPullS.calls _ _ l1 t336 t337 _ (zC HR1.out HB.out) HC1.out A8.out).mono ?_); rintro e w' ⟨rfl, ⟨nd, rfl⟩⟩; refine ⟨_, rfl, ?_⟩))
   go_ret
   exact ⟨zE, zB2 HB.out GE335.out⟩
  ·rw [if_neg c9] at H
   have c9b0 := decide_eq_false c9; clear c9; replace H := zob H; obtain ⟨⟨t338, t341⟩, A13, H⟩ := H; replace H := zob H; obtain ⟨t344, A14, H⟩ := H; replace H := zob H; obtain ⟨⟨t347, t350⟩, A15, H⟩ := H; replace H := zob H; obtain ⟨⟨t351, t354⟩, A16, H⟩ := H; replace H := zob H; obtain ⟨t358, A17, H⟩ := H
   replace H := zob H; obtain ⟨⟨t361, t364⟩, A18, H⟩ := H; have HC19 := zQ H; clear H
   go_enter Try.func8, Try.ntmps8
   go_upto_region 12 with (first | ((with_reducible refine zd 2 ?_); refine zbx (N := 2) (cs := #[.slice A0_0 l0_0.length c0_0, .slice A0_1 l0_1.length c0_1]) (t := 54) ?_; intro gb335 hg w20 hbox hb; have BK335 := zQ (hbox); have GW335 := zgz hg HB.out; have GE335 := GW335; replace HB := zbs HB.out hb; clear hb hbox hg; obtain ⟨hcz21_0, hcz21_1, hfz21_0, hfz21_1⟩ := zy2 BK335.out) | ((with_reducible refine zgc 34 ?_); refine zgo (some 19) Try.func34 #[.agg #[.slice A0_0 l0_0.length c0_0, .slice A0_1 l0_1.length c0_1], .int .i64 1048576] ?_; (with_reducible refine (laws_szFrame.calls _ _ l0_0 _ _ l0_1 1048576 t336 _ (zC HR0_0.out HB.out) HC0_0.out (zC HR0_1.out HB.out) HC0_1.out A3.out).mono ?_); rintro e w22 ⟨rfl, hb⟩; refine ⟨_, rfl, ?_⟩; replace BK335 := zbl BK335.out hb; replace HB := zbs2 HB.out GE335.out hb; (try clear hb)) | ((with_reducible refine zgc 35 ?_); refine zgo (some 24) Try.func35 #[.slice A1 l1.length c1, .int .i64 t336] ?_; (with_reducible refine (laws_szPullS.calls _ _ l1 t336 t337 _ (zC HR1.out HB.out) HC1.out A8.out).mono ?_); rintro e w' ⟨rfl, ⟨nd, rfl⟩⟩; refine ⟨_, rfl, ?_⟩; (try (rw [drewN_self w22]; generalize hq_ : World.drewN w22 _ = w22; have n0_ : Aside0 (w22.heap[gb335]? = some (.cells #[.slice A0_0 l0_0.length c0_0, .slice A0_1 l0_1.length c0_1] 54 (0, 0))) := ⟨by rw [← hq_]; exact (zb BK335.out)⟩; have n1_ : Aside0 (Below w.heap.size w w22) := ⟨by rw [← hq_]; exact (zB2 HB.out GE335.out)⟩; clear BK335 HB hq_; have BK335 := n0_; have HB := n1_; clear n0_ n1_)); (try (have hczrw22_gb335_0 := zc0 BK335.out)); (try (have hfzrw22_gb335_0 := zfz BK335.out 0)); (try (have hczrw22_gb335_1 := zc1 BK335.out)); (try (have hfzrw22_gb335_1 := zfz BK335.out 1)); obtain ⟨hcz23_0, hcz23_1, hfz23_0, hfz23_1⟩ := zy2 BK335.out) | ((with_reducible refine zgc 36 ?_); refine zgo (some 29) Try.func36 #[.agg #[.slice A0_0 l0_0.length c0_0, .slice A0_1 l0_1.length c0_1]] ?_; (with_reducible refine (laws_toFrame.calls k _ _ l0_0 _ _ l0_1 t338 t341 _ (zC HR0_0.out HB.out) HC0_0.out (zC HR0_1.out HB.out) HC0_1.out A13.out).mono ?_); rintro e w24 ⟨v339, v342, rfl, ho0, ho1, hb⟩; refine ⟨_, rfl, ?_⟩; have HO340 := zQ (Kd.R_lower ho0 (below_size (zB2 HB.out GE335.out))); have HO343 := zQ (Kd.R_lower ho1 (below_size (zB2 HB.out GE335.out))); replace BK335 := zbl BK335.out hb; replace HB := zbs2 HB.out GE335.out hb; (try clear hb); (try clear ho0); (try clear ho1)) | ((with_reducible refine zgc 37 ?_); refine zgo (some 31) Try.func37 #[.slice A1 l1.length c1] ?_; (with_reducible refine (laws_toPullS.calls k _ _ l1 t344 _ (zC HR1.out HB.out) HC1.out A14.out).mono ?_); rintro e w25 ⟨v345, rfl, ho0, hb⟩; refine ⟨_, rfl, ?_⟩; have HO346 := zQ (Kd.R_lower ho0 (below_size (zB2 HB.out GE335.out))); replace HO340 := zRb HO340.out hb; replace HO343 := zRb HO343.out hb; replace BK335 := zbl BK335.out hb; replace HB := zbs2 HB.out GE335.out hb; (try clear hb); (try clear ho0); obtain ⟨Ao26, co26, eo26⟩ := Kd.R_slice HO340.out; subst eo26; obtain ⟨Ao27, co27, eo27⟩ := Kd.R_slice HO343.out; subst eo27; obtain ⟨Ao28, co28, eo28⟩ := Kd.R_slice HO346.out; subst eo28) | ((with_reducible refine zgc 18 ?_); refine zgo (some 32) Try.func18 #[.agg #[.slice Ao26 t338.length co26, .slice Ao27 t341.length co27], .slice Ao28 t344.length co28] ?_; (with_reducible refine (spec_HoldingBars.calls k _ _ t338 _ _ t341 _ _ t344 t347 t350 _ ?side1 ((Kd.R_reads' HO340.out).2.1) ?side3 ((Kd.R_reads' HO343.out).2.1) ?side5 ((Kd.R_reads' HO346.out).2.1) A15.out).mono ?_); (case side1 => exact zk (Kd.R_reads' HO340.out).2.2); (case side3 => exact zk (Kd.R_reads' HO343.out).2.2); (case side5 => exact zk (Kd.R_reads' HO346.out).2.2); rintro e w29 ⟨v348, rfl, ho0, hb⟩; refine ⟨_, rfl, ?_⟩; have HO349 := zQ (Kd.R_lower ho0 (below_size (zB2 HB.out GE335.out))); replace HO340 := zRb HO340.out hb; replace HO343 := zRb HO343.out hb; replace HO346 := zRb HO346.out hb; replace BK335 := zbl BK335.out hb; replace HB := zbs2 HB.out GE335.out hb; (try clear hb); (try clear ho0); obtain ⟨hcz30_0, hcz30_1, hfz30_0, hfz30_1⟩ := zy2 BK335.out) | ((with_reducible refine zgc 36 ?_); refine zgo (some 36) Try.func36 #[.agg #[.slice A0_0 l0_0.length c0_0, .slice A0_1 l0_1.length c0_1]] ?_; (with_reducible refine (laws_toFrame.calls k _ _ l0_0 _ _ l0_1 t351 t354 _ (zC HR0_0.out HB.out) HC0_0.out (zC HR0_1.out HB.out) HC0_1.out A16.out).mono ?_); rintro e w31 ⟨v352, v355, rfl, ho0, ho1, hb⟩; refine ⟨_, rfl, ?_⟩; have HO353 := zQ (Kd.R_lower (Kd.R_new' ho0 (Kd.R_lt (zR HO340.out))) (below_size (zB2 HB.out GE335.out))); have HO356 := zQ (Kd.R_lower (Kd.R_new' ho1 (Kd.R_lt (zR HO343.out))) (below_size (zB2 HB.out GE335.out))); replace HO340 := zQ (Kd.R_elder' (zR HO340.out) (Kd.R_base ho0) hb); replace HO343 := zQ (Kd.R_elder' (zR HO343.out) (Kd.R_base ho1) hb); replace HO346 := zRb HO346.out hb; replace HO349 := zRb HO349.out hb; replace BK335 := zbl BK335.out hb; replace HB := zbs2 HB.out GE335.out hb; (try clear hb); (try clear ho0); (try clear ho1)) | ((with_reducible refine zd 8 ?_); refine zbx (N := 8) (cs := #[.slice none 0 0, .slice none 0 0]) (t := 27) ?_; intro gb357 hg w32 hbox hb; have BK357 := zQ (hbox); have GW357 := zgz2 hg HB.out GE335.out; have GE357 := GW357; have NB335_357 := zn1 hg BK335.out; have NB357_335 := zn2 hg BK335.out; replace HO340 := zRb HO340.out hb; replace HO343 := zRb HO343.out hb; replace HO346 := zRb HO346.out hb; replace HO349 := zRb HO349.out hb; replace HO353 := zRb HO353.out hb; replace HO356 := zRb HO356.out hb; replace BK335 := zbl BK335.out hb; replace HB := zbs2 HB.out GE335.out hb; clear hb hbox hg; obtain ⟨Ao33, co33, eo33⟩ := Kd.R_slice HO353.out; subst eo33; have hnb34 := NB357_335.out; have hnc34 := NB335_357.out; obtain ⟨hcz35_0, hcz35_1, hfz35_0, hfz35_1⟩ := zy2 BK357.out; obtain ⟨Ao36, co36, eo36⟩ := Kd.R_slice HO356.out; subst eo36) | ((with_reducible refine zgc 37 ?_); refine zgo (some 38) Try.func37 #[.slice A1 l1.length c1] ?_; (with_reducible refine (laws_toPullS.calls k _ _ l1 t358 _ (Kd.C_below HR1.out (zB3 HB.out GE335.out GE357.out)) HC1.out A17.out).mono ?_); rintro e w37 ⟨v359, rfl, ho0, hb⟩; refine ⟨_, rfl, ?_⟩; have HO360 := zQ (Kd.R_lower (Kd.R_new' ho0 (Kd.R_lt (by (with_reducible repeat (first | apply Kd.R_alloc | apply Kd.R_drewN | apply Kd.R_drew)); exact (Kd.R_mono (Kd.R_far (p := ⟨gb357, 1, none⟩) (Kd.R_far (p := ⟨gb357, 0, none⟩) (Kd.R_types HO346.out BK357.out (by decide)) (fun _ hk => hk.2) (.slice Ao33 t351.length co33)) (fun _ hk => hk.2) (.slice Ao36 t354.length co36)) (fun _ h_ => h_.1))))) (below_size (zB3 HB.out GE335.out GE357.out))); replace HO340 := zQ (Kd.R_below (by (with_reducible repeat (first | apply Kd.R_alloc | apply Kd.R_drewN | apply Kd.R_drew)); exact (Kd.R_mono (Kd.R_far (p := ⟨gb357, 1, none⟩) (Kd.R_far (p := ⟨gb357, 0, none⟩) (Kd.R_types HO340.out BK357.out (by decide)) (fun _ hk => hk.2) (.slice Ao33 t351.length co33)) (fun _ hk => hk.2) (.slice Ao36 t354.length co36)) (fun _ h_ => h_.1))) hb); replace HO343 := zQ (Kd.R_below (by (with_reducible repeat (first | apply Kd.R_alloc | apply Kd.R_drewN | apply Kd.R_drew)); exact (Kd.R_mono (Kd.R_far (p := ⟨gb357, 1, none⟩) (Kd.R_far (p := ⟨gb357, 0, none⟩) (Kd.R_types HO343.out BK357.out (by decide)) (fun _ hk => hk.2) (.slice Ao33 t351.length co33)) (fun _ hk => hk.2) (.slice Ao36 t354.length co36)) (fun _ h_ => h_.1))) hb); replace HO346 := zQ (Kd.R_elder' (by (with_reducible repeat (first | apply Kd.R_alloc | apply Kd.R_drewN | apply Kd.R_drew)); exact (Kd.R_mono (Kd.R_far (p := ⟨gb357, 1, none⟩) (Kd.R_far (p := ⟨gb357, 0, none⟩) (Kd.R_types HO346.out BK357.out (by decide)) (fun _ hk => hk.2) (.slice Ao33 t351.length co33)) (fun _ hk => hk.2) (.slice Ao36 t354.length co36)) (fun _ h_ => h_.1))) (Kd.R_base ho0) hb); replace HO349 := zQ (Kd.R_below (by (with_reducible repeat (first | apply Kd.R_alloc | apply Kd.R_drewN | apply Kd.R_drew)); exact (Kd.R_mono (Kd.R_far (p := ⟨gb357, 1, none⟩) (Kd.R_far (p := ⟨gb357, 0, none⟩) (Kd.R_types HO349.out BK357.out (by decide)) (fun _ hk => hk.2) (.slice Ao33 t351.length co33)) (fun _ hk => hk.2) (.slice Ao36 t354.length co36)) (fun _ h_ => h_.1))) hb); replace HO353 := zQ (Kd.R_below (by (with_reducible repeat (first | apply Kd.R_alloc | apply Kd.R_drewN | apply Kd.R_drew)); exact (Kd.R_mono (Kd.R_far (p := ⟨gb357, 1, none⟩) (Kd.R_far (p := ⟨gb357, 0, none⟩) (Kd.R_types HO353.out BK357.out (by decide)) (fun _ hk => hk.2) (.slice Ao33 t351.length co33)) (fun _ hk => hk.2) (.slice Ao36 t354.length co36)) (fun _ h_ => h_.1))) hb); replace HO356 := zQ (Kd.R_below (by (with_reducible repeat (first | apply Kd.R_alloc | apply Kd.R_drewN | apply Kd.R_drew)); exact (Kd.R_mono (Kd.R_far (p := ⟨gb357, 1, none⟩) (Kd.R_far (p := ⟨gb357, 0, none⟩) (Kd.R_types HO356.out BK357.out (by decide)) (fun _ hk => hk.2) (.slice Ao33 t351.length co33)) (fun _ hk => hk.2) (.slice Ao36 t354.length co36)) (fun _ h_ => h_.1))) hb); replace BK335 := zQ (blk_below (g := gb335) (o := .cells #[.slice A0_0 l0_0.length c0_0, .slice A0_1 l0_1.length c0_1] 54 (0, 0)) (by refine zb ?_; refine blk_far ?_ NB335_357.out _; refine zb ?_; refine blk_far ?_ NB335_357.out _; refine zb ?_; exact BK335.out) hb); replace BK357 := zQ (blk_below (g := gb357) (o := .cells #[.slice Ao33 t351.length co33, .slice Ao36 t354.length co36] 27 (0, 0)) (by refine zb ?_; refine blk_put (cs := #[.slice Ao33 t351.length co33, .slice none 0 0]) ?_ 1 _ rfl; refine zb ?_; refine blk_put (cs := #[.slice none 0 0, .slice none 0 0]) ?_ 0 _ rfl; refine zb ?_; exact BK357.out) hb); replace HB := zQ (below_step (zB3 HB.out GE335.out GE357.out) hb); (try clear hb); (try clear ho0); obtain ⟨hcz38_0, hcz38_1, hfz38_0, hfz38_1⟩ := zy2 BK357.out; obtain ⟨Ao39, co39, eo39⟩ := Kd.R_slice HO360.out; subst eo39) | ((with_reducible refine zgc 17 ?_); refine zgo (some 42) Try.func17 #[.agg #[.slice Ao33 t351.length co33, .slice Ao36 t354.length co36], .slice Ao39 t358.length co39] ?_; (with_reducible refine (impl_HoldingBars.calls k _ _ t351 _ _ t354 _ _ t358 t361 t364 _ ?side1 ((Kd.R_reads' HO353.out).2.1) ?side3 ((Kd.R_reads' HO356.out).2.1) ?side5 ((Kd.R_reads' HO360.out).2.1) A18.out).mono ?_); (case side1 => exact zk (Kd.R_reads' HO353.out).2.2); (case side3 => exact zk (Kd.R_reads' HO356.out).2.2); (case side5 => exact zk (Kd.R_reads' HO360.out).2.2); rintro e w40 ⟨v362, rfl, ho0, hb⟩; refine ⟨_, rfl, ?_⟩; have HO363 := zQ (Kd.R_lower (Kd.R_new' ho0 (Kd.R_lt (zR HO349.out))) (below_size (zB3 HB.out GE335.out GE357.out))); replace HO340 := zRb HO340.out hb; replace HO343 := zRb HO343.out hb; replace HO346 := zRb HO346.out hb; replace HO349 := zQ (Kd.R_elder' (zR HO349.out) (Kd.R_base ho0) hb); replace HO353 := zRb HO353.out hb; replace HO356 := zRb HO356.out hb; replace HO360 := zRb HO360.out hb; replace BK335 := zbl BK335.out hb; replace BK357 := zbl BK357.out hb; replace HB := zQ (below_step (zB3 HB.out GE335.out GE357.out) hb); (try clear hb); (try clear ho0)))
   (try simp only [Act.put, List.setIfInBounds_toArray, List.set_cons_zero, List.set_cons_succ])
   go_cut [53] (fun v53 wc => ∃ (kq : Nat) (x53_18 : Bool), v53 = .bool x53_18 ∧ Aside0 (laws_FnExactHoldingBars.j0 kq l1 t347 t350 t358 t361 t364 x53_18 l0_0 l0_1 t351 t354 = some r) ∧ Aside0 (kq ≤ k) ∧ Aside0 (Kd.R (Kd.int .i64) 2 wc w.heap.size (fun k_ => some k_ ≠ (v362 : Value).ownBlock) v348 t347) ∧ Aside0 (Kd.R k113 113 wc w.heap.size (fun _ => True) (.slice Ao39 t358.length co39) t358) ∧ Aside0 (Kd.R (Kd.int .i64) 2 wc w.heap.size (fun k_ => some k_ ≠ (v348 : Value).ownBlock) v362 t361) ∧ Aside0 (Kd.R k164 164 wc w.heap.size (fun _ => True) (.slice Ao33 t351.length co33) t351) ∧ Aside0 (Kd.R k115 115 wc w.heap.size (fun _ => True) (.slice Ao36 t354.length co36) t354) ∧ Aside0 (wc.heap[gb335]? = some (.cells #[(.slice A0_0 l0_0.length c0_0), (.slice A0_1 l0_1.length c0_1)] 54 (0, 0))) ∧ Aside0 (wc.heap[gb357]? = some (.cells #[(.slice Ao33 t351.length co33), (.slice Ao36 t354.length co36)] 27 (0, 0))) ∧ Aside0 (Below w.heap.size w wc))
   case first =>
    have H := HC19.out; clear HC19; replace H := zob H; obtain ⟨t365, A41, H⟩ := H
    by_cases c42 : t365 = true
    ·subst c42
     rw [if_pos rfl] at H; have H' := zQ H; clear H; obtain ⟨Ao43, co43, eo43⟩ := Kd.R_slice HO363.out; subst eo43; obtain ⟨Ao44, co44, eo44⟩ := Kd.R_slice HO349.out; subst eo44
     go_wp2_with (first | ((with_reducible refine zgc 41 ?_); refine zgo (some 47) Try.func41 #[.slice Ao43 t361.length co43, .slice Ao44 t347.length co44] ?_; (with_reducible refine (laws_eqInt64S.calls k _ _ t361 _ _ t347 true _ ?side1 ((Kd.R_reads' HO363.out).2.1) ?side3 ((Kd.R_reads' HO349.out).2.1) A41.out).mono ?_); (case side1 => exact zk (Kd.R_reads' HO363.out).2.2); (case side3 => exact zk (Kd.R_reads' HO349.out).2.2); rintro e w' ⟨rfl, ⟨nd, rfl⟩⟩; refine ⟨_, rfl, ?_⟩))
     go_meet
     case rel => exact ⟨_, ((t364 != t350)), (zF), H', ⟨by first | omega | exact Nat.le_refl _⟩, ⟨by (with_reducible repeat (first | apply Kd.R_alloc | apply Kd.R_drewN | apply Kd.R_drew)); exact Kd.R_mono HO349.out (fun _ hk => hk.2)⟩, ⟨by (with_reducible repeat (first | apply Kd.R_alloc | apply Kd.R_drewN | apply Kd.R_drew)); exact Kd.R_mono HO360.out (fun _ hk => trivial)⟩, ⟨by (with_reducible repeat (first | apply Kd.R_alloc | apply Kd.R_drewN | apply Kd.R_drew)); exact Kd.R_mono HO363.out (fun _ hk => hk.2)⟩, ⟨by (with_reducible repeat (first | apply Kd.R_alloc | apply Kd.R_drewN | apply Kd.R_drew)); exact Kd.R_mono HO353.out (fun _ hk => trivial)⟩, ⟨by (with_reducible repeat (first | apply Kd.R_alloc | apply Kd.R_drewN | apply Kd.R_drew)); exact Kd.R_mono HO356.out (fun _ hk => trivial)⟩, ⟨zb BK335.out⟩, ⟨zb BK357.out⟩, ⟨zB3 HB.out GE335.out GE357.out⟩⟩
    ·replace c42 := Bool.eq_false_iff.mpr c42
     subst c42
     have H1 : (laws_FnExactHoldingBars.j0 k l1 t347 t350 t358 t361 t364 true l0_0 l0_1 t351 t354) = some r := by rw [if_neg (show ¬ (false = true) by decide)] at H; exact H
     clear H; have H := H1; clear H1
     exact (laws_FnExactHoldingBars.j0_cut _ _ _ _ _ _ _ _ _ _ _ _ H HRT.out).elim
   case rest =>
    clear HC19; (try clear c1); (try clear p2); (try clear c3); (try clear c4); (try clear c4b0); (try clear c8); (try clear c9); (try clear c9b0); (try clear c17); (try clear c18); (try clear c34); (try clear c35); (try clear c36); (try clear c37); (try clear c41); (try clear c42); (try clear hcz11_0 hcz11_1 hfz11_0 hfz11_1); (try clear hcz21_0 hcz21_1 hfz21_0 hfz21_1); (try clear hcz23_0 hcz23_1 hfz23_0 hfz23_1); (try clear hcz30_0 hcz30_1 hfz30_0 hfz30_1); (try clear hcz35_0 hcz35_1 hfz35_0 hfz35_1); (try clear hcz38_0 hcz38_1 hfz38_0 hfz38_1); (try clear hcz6_0 hcz6_1 hfz6_0 hfz6_1); obtain ⟨kq, x53_18, rfl, HA, HJ18, HO_6, HO_9, HO_10, HO_358000, HO_358001, BK335, BK357, HB⟩ := hcut
    cases kq with
    | zero => exact absurd HA.out (by simp [laws_FnExactHoldingBars.j0])
    | succ kj18 =>
     have H := HA.out; clear HA
     simp only [laws_FnExactHoldingBars.j0] at H
     by_cases c47 : x53_18 = true
     ·subst c47
      rw [if_pos rfl] at H; obtain rfl := Option.some.inj H
      exact absurd HRT.out (by decide)
     ·replace c47 := Bool.eq_false_iff.mpr c47
      subst c47
      have H1 : ((laws_toFrame.f kj18 l0_0 l0_1).bind fun bt366 => ((laws_eqFrame.f kj18 t351 t354 bt366.1 bt366.2).bind fun t372 => (if t372 = true then ((laws_toPullS.f kj18 l1).bind fun t373 => ((laws_eqPullS.f kj18 t358 t373).bind fun t376 => (if t376 = true then ((laws_markFrame.f kj18 t351 t354 1).bind fun bt377 => ((laws_markPullS.f kj18 t358 bt377.1).bind fun bt380 => (if bt380.1 < 0 then (laws_FnExactHoldingBars.j1 kj18 l1 t347 t350 t361 true l0_0 l0_1) else ((laws_eqInt64S.f kj18 t361 t347).bind fun t382 => (if t382 = true then (laws_FnExactHoldingBars.j1 kj18 l1 t347 t350 t361 (t364 != t350) l0_0 l0_1) else (laws_FnExactHoldingBars.j1 kj18 l1 t347 t350 t361 true l0_0 l0_1)))))) else (some false)))) else (some false)))) = some r := by rw [if_neg (show ¬ (false = true) by decide)] at H; exact H
      clear H; have H := H1; clear H1; replace H := zob H; obtain ⟨⟨t366, t369⟩, A48, H⟩ := H; replace H := zob H; obtain ⟨t372, A49, H⟩ := H
      by_cases c50 : t372 = true
      ·subst c50
       rw [if_pos rfl] at H; replace H := zob H; obtain ⟨t373, A51, H⟩ := H; replace H := zob H; obtain ⟨t376, A52, H⟩ := H
       by_cases c53 : t376 = true
       ·subst c53
        rw [if_pos rfl] at H; replace H := zob H; obtain ⟨⟨t377, t378, t379⟩, A54, H⟩ := H; replace H := zob H; obtain ⟨⟨t380, t381⟩, A55, H⟩ := H; have HC56 := zQ H; clear H
        try go_wp2
        have n0_ := zQ (Kd.R_drew HO_6.out); have n1_ := zQ (Kd.R_drew HO_9.out); have n2_ := zQ (Kd.R_drew HO_10.out); have n3_ := zQ (Kd.R_drew HO_358000.out); have n4_ := zQ (Kd.R_drew HO_358001.out); have n5_ := zQ (blk_drew BK335.out); have n6_ := zQ (blk_drew BK357.out); have n7_ := zQ (below_drew1 HB.out); clear HO_6; clear HO_9; clear HO_10; clear HO_358000; clear HO_358001; clear BK335; clear BK357; clear HB; have HO_6 := n0_; have HO_9 := n1_; have HO_10 := n2_; have HO_358000 := n3_; have HO_358001 := n4_; have BK335 := n5_; have BK357 := n6_; have HB := n7_; clear n0_ n1_ n2_ n3_ n4_ n5_ n6_ n7_
        refine zs (fun w' => w'.cell? ⟨gb357, 0, none⟩ = some (.slice Ao33 t351.length co33) ∧ w'.cell? ⟨gb357, 1, none⟩ = some (.slice Ao36 t354.length co36) ∧ w'.cell? ⟨gb335, 0, none⟩ = some (.slice A0_0 l0_0.length c0_0) ∧ w'.cell? ⟨gb335, 1, none⟩ = some (.slice A0_1 l0_1.length c0_1)) [] 5 ⟨(blk_cell BK357.out 0).trans rfl, (blk_cell BK357.out 1).trans rfl, (blk_cell BK335.out 0).trans rfl, (blk_cell BK335.out 1).trans rfl⟩ (fun hHeld => ?_)
        generalize wc.drew = w57 at HO_6 HO_9 HO_10 HO_358000 HO_358001 BK335 BK357 HB hHeld ⊢
        refine zt 0 54 hHeld ?_
        refine zt 1 55 hHeld ?_
        refine zo 2 (some 56) (fun K hK => ?_)
        refine goes_ Try.func36 (by kernel_rfl) rfl #[.agg #[.slice A0_0 l0_0.length c0_0, .slice A0_1 l0_1.length c0_1]] (by rfl) rfl rfl zM ?_
        with_reducible refine (laws_toFrame.calls kj18 _ _ l0_0 _ _ l0_1 t366 t369 _ ?side1 ?side2 ?side3 ?side4 A48.out).mono ?_
        (case side1 => exact zC HR0_0.out HB.out)
        (case side2 => exact HC0_0.out)
        (case side3 => exact zC HR0_1.out HB.out)
        (case side4 => exact HC0_1.out)
        rintro e w58 ⟨v367, v370, rfl, ho0, ho1, hb⟩
        refine ⟨_, rfl, ?_⟩
        have n0_ := zRb HO_6.out hb; have n1_ := zRb HO_9.out hb; have n2_ := zRb HO_10.out hb; have n3_ := zQ (Kd.R_elder' (zR HO_358000.out) (Kd.R_base ho0) hb); have n4_ := zQ (Kd.R_elder' (zR HO_358001.out) (Kd.R_base ho1) hb); have n5_ := zQ (Kd.R_lower (Kd.R_new' ho0 (Kd.R_lt (zR HO_358000.out))) (below_size (zB3 HB.out GE335.out GE357.out))); have n6_ := zQ (Kd.R_lower (Kd.R_new' ho1 (Kd.R_lt (zR HO_358001.out))) (below_size (zB3 HB.out GE335.out GE357.out))); have n7_ := zbl BK335.out hb; have n8_ := zbl BK357.out hb; have n9_ := zQ (below_step (zB3 HB.out GE335.out GE357.out) hb); clear HO_6; clear HO_9; clear HO_10; clear HO_358000; clear HO_358001; clear BK335; clear BK357; clear HB; have HO_6 := n0_; have HO_9 := n1_; have HO_10 := n2_; have HO_358000 := n3_; have HO_358001 := n4_; have HO368 := n5_; have HO371 := n6_; have BK335 := n7_; have BK357 := n8_; have HB := n9_; clear n0_ n1_ n2_ n3_ n4_ n5_ n6_ n7_ n8_ n9_
        (try clear hb)
        (try clear hb2)
        (try clear hk)
        (try clear hi)
        (try clear ho0)
        (try clear ho1)
        obtain ⟨Ao59, co59, eo59⟩ := Kd.R_slice HO368.out
        (first | subst eo59 | (injection eo59 with f1_ f2_ f3_; have f4_ := f1_.symm; have f5_ := f3_.symm; clear f1_ f2_ f3_; subst f4_; subst f5_))
        obtain ⟨Ao60, co60, eo60⟩ := Kd.R_slice HO371.out
        (first | subst eo60 | (injection eo60 with f1_ f2_ f3_; have f4_ := f1_.symm; have f5_ := f3_.symm; clear f1_ f2_ f3_; subst f4_; subst f5_))
        refine hK.out _ _ ⟨(blk_cell BK357.out 0).trans rfl, (blk_cell BK357.out 1).trans rfl, (blk_cell BK335.out 0).trans rfl, (blk_cell BK335.out 1).trans rfl⟩ (fun hHeld => ?_)
        clear hK K
        refine zn 56 ?_
        refine zo 3 (some 57) (fun K hK => ?_)
        refine goes_ Try.func39 (by kernel_rfl) rfl #[.agg #[.slice Ao33 t351.length co33, .slice Ao36 t354.length co36], .agg #[.slice Ao59 t366.length co59, .slice Ao60 t369.length co60]] (by rfl) rfl rfl zM ?_
        with_reducible refine (laws_eqFrame.calls kj18 _ _ t351 _ _ t354 _ _ t366 _ _ t369 true _ ?side1 ?side2 ?side3 ?side4 ?side5 ?side6 ?side7 ?side8 A49.out).mono ?_
        (case side1 => exact zk (Kd.R_reads' HO_358000.out).2.2)
        (case side2 => exact (Kd.R_reads' HO_358000.out).2.1)
        (case side3 => exact zk (Kd.R_reads' HO_358001.out).2.2)
        (case side4 => exact (Kd.R_reads' HO_358001.out).2.1)
        (case side5 => exact zk (Kd.R_reads' HO368.out).2.2)
        (case side6 => exact (Kd.R_reads' HO368.out).2.1)
        (case side7 => exact zk (Kd.R_reads' HO371.out).2.2)
        (case side8 => exact (Kd.R_reads' HO371.out).2.1)
        rintro e w61 ⟨rfl, hb⟩
        refine ⟨_, rfl, ?_⟩
        have n0_ := zRb HO_6.out hb; have n1_ := zRb HO_9.out hb; have n2_ := zRb HO_10.out hb; have n3_ := zRb HO_358000.out hb; have n4_ := zRb HO_358001.out hb; have n5_ := zRb HO368.out hb; have n6_ := zRb HO371.out hb; have n7_ := zbl BK335.out hb; have n8_ := zbl BK357.out hb; have n9_ := zQ (below_step (zB3 HB.out GE335.out GE357.out) hb); clear HO_6; clear HO_9; clear HO_10; clear HO_358000; clear HO_358001; clear HO368; clear HO371; clear BK335; clear BK357; clear HB; have HO_6 := n0_; have HO_9 := n1_; have HO_10 := n2_; have HO_358000 := n3_; have HO_358001 := n4_; have HO368 := n5_; have HO371 := n6_; have BK335 := n7_; have BK357 := n8_; have HB := n9_; clear n0_ n1_ n2_ n3_ n4_ n5_ n6_ n7_ n8_ n9_
        (try clear hb)
        (try clear hb2)
        (try clear hk)
        (try clear hi)
        refine hK.out _ _ ⟨(blk_cell BK357.out 0).trans rfl, (blk_cell BK357.out 1).trans rfl, (blk_cell BK335.out 0).trans rfl, (blk_cell BK335.out 1).trans rfl⟩ (fun hHeld => ?_)
        clear hK K
        refine zn 57 ?_
        refine zp 4 58 ?_
        refine done_ (by kernel_rfl) ?_
        go_upto_region 21 with (first | ((with_reducible refine zgc 37 ?_); refine zgo (some 61) Try.func37 #[.slice A1 l1.length c1] ?_; (with_reducible refine (laws_toPullS.calls kj18 _ _ l1 t373 _ (zC HR1.out HB.out) HC1.out A51.out).mono ?_); rintro e w62 ⟨v374, rfl, ho0, hb⟩; refine ⟨_, rfl, ?_⟩; have HO375 := zQ (Kd.R_lower (Kd.R_new' ho0 (Kd.R_lt (zR HO_9.out))) (below_size (zB3 HB.out GE335.out GE357.out))); replace HO_6 := zRb HO_6.out hb; replace HO_9 := zQ (Kd.R_elder' (zR HO_9.out) (Kd.R_base ho0) hb); replace HO_10 := zRb HO_10.out hb; replace HO_358000 := zRb HO_358000.out hb; replace HO_358001 := zRb HO_358001.out hb; replace HO368 := zRb HO368.out hb; replace HO371 := zRb HO371.out hb; replace BK335 := zbl BK335.out hb; replace BK357 := zbl BK357.out hb; replace HB := zQ (below_step (zB3 HB.out GE335.out GE357.out) hb); (try clear hb); (try clear ho0); obtain ⟨Ao63, co63, eo63⟩ := Kd.R_slice HO375.out; subst eo63) | ((with_reducible refine zgc 40 ?_); refine zgo (some 62) Try.func40 #[.slice Ao39 t358.length co39, .slice Ao63 t373.length co63] ?_; (with_reducible refine (laws_eqPullS.calls kj18 _ _ t358 _ _ t373 true _ ?side1 ((Kd.R_reads' HO_9.out).2.1) ?side3 ((Kd.R_reads' HO375.out).2.1) A52.out).mono ?_); (case side1 => exact zk (Kd.R_reads' HO_9.out).2.2); (case side3 => exact zk (Kd.R_reads' HO375.out).2.2); rintro e w64 ⟨rfl, hb⟩; refine ⟨_, rfl, ?_⟩; replace HO_6 := zRb HO_6.out hb; replace HO_9 := zRb HO_9.out hb; replace HO_10 := zRb HO_10.out hb; replace HO_358000 := zRb HO_358000.out hb; replace HO_358001 := zRb HO_358001.out hb; replace HO368 := zRb HO368.out hb; replace HO371 := zRb HO371.out hb; replace HO375 := zRb HO375.out hb; replace BK335 := zbl BK335.out hb; replace BK357 := zbl BK357.out hb; replace HB := zQ (below_step (zB3 HB.out GE335.out GE357.out) hb); (try clear hb); have hnb65 := NB357_335.out; have hnc65 := NB335_357.out; obtain ⟨hcz66_0, hcz66_1, hfz66_0, hfz66_1⟩ := zy2 BK357.out) | ((with_reducible refine zgc 42 ?_); refine zgo (some 66) Try.func42 #[.agg #[.slice Ao33 t351.length co33, .slice Ao36 t354.length co36], .int .i64 1] ?_; (with_reducible refine (laws_markFrame.calls kj18 (fun k_ => some k_ = (.slice Ao33 t351.length co33 : Value).ownBlock) (.slice Ao33 t351.length co33) t351 (fun k_ => some k_ = (.slice Ao36 t354.length co36 : Value).ownBlock) (.slice Ao36 t354.length co36) t354 1 t377 t378 t379 w _ ?side1 (Kd.R_tight rfl HO_358000.out) (Kd.R_tight rfl HO_358001.out) A54.out).mono ?_); (case side1 => repeat (first | (with_reducible first | exact HB.out | apply below_alloc | apply pw_below_drewN | apply below_drew1 | refine below_set ?_ GE335.out | refine below_set ?_ GE357.out) | exact HB.out)); rintro e w67 ⟨rfl, hy0, hy1, hb, hkp⟩; refine ⟨_, rfl, ?_⟩; replace HO_6 := zQ (Kd.R_mono (ok' := fun k_ => some k_ ≠ (v362 : Value).ownBlock) (Kd.R_keptB ((Kd.R_apart' (Kd.R_apart' HO_6.out (Kd.R_typed HO_358000.out) (by decide)) (Kd.R_typed HO_358001.out) (by decide))) hkp (fun k_ hk_ hs_ => Or.elim hs_ (fun e_ => (hk_.1.2) e_) (fun e_ => (hk_.2) e_))) (fun k_ hk_ => hk_.1.1.1)); replace HO_9 := zQ (Kd.R_mono (ok' := fun k_ => some k_ ≠ (.slice Ao63 t373.length co63 : Value).ownBlock) (Kd.R_keptB ((Kd.R_apart' (Kd.R_apart' HO_9.out (Kd.R_typed HO_358000.out) (by decide)) (Kd.R_typed HO_358001.out) (by decide))) hkp (fun k_ hk_ hs_ => Or.elim hs_ (fun e_ => (hk_.1.2) e_) (fun e_ => (hk_.2) e_))) (fun k_ hk_ => hk_.1.1.1.2)); replace HO_10 := zQ (Kd.R_mono (ok' := fun k_ => some k_ ≠ (v348 : Value).ownBlock) (Kd.R_keptB ((Kd.R_apart' (Kd.R_apart' HO_10.out (Kd.R_typed HO_358000.out) (by decide)) (Kd.R_typed HO_358001.out) (by decide))) hkp (fun k_ hk_ hs_ => Or.elim hs_ (fun e_ => (hk_.1.2) e_) (fun e_ => (hk_.2) e_))) (fun k_ hk_ => hk_.1.1.1)); replace BK335 := zQ (blk_kept (zb BK335.out) hkp (fun hs_ => Or.elim hs_ (fun e_ => (fun e_ => (Kd.R_ne HO_358000.out BK335.out (by decide)) e_) e_) (fun e_ => (fun e_ => (Kd.R_ne HO_358001.out BK335.out (by decide)) e_) e_))); replace BK357 := zQ (blk_kept (zb BK357.out) hkp (fun hs_ => Or.elim hs_ (fun e_ => (fun e_ => (Kd.R_ne HO_358000.out BK357.out (by decide)) e_) e_) (fun e_ => (fun e_ => (Kd.R_ne HO_358001.out BK357.out (by decide)) e_) e_))); replace HO368 := zQ (Kd.R_mono (ok' := fun k_ => some k_ ≠ (.slice Ao33 t351.length co33 : Value).ownBlock) (Kd.R_keptB ((Kd.R_apart' HO368.out (Kd.R_typed HO_358001.out) (by decide))) hkp (fun k_ hk_ hs_ => Or.elim hs_ (fun e_ => (hk_.1.2) e_) (fun e_ => (hk_.2) e_))) (fun k_ hk_ => hk_.1.1.2)); replace HO371 := zQ (Kd.R_mono (ok' := fun k_ => some k_ ≠ (.slice Ao36 t354.length co36 : Value).ownBlock) (Kd.R_keptB ((Kd.R_apart' HO371.out (Kd.R_typed HO_358000.out) (by decide))) hkp (fun k_ hk_ hs_ => Or.elim hs_ (fun e_ => (hk_.2) e_) (fun e_ => (hk_.1.2) e_))) (fun k_ hk_ => hk_.1.1.2)); replace HO375 := zQ (Kd.R_mono (ok' := fun k_ => some k_ ≠ (.slice Ao39 t358.length co39 : Value).ownBlock) (Kd.R_keptB ((Kd.R_apart' (Kd.R_apart' HO375.out (Kd.R_typed HO_358000.out) (by decide)) (Kd.R_typed HO_358001.out) (by decide))) hkp (fun k_ hk_ hs_ => Or.elim hs_ (fun e_ => (hk_.1.2) e_) (fun e_ => (hk_.2) e_))) (fun k_ hk_ => hk_.1.1.1.2)); replace HO_358000 := zQ (Kd.R_reok rfl hy0 (fun k_ e_ => HO_358000.out.1 k_ e_)); replace HO_358001 := zQ (Kd.R_reok rfl hy1 (fun k_ e_ => HO_358001.out.1 k_ e_)); replace HB := zQ (hb); (try clear hb); (try clear hkp); (try clear hy0); (try clear hy1)) | ((with_reducible refine zgc 43 ?_); refine zgo (some 69) Try.func43 #[.slice Ao39 t358.length co39, .int .i64 t377] ?_; (with_reducible refine (laws_markPullS.calls kj18 (fun k_ => some k_ = (.slice Ao39 t358.length co39 : Value).ownBlock) (.slice Ao39 t358.length co39) t358 t377 t380 t381 w _ ?side1 (Kd.R_tight rfl HO_9.out) A55.out).mono ?_); (case side1 => repeat (first | (with_reducible first | exact HB.out | apply below_alloc | apply pw_below_drewN | apply below_drew1 | refine below_set ?_ GE335.out | refine below_set ?_ GE357.out) | exact HB.out)); rintro e w68 ⟨rfl, hy0, hb, hkp⟩; refine ⟨_, rfl, ?_⟩; replace HO_6 := zQ (Kd.R_mono (ok' := fun k_ => some k_ ≠ (v362 : Value).ownBlock) (Kd.R_keptB ((Kd.R_apart' HO_6.out (Kd.R_typed HO_9.out) (by decide))) hkp (fun k_ hk_ hs_ => (hk_.2) hs_)) (fun k_ hk_ => hk_.1.1)); replace HO_10 := zQ (Kd.R_mono (ok' := fun k_ => some k_ ≠ (v348 : Value).ownBlock) (Kd.R_keptB ((Kd.R_apart' HO_10.out (Kd.R_typed HO_9.out) (by decide))) hkp (fun k_ hk_ hs_ => (hk_.2) hs_)) (fun k_ hk_ => hk_.1.1)); replace HO_358000 := zQ (Kd.R_mono (ok' := fun k_ => some k_ ≠ (.slice Ao59 t366.length co59 : Value).ownBlock) (Kd.R_keptB ((Kd.R_apart' HO_358000.out (Kd.R_typed HO_9.out) (by decide))) hkp (fun k_ hk_ hs_ => (hk_.2) hs_)) (fun k_ hk_ => hk_.1.1.2)); replace HO_358001 := zQ (Kd.R_mono (ok' := fun k_ => some k_ ≠ (.slice Ao60 t369.length co60 : Value).ownBlock) (Kd.R_keptB ((Kd.R_apart' HO_358001.out (Kd.R_typed HO_9.out) (by decide))) hkp (fun k_ hk_ hs_ => (hk_.2) hs_)) (fun k_ hk_ => hk_.1.1.2)); replace BK335 := zQ (blk_kept (zb BK335.out) hkp (fun hs_ => (fun e_ => (Kd.R_ne HO_9.out BK335.out (by decide)) e_) hs_)); replace BK357 := zQ (blk_kept (zb BK357.out) hkp (fun hs_ => (fun e_ => (Kd.R_ne HO_9.out BK357.out (by decide)) e_) hs_)); replace HO368 := zQ (Kd.R_mono (ok' := fun k_ => some k_ ≠ (.slice Ao33 t351.length co33 : Value).ownBlock) (Kd.R_keptB ((Kd.R_apart' HO368.out (Kd.R_typed HO_9.out) (by decide))) hkp (fun k_ hk_ hs_ => (hk_.2) hs_)) (fun k_ hk_ => hk_.1.1)); replace HO371 := zQ (Kd.R_mono (ok' := fun k_ => some k_ ≠ (.slice Ao36 t354.length co36 : Value).ownBlock) (Kd.R_keptB ((Kd.R_apart' HO371.out (Kd.R_typed HO_9.out) (by decide))) hkp (fun k_ hk_ hs_ => (hk_.2) hs_)) (fun k_ hk_ => hk_.1.1)); replace HO_9 := zQ (Kd.R_reok rfl hy0 (fun k_ e_ => HO_9.out.1 k_ e_)); replace HO375 := zQ (Kd.R_mono (ok' := fun k_ => some k_ ≠ (.slice Ao39 t358.length co39 : Value).ownBlock) (Kd.R_keptB (HO375.out) hkp (fun k_ hk_ hs_ => (hk_) hs_)) (fun k_ hk_ => hk_.1)); replace HB := zQ (hb); (try clear hb); (try clear hkp); (try clear hy0)))
        (try simp only [Act.put, List.setIfInBounds_toArray, List.set_cons_zero, List.set_cons_succ])
        go_cut [82] (fun v82 wc => ∃ (kq : Nat) (x82_55 : Bool), v82 = .bool x82_55 ∧ Aside0 (laws_FnExactHoldingBars.j1 kq l1 t347 t350 t361 x82_55 l0_0 l0_1 = some r) ∧ Aside0 (kq ≤ kj18) ∧ Aside0 (Kd.R (Kd.int .i64) 2 wc w.heap.size (fun k_ => some k_ ≠ (v362 : Value).ownBlock) v348 t347) ∧ Aside0 (Kd.R (Kd.int .i64) 2 wc w.heap.size (fun k_ => some k_ ≠ (v348 : Value).ownBlock) v362 t361) ∧ Aside0 (Kd.R k164 164 wc w.heap.size (fun _ => True) (.slice Ao33 t351.length co33) t378) ∧ Aside0 (Kd.R k115 115 wc w.heap.size (fun _ => True) (.slice Ao36 t354.length co36) t379) ∧ Aside0 (wc.heap[gb335]? = some (.cells #[(.slice A0_0 l0_0.length c0_0), (.slice A0_1 l0_1.length c0_1)] 54 (0, 0))) ∧ Aside0 (wc.heap[gb357]? = some (.cells #[(.slice Ao33 t351.length co33), (.slice Ao36 t354.length co36)] 27 (0, 0))) ∧ Aside0 (Below w.heap.size w wc))
        case first =>
         have H := HC56.out; clear HC56
         by_cases c69 : t380 < 0
         ·rw [if_pos c69] at H
          have c69b0 := decide_eq_true c69; clear c69
          (first | rw [c69b0] | (simp only [i64_w, i32_w]; rw [c69b0]) | skip)
          exact (laws_FnExactHoldingBars.j1_cut _ _ _ _ _ _ _ _ H HRT.out).elim
         ·rw [if_neg c69] at H
          have c69b0 := decide_eq_false c69; clear c69
          (first | rw [c69b0] | (simp only [i64_w, i32_w]; rw [c69b0]) | skip)
          replace H := zob H; obtain ⟨t382, A70, H⟩ := H
          by_cases c71 : t382 = true
          ·subst c71
           rw [if_pos rfl] at H; have H' := zQ H; clear H; obtain ⟨Ao72, co72, eo72⟩ := Kd.R_slice HO_10.out; subst eo72; obtain ⟨Ao73, co73, eo73⟩ := Kd.R_slice HO_6.out; subst eo73
           go_wp2_with (first | (go_at_call 41; (with_reducible refine (laws_eqInt64S.calls kj18 _ _ t361 _ _ t347 true _ ?side1 ((Kd.R_reads' HO_10.out).2.1) ?side3 ((Kd.R_reads' HO_6.out).2.1) A70.out).mono ?_); (case side1 => exact zk (Kd.R_reads' HO_10.out).2.2); (case side3 => exact zk (Kd.R_reads' HO_6.out).2.2); rintro e w' ⟨rfl, ⟨nd, rfl⟩⟩))
           go_meet
           case rel => exact ⟨_, ((t364 != t350)), (zF), H', ⟨by have := HJ18.out; first | omega | exact Nat.le_refl _⟩, ⟨zR HO_6.out⟩, ⟨zR HO_10.out⟩, ⟨by (with_reducible repeat (first | apply Kd.R_alloc | apply Kd.R_drewN | apply Kd.R_drew)); exact Kd.R_mono HO_358000.out (fun _ hk => trivial)⟩, ⟨by (with_reducible repeat (first | apply Kd.R_alloc | apply Kd.R_drewN | apply Kd.R_drew)); exact Kd.R_mono HO_358001.out (fun _ hk => trivial)⟩, ⟨zb BK335.out⟩, ⟨zb BK357.out⟩, ⟨zB3 HB.out GE335.out GE357.out⟩⟩
          ·replace c71 := Bool.eq_false_iff.mpr c71
           subst c71
           have H1 : (laws_FnExactHoldingBars.j1 kj18 l1 t347 t350 t361 true l0_0 l0_1) = some r := by rw [if_neg (show ¬ (false = true) by decide)] at H; exact H
           clear H; have H := H1; clear H1
           exact (laws_FnExactHoldingBars.j1_cut _ _ _ _ _ _ _ _ H HRT.out).elim
        case rest =>
         clear HC56; (try clear c1); (try clear p2); (try clear c3); (try clear c4); (try clear c4b0); (try clear c5); (try clear c6); (try clear c7); (try clear c8); (try clear c9); (try clear c9b0); (try clear c17); (try clear c18); (try clear c34); (try clear c35); (try clear c36); (try clear c37); (try clear c39); (try clear c40); (try clear c41); (try clear c42); (try clear c43); (try clear c47); (try clear c50); (try clear c53); (try clear c65); (try clear c69); (try clear c69b0); (try clear c71); (try clear hcz11_0 hcz11_1 hfz11_0 hfz11_1); (try clear hcz21_0 hcz21_1 hfz21_0 hfz21_1); (try clear hcz23_0 hcz23_1 hfz23_0 hfz23_1); (try clear hcz30_0 hcz30_1 hfz30_0 hfz30_1); (try clear hcz35_0 hcz35_1 hfz35_0 hfz35_1); (try clear hcz38_0 hcz38_1 hfz38_0 hfz38_1); (try clear hcz66_0 hcz66_1 hfz66_0 hfz66_1); (try clear hcz6_0 hcz6_1 hfz6_0 hfz6_1); (try clear p2); obtain ⟨kq, x82_55, rfl, HA, HJ55, HO_6, HO_10, HO_358000, HO_358001, BK335, BK357, HB⟩ := hcut; have hl358000_55 := (Kd.R_reads' HO_358000.out).1; rw [hl358000_55] at HO_358000
         (try simp only [hl358000_55])
         (try simp only [hl358000_55] at BK335)
         (try simp only [hl358000_55] at BK357)
         (try simp only [hl358000_55] at HO_6)
         (try simp only [hl358000_55] at HO_10)
         (try simp only [hl358000_55] at HO_358001)
         have hl358001_55 := (Kd.R_reads' HO_358001.out).1; rw [hl358001_55] at HO_358001
         (try simp only [hl358001_55])
         (try simp only [hl358001_55] at BK335)
         (try simp only [hl358001_55] at BK357)
         (try simp only [hl358001_55] at HO_6)
         (try simp only [hl358001_55] at HO_10)
         (try simp only [hl358001_55] at HO_358000)
         cases kq with
         | zero => exact absurd HA.out (by simp [laws_FnExactHoldingBars.j1])
         | succ kj55 =>
          have H := HA.out; clear HA
          simp only [laws_FnExactHoldingBars.j1] at H
          by_cases c76 : x82_55 = true
          ·subst c76
           rw [if_pos rfl] at H; obtain rfl := Option.some.inj H
           exact absurd HRT.out (by decide)
          ·replace c76 := Bool.eq_false_iff.mpr c76
           subst c76
           have H1 : ((laws_markInt64S.f kj55 t361 1).bind fun bt383 => ((laws_heldInt64S.f kj55 bt383.2 1).bind fun t385 => (if t385 < 0 then (some false) else (if t385 = bt383.1 then ((laws_toFrame.f kj55 l0_0 l0_1).bind fun bt386 => ((laws_toPullS.f kj55 l1).bind fun t392 => ((impl_HoldingBars.f kj55 bt386.1 bt386.2 t392).bind fun bt395 => ((laws_eqInt64S.f kj55 bt395.1 t347).bind fun t399 => (if t399 = true then (laws_FnExactHoldingBars.j2 kj55 bt383.2 bt383.1 (bt395.2 != t350)) else (laws_FnExactHoldingBars.j2 kj55 bt383.2 bt383.1 true)))))) else (some false))))) = some r := by rw [if_neg (show ¬ (false = true) by decide)] at H; exact H
           clear H; have H := H1; clear H1; replace H := zob H; obtain ⟨⟨t383, t384⟩, A77, H⟩ := H; replace H := zob H; obtain ⟨t385, A78, H⟩ := H
           by_cases c79 : t385 < 0
           ·rw [if_pos c79] at H
            have c79b0 := decide_eq_true c79; clear c79; obtain rfl := Option.some.inj H
            exact absurd HRT.out (by decide)
           ·rw [if_neg c79] at H
            have c79b0 := decide_eq_false c79; clear c79
            by_cases c82 : t385 = t383
            ·rw [if_pos c82] at H
             have c82b0 : (t385 == t383) = true := beq_iff_eq.mpr c82; have c82b1 : (t385 != t383) = false := bne_eq_false_iff_eq.mpr c82; clear c82; replace H := zob H; obtain ⟨⟨t386, t389⟩, A83, H⟩ := H; replace H := zob H; obtain ⟨t392, A84, H⟩ := H; replace H := zob H; obtain ⟨⟨t395, t398⟩, A85, H⟩ := H; have HC86 := zQ H; clear H; obtain ⟨Ao87, co87, eo87⟩ := Kd.R_slice HO_10.out; subst eo87
             go_upto_region 32 with (first | ((with_reducible refine zgc 44 ?_); refine zgo (some 85) Try.func44 #[.slice Ao87 t361.length co87, .int .i64 1] ?_; (with_reducible refine (laws_markInt64S.calls kj55 (fun k_ => some k_ = (.slice Ao87 t361.length co87 : Value).ownBlock) (.slice Ao87 t361.length co87) t361 1 t383 t384 w _ ?side1 (Kd.R_tight rfl HO_10.out) A77.out).mono ?_); (case side1 => repeat (first | (with_reducible first | exact HB.out | apply below_alloc | apply pw_below_drewN | apply below_drew1 | refine below_set ?_ GE335.out | refine below_set ?_ GE357.out) | exact HB.out)); rintro e w88 ⟨rfl, hy0, hb, hkp⟩; refine ⟨_, rfl, ?_⟩; replace HO_6 := zQ (Kd.R_mono (ok' := fun k_ => some k_ ≠ (.slice Ao87 t361.length co87 : Value).ownBlock) (Kd.R_keptB (HO_6.out) hkp (fun k_ hk_ hs_ => (hk_) hs_)) (fun k_ hk_ => hk_.1)); replace HO_358000 := zQ (Kd.R_mono (ok' := fun k_ => True) (Kd.R_keptB ((Kd.R_apart' HO_358000.out (Kd.R_typed HO_10.out) (by decide))) hkp (fun k_ hk_ hs_ => (hk_.2) hs_)) (fun k_ hk_ => trivial)); replace HO_358001 := zQ (Kd.R_mono (ok' := fun k_ => True) (Kd.R_keptB ((Kd.R_apart' HO_358001.out (Kd.R_typed HO_10.out) (by decide))) hkp (fun k_ hk_ hs_ => (hk_.2) hs_)) (fun k_ hk_ => trivial)); replace BK335 := zQ (blk_kept (zb BK335.out) hkp (fun hs_ => (fun e_ => (Kd.R_ne HO_10.out BK335.out (by decide)) e_) hs_)); replace BK357 := zQ (blk_kept (zb BK357.out) hkp (fun hs_ => (fun e_ => (Kd.R_ne HO_10.out BK357.out (by decide)) e_) hs_)); replace HO_10 := zQ (Kd.R_reok rfl hy0 (fun k_ e_ => HO_10.out.1 k_ e_)); replace HB := zQ (hb); (try clear hb); (try clear hkp); (try clear hy0)) | ((with_reducible refine zgc 45 ?_); refine goesL_ (some 88) rfl rfl Try.func45 (by kernel_rfl) rfl #[.slice Ao87 t384.length co87, .int .i64 1] rfl (by (try simp only [List.map_toArray, List.map_cons, List.map_nil]); first | done | (rw [show t384.length = t361.length from (Kd.R_reads' HO_10.out).1.symm] <;> rfl) | rfl | (simp only [List.length_drop, List.length_take]; rfl)) ?_; (with_reducible refine (laws_heldInt64S.calls kj55 _ _ t384 1 t385 _ ?side1 ?side2 A78.out).mono ?_); (case side1 => exact zk (Kd.R_reads' HO_10.out).2.2); (case side2 => rw [show t384.length = t361.length from (Kd.R_reads' HO_10.out).1.symm]; exact (Kd.R_reads' HO_10.out).2.1); rintro e w' ⟨rfl, ⟨nd, rfl⟩⟩; refine ⟨_, rfl, ?_⟩; have hnb89 := NB335_357.out; have hnc89 := NB357_335.out; obtain ⟨hcz90_0, hcz90_1, hfz90_0, hfz90_1⟩ := zy2 BK335.out) | ((with_reducible refine zgc 36 ?_); refine zgo (some 96) Try.func36 #[.agg #[.slice A0_0 l0_0.length c0_0, .slice A0_1 l0_1.length c0_1]] ?_; (with_reducible refine (laws_toFrame.calls kj55 _ _ l0_0 _ _ l0_1 t386 t389 _ ?side1 HC0_0.out ?side3 HC0_1.out A83.out).mono ?_); (case side1 => repeat (first | exact (Kd.C_below HR0_0.out (zB3 HB.out GE335.out GE357.out)) | (with_reducible refine Kd.C_alloc ?_ _) | (with_reducible refine Kd.C_drewN ?_ _) | (with_reducible refine Kd.C_drew ?_))); (case side3 => repeat (first | exact (Kd.C_below HR0_1.out (zB3 HB.out GE335.out GE357.out)) | (with_reducible refine Kd.C_alloc ?_ _) | (with_reducible refine Kd.C_drewN ?_ _) | (with_reducible refine Kd.C_drew ?_))); rintro e w91 ⟨v387, v390, rfl, ho0, ho1, hb⟩; refine ⟨_, rfl, ?_⟩; have HO388 := zQ (Kd.R_lower (Kd.R_new' ho0 (Kd.R_lt (zR HO_358000.out))) (below_size (zB3 HB.out GE335.out GE357.out))); have HO391 := zQ (Kd.R_lower (Kd.R_new' ho1 (Kd.R_lt (zR HO_358001.out))) (below_size (zB3 HB.out GE335.out GE357.out))); replace HO_6 := zRb HO_6.out hb; replace HO_10 := zRb HO_10.out hb; replace HO_358000 := zQ (Kd.R_elder' (zR HO_358000.out) (Kd.R_base ho0) hb); replace HO_358001 := zQ (Kd.R_elder' (zR HO_358001.out) (Kd.R_base ho1) hb); replace BK335 := zbl BK335.out hb; replace BK357 := zbl BK357.out hb; replace HB := zQ (below_step (zB3 HB.out GE335.out GE357.out) hb); (try clear hb); (try clear ho0); (try clear ho1)) | ((with_reducible refine zgc 37 ?_); refine zgo (some 98) Try.func37 #[.slice A1 l1.length c1] ?_; (with_reducible refine (laws_toPullS.calls kj55 _ _ l1 t392 _ (zC HR1.out HB.out) HC1.out A84.out).mono ?_); rintro e w92 ⟨v393, rfl, ho0, hb⟩; refine ⟨_, rfl, ?_⟩; have HO394 := zQ (Kd.R_lower ho0 (below_size (zB3 HB.out GE335.out GE357.out))); replace HO_6 := zRb HO_6.out hb; replace HO_10 := zRb HO_10.out hb; replace HO_358000 := zRb HO_358000.out hb; replace HO_358001 := zRb HO_358001.out hb; replace HO388 := zRb HO388.out hb; replace HO391 := zRb HO391.out hb; replace BK335 := zbl BK335.out hb; replace BK357 := zbl BK357.out hb; replace HB := zQ (below_step (zB3 HB.out GE335.out GE357.out) hb); (try clear hb); (try clear ho0); obtain ⟨Ao93, co93, eo93⟩ := Kd.R_slice HO388.out; subst eo93; obtain ⟨Ao94, co94, eo94⟩ := Kd.R_slice HO391.out; subst eo94; obtain ⟨Ao95, co95, eo95⟩ := Kd.R_slice HO394.out; subst eo95) | ((with_reducible refine zgc 17 ?_); refine zgo (some 99) Try.func17 #[.agg #[.slice Ao93 t386.length co93, .slice Ao94 t389.length co94], .slice Ao95 t392.length co95] ?_; (with_reducible refine (impl_HoldingBars.calls kj55 _ _ t386 _ _ t389 _ _ t392 t395 t398 _ ?side1 ((Kd.R_reads' HO388.out).2.1) ?side3 ((Kd.R_reads' HO391.out).2.1) ?side5 ((Kd.R_reads' HO394.out).2.1) A85.out).mono ?_); (case side1 => exact zk (Kd.R_reads' HO388.out).2.2); (case side3 => exact zk (Kd.R_reads' HO391.out).2.2); (case side5 => exact zk (Kd.R_reads' HO394.out).2.2); rintro e w96 ⟨v396, rfl, ho0, hb⟩; refine ⟨_, rfl, ?_⟩; have HO397 := zQ (Kd.R_lower (Kd.R_new' (Kd.R_new' ho0 (Kd.R_lt (zR HO_6.out))) (Kd.R_lt (zR HO_10.out))) (below_size (zB3 HB.out GE335.out GE357.out))); replace HO_6 := zQ (Kd.R_elder' (zR HO_6.out) (Kd.R_base ho0) hb); replace HO_10 := zQ (Kd.R_elder' (zR HO_10.out) (Kd.R_base ho0) hb); replace HO_358000 := zRb HO_358000.out hb; replace HO_358001 := zRb HO_358001.out hb; replace HO388 := zRb HO388.out hb; replace HO391 := zRb HO391.out hb; replace HO394 := zRb HO394.out hb; replace BK335 := zbl BK335.out hb; replace BK357 := zbl BK357.out hb; replace HB := zQ (below_step (zB3 HB.out GE335.out GE357.out) hb); (try clear hb); (try clear ho0)))
             (try simp only [Act.put, List.setIfInBounds_toArray, List.set_cons_zero, List.set_cons_succ])
             go_cut [110] (fun v110 wc => ∃ (kq : Nat) (x110_85 : Bool), v110 = .bool x110_85 ∧ Aside0 (laws_FnExactHoldingBars.j2 kq t384 t383 x110_85 = some r) ∧ Aside0 (kq ≤ kj55) ∧ Aside0 (Kd.R (Kd.int .i64) 2 wc w.heap.size (fun _ => True) (.slice Ao87 t361.length co87) t384) ∧ Aside0 (Kd.R k164 164 wc w.heap.size (fun _ => True) (.slice Ao33 t378.length co33) t378) ∧ Aside0 (Kd.R k115 115 wc w.heap.size (fun _ => True) (.slice Ao36 t379.length co36) t379) ∧ Aside0 (wc.heap[gb335]? = some (.cells #[(.slice A0_0 l0_0.length c0_0), (.slice A0_1 l0_1.length c0_1)] 54 (0, 0))) ∧ Aside0 (wc.heap[gb357]? = some (.cells #[(.slice Ao33 t378.length co33), (.slice Ao36 t379.length co36)] 27 (0, 0))) ∧ Aside0 (Below w.heap.size w wc))
             case first =>
              have H := HC86.out; clear HC86; replace H := zob H; obtain ⟨t399, A97, H⟩ := H
              by_cases c98 : t399 = true
              ·subst c98
               rw [if_pos rfl] at H; have H' := zQ H; clear H; obtain ⟨Ao99, co99, eo99⟩ := Kd.R_slice HO397.out; subst eo99; obtain ⟨Ao100, co100, eo100⟩ := Kd.R_slice HO_6.out; subst eo100
               go_wp2_with (first | ((with_reducible refine zgc 41 ?_); refine zgo (some 104) Try.func41 #[.slice Ao99 t395.length co99, .slice Ao100 t347.length co100] ?_; (with_reducible refine (laws_eqInt64S.calls kj55 _ _ t395 _ _ t347 true _ ?side1 ((Kd.R_reads' HO397.out).2.1) ?side3 ((Kd.R_reads' HO_6.out).2.1) A97.out).mono ?_); (case side1 => exact zk (Kd.R_reads' HO397.out).2.2); (case side3 => exact zk (Kd.R_reads' HO_6.out).2.2); rintro e w' ⟨rfl, ⟨nd, rfl⟩⟩; refine ⟨_, rfl, ?_⟩))
               go_meet
               case rel => exact ⟨_, ((t398 != t350)), (zF), H', ⟨by have := HJ18.out; have := HJ55.out; first | omega | exact Nat.le_refl _⟩, ⟨by (try simp only [hl358000_55]); (try simp only [hl358001_55]); (with_reducible repeat (first | apply Kd.R_alloc | apply Kd.R_drewN | apply Kd.R_drew)); exact Kd.R_mono HO_10.out (fun _ hk => trivial)⟩, ⟨by (try simp only [hl358000_55]); (try simp only [hl358001_55]); (with_reducible repeat (first | apply Kd.R_alloc | apply Kd.R_drewN | apply Kd.R_drew)); exact Kd.R_mono HO_358000.out (fun _ hk => trivial)⟩, ⟨by (try simp only [hl358000_55]); (try simp only [hl358001_55]); (with_reducible repeat (first | apply Kd.R_alloc | apply Kd.R_drewN | apply Kd.R_drew)); exact Kd.R_mono HO_358001.out (fun _ hk => trivial)⟩, ⟨by (try simp only [hl358000_55]); (try simp only [hl358001_55]); refine zb ?_; exact BK335.out⟩, ⟨by (try simp only [hl358000_55]); (try simp only [hl358001_55]); refine zb ?_; exact BK357.out⟩, ⟨zB3 HB.out GE335.out GE357.out⟩⟩
              ·replace c98 := Bool.eq_false_iff.mpr c98
               subst c98
               have H1 : (laws_FnExactHoldingBars.j2 kj55 t384 t383 true) = some r := by rw [if_neg (show ¬ (false = true) by decide)] at H; exact H
               clear H; have H := H1; clear H1
               exact (laws_FnExactHoldingBars.j2_cut _ _ _ _ H HRT.out).elim
             case rest =>
              clear HC86; (try clear c1); (try clear p2); (try clear c3); (try clear c4); (try clear c4b0); (try clear c5); (try clear c6); (try clear c7); (try clear c8); (try clear c9); (try clear c9b0); (try clear c17); (try clear c18); (try clear c34); (try clear c35); (try clear c36); (try clear c37); (try clear c39); (try clear c40); (try clear c41); (try clear c42); (try clear c43); (try clear c44); (try clear c45); (try clear c47); (try clear c50); (try clear c53); (try clear c65); (try clear c69); (try clear c69b0); (try clear c71); (try clear c76); (try clear c79); (try clear c79b0); (try clear c82); (try clear c82b0); (try clear c82b1); (try clear c89); (try clear c98); (try clear hcz11_0 hcz11_1 hfz11_0 hfz11_1); (try clear hcz21_0 hcz21_1 hfz21_0 hfz21_1); (try clear hcz23_0 hcz23_1 hfz23_0 hfz23_1); (try clear hcz30_0 hcz30_1 hfz30_0 hfz30_1); (try clear hcz35_0 hcz35_1 hfz35_0 hfz35_1); (try clear hcz38_0 hcz38_1 hfz38_0 hfz38_1); (try clear hcz66_0 hcz66_1 hfz66_0 hfz66_1); (try clear hcz6_0 hcz6_1 hfz6_0 hfz6_1); (try clear hcz90_0 hcz90_1 hfz90_0 hfz90_1); (try clear p2)
              obtain ⟨kq, x110_85, rfl, HA, HJ85, HO_10, HO_358000, HO_358001, BK335, BK357, HB⟩ := hcut; have hl10_85 := (Kd.R_reads' HO_10.out).1; rw [hl10_85] at HO_10
              (try simp only [hl10_85])
              (try simp only [hl10_85] at BK335)
              (try simp only [hl10_85] at BK357)
              (try simp only [hl10_85] at HO_358000)
              (try simp only [hl10_85] at HO_358001)
              cases kq with
              | zero => exact absurd HA.out (by simp [laws_FnExactHoldingBars.j2])
              | succ kj85 =>
               have H := HA.out; clear HA
               simp only [laws_FnExactHoldingBars.j2] at H
               by_cases c103 : x110_85 = true
               ·subst c103
                rw [if_pos rfl] at H; obtain rfl := Option.some.inj H
                exact absurd HRT.out (by decide)
               ·replace c103 := Bool.eq_false_iff.mpr c103
                subst c103
                have H1 : ((laws_heldInt64S.f kj85 t384 1).bind fun t400 => (if t400 < 0 then (some false) else (if t400 = t383 then (some true) else (some false)))) = some r := by rw [if_neg (show ¬ (false = true) by decide)] at H; exact H
                clear H; have H := H1; clear H1; replace H := zob H; obtain ⟨t400, A104, H⟩ := H
                by_cases c105 : t400 < 0
                ·rw [if_pos c105] at H
                 have c105b0 := decide_eq_true c105; clear c105; obtain rfl := Option.some.inj H
                 exact absurd HRT.out (by decide)
                ·rw [if_neg c105] at H
                 have c105b0 := decide_eq_false c105; clear c105
                 by_cases c106 : t400 = t383
                 ·rw [if_pos c106] at H
                  have c106b0 : (t400 == t383) = true := beq_iff_eq.mpr c106; have c106b1 : (t400 != t383) = false := bne_eq_false_iff_eq.mpr c106; clear c106; obtain rfl := Option.some.inj H
                  go_wp2_with (first | ((with_reducible refine zgc 45 ?_); refine zgo (some 113) Try.func45 #[.slice Ao87 t384.length co87, .int .i64 1] ?_; (with_reducible refine (laws_heldInt64S.calls kj85 _ _ t384 1 t400 _ ?side1 ((Kd.R_reads' HO_10.out).2.1) A104.out).mono ?_); (case side1 => exact zk (Kd.R_reads' HO_10.out).2.2); rintro e w' ⟨rfl, ⟨nd, rfl⟩⟩; refine ⟨_, rfl, ?_⟩))
                  go_ret
                  exact ⟨zE, zB3 HB.out GE335.out GE357.out⟩
                 ·rw [if_neg c106] at H
                  have c106b0 : (t400 == t383) = false := beq_eq_false_iff_ne.mpr c106; have c106b1 : (t400 != t383) = true := bne_iff_ne.mpr c106; obtain rfl := Option.some.inj H
                  exact absurd HRT.out (by decide)
            ·rw [if_neg c82] at H
             have c82b0 : (t385 == t383) = false := beq_eq_false_iff_ne.mpr c82; have c82b1 : (t385 != t383) = true := bne_iff_ne.mpr c82; obtain rfl := Option.some.inj H
             exact absurd HRT.out (by decide)
       ·replace c53 := Bool.eq_false_iff.mpr c53
        subst c53
        have H1 : (some false) = some r := by rw [if_neg (show ¬ (false = true) by decide)] at H; exact H
        clear H; have H := H1; clear H1; obtain rfl := Option.some.inj H
        exact absurd HRT.out (by decide)
      ·replace c50 := Bool.eq_false_iff.mpr c50
       subst c50
       have H1 : (some false) = some r := by rw [if_neg (show ¬ (false = true) by decide)] at H; exact H
       clear H; have H := H1; clear H1; obtain rfl := Option.some.inj H
       exact absurd HRT.out (by decide)

end
end Go.Proofs.Ytimjblgepbhoaaa.PStays

