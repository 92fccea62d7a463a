/- The walks of the functions that the law reaches: each computes what its Lean function says. No condition beyond each contract's own. -/
import Derived.Test.YtimjblgepbhoaaaHStays0
import Derived.Test.YtimjblgepbhoaaaHStaysa
import Derived.Test.YtimjblgepbhoaaaHStaysb
import Derived.Test.YtimjblgepbhoaaaHStayse
import Derived.Test.YtimjblgepbhoaaaHStaysj
import Derived.Test.YtimjblgepbhoaaaHStayss
namespace Go.Proofs.Ytimjblgepbhoaaa.PStays
noncomputable section
open Go.RowKit Go.Proofs.YtimjblgepbhoaaaW.PrintWords Go.Proofs.YtimjblgepbhoaaaW.PrintLast Go.Proofs.YtimjblgepbhoaaaW.PrintMore
attribute [local go_sem] max2_int min2_int max_two min_two max_three min_three max_four min_four   -- for this text's walks alone
set_option linter.unusedVariables false
set_option linter.unusedSimpArgs false

/-! ### spec_HoldsAll: function 47 -/
def spec_HoldsAll.f (k : Nat) (l0_0 : List (S164)) (l0_1 : List (S115)) (l1 : List (List (S113))) (l2 : List Int) : Option (Bool × Int) := (spec_l11Winds.f k l0_0 l0_1 l1 l2).bind fun t211 => (if t211 = 0 then ((spec_l11Loose.f k l0_0 l0_1 l1 l2).bind fun t212 => (some (decide (t212 < 0), 0))) else (some (false, t211)))
theorem spec_HoldsAll.mono : ∀ a0 a1 a2 a3 k, LeO (spec_HoldsAll.f k a0 a1 a2 a3) (spec_HoldsAll.f (k + 1) a0 a1 a2 a3) := by
 intro a0 a1 a2 a3 k
 unfold spec_HoldsAll.f
 (with_reducible repeat' first | apply spec_l11Loose.mono | apply spec_l11Winds.mono | apply LeO.refl | apply LeO.none | refine LeO.ite ?_ ?_ | refine LeO.bind ?_ (fun _ => ?_))
 repeat' first | apply spec_l11Loose.mono | apply spec_l11Winds.mono | apply LeO.none | refine LeO.ite ?_ ?_ | refine LeO.bind ?_ (fun _ => ?_)
set_option maxHeartbeats 8000000 in
set_option maxRecDepth 100000 in
theorem spec_HoldsAll.calls (k : Nat) (A0_0 : Option Addr) (c0_0 : Nat) (l0_0 : List (S164)) (A0_1 : Option Addr) (c0_1 : Nat) (l0_1 : List (S115)) (A1 : Option Addr) (c1 : Nat) (l1 : List (List (S113))) (A2 : Option Addr) (c2 : Nat) (l2 : List Int) (r1 : Bool) (r2 : Int) (w : World) (hr0_0 : Kd.C k164 w A0_0 l0_0.length l0_0) (hc0_0 : l0_0.length ≤ c0_0) (hr0_1 : Kd.C k115 w A0_1 l0_1.length l0_1) (hc0_1 : l0_1.length ≤ c0_1) (hr1 : Kd.C (Kd.slice 113 k113) w A1 l1.length l1) (hc1 : l1.length ≤ c1) (hr2 : Kd.C (Kd.int .i64) w A2 l2.length l2) (hc2 : l2.length ≤ c2) (h : spec_HoldsAll.f k l0_0 l0_1 l1 l2 = some (r1, r2)) :
  Calls Try.prog 47 #[.agg #[.slice A0_0 l0_0.length c0_0, .slice A0_1 l0_1.length c0_1], .slice A1 l1.length c1, .slice A2 l2.length c2] w fun e w' => e = .returned (.tuple #[.bool r1, .int .i64 r2]) ∧ Below w.heap.size w w' := by
 have hu27 := Try.underlying27
 have HR0_0 := zQ hr0_0
 have HC0_0 := zQ hc0_0
 clear hr0_0 hc0_0
 have HR0_1 := zQ hr0_1
 have HC0_1 := zQ hc0_1
 clear hr0_1 hc0_1
 have HR1 := zQ hr1
 have HC1 := zQ hc1
 clear hr1 hc1
 have HR2 := zQ hr2
 have HC2 := zQ hc2
 clear hr2 hc2
 have HB := zQ (Below.refl w.heap.size w)
 have H : ((spec_l11Winds.f k l0_0 l0_1 l1 l2).bind fun t211 => (if t211 = 0 then ((spec_l11Loose.f k l0_0 l0_1 l1 l2).bind fun t212 => (some (decide (t212 < 0), 0))) else (some (false, t211)))) = some (r1, r2) := h
 clear h
 replace H := Option.bind_eq_some_iff.mp H
 obtain ⟨t211, A40, H⟩ := H
 replace H : (if t211 = 0 then ((spec_l11Loose.f k l0_0 l0_1 l1 l2).bind fun t212 => (some (decide (t212 < 0), 0))) else (some (false, t211))) = some (r1, r2) := H
 have A4 := zQ A40
 clear A40
 by_cases c5 : t211 = 0
 ·rw [if_pos c5] at H
  have c5b0 : (t211 == 0) = true := beq_iff_eq.mpr c5; have c5b1 : (t211 != 0) = false := bne_eq_false_iff_eq.mpr c5; clear c5; replace H := Option.bind_eq_some_iff.mp H; obtain ⟨t212, A60, H⟩ := H; replace H : (some (decide (t212 < 0), 0)) = some (r1, r2) := H; have A6 := zQ A60; clear A60
  simp only [Option.some.injEq, Prod.mk.injEq] at H
  obtain ⟨rfl, rfl⟩ := H
  go_enter Try.func47, Try.ntmps47
  go_wp2_with (first | ((with_reducible refine zd 3 ?_); refine zbx (N := 3) (cs := #[.slice A0_0 l0_0.length c0_0, .slice A0_1 l0_1.length c0_1]) (t := 27) ?_; intro gb210 hg w7 hbox hb; have BK210 := zQ (hbox); have GW210 := zgz hg HB.out; have GE210 := GW210; replace HB := zbs HB.out hb; clear hb hbox hg) | ((with_reducible refine zgc 105 ?_); refine zgo (some 11) Try.func105 #[.pointer (some ⟨gb210, 0, none⟩), .slice A1 l1.length c1, .slice A2 l2.length c2] ?_; (with_reducible refine (spec_l11Winds.calls k gb210 A0_0 c0_0 l0_0 A0_1 c0_1 l0_1 _ _ l1 _ _ l2 t211 _ (zb BK210.out) (zC HR0_0.out HB.out) HC0_0.out (zC HR0_1.out HB.out) HC0_1.out (zC HR1.out HB.out) HC1.out (zC HR2.out HB.out) HC2.out A4.out).mono ?_); rintro e w8 ⟨rfl, hb⟩; refine ⟨_, rfl, ?_⟩; replace BK210 := zbl BK210.out hb; replace HB := zbs2 HB.out GE210.out hb; (try clear hb)) | ((with_reducible refine zgc 106 ?_); refine zgo (some 17) Try.func106 #[.pointer (some ⟨gb210, 0, none⟩), .slice A1 l1.length c1, .slice A2 l2.length c2] ?_; (with_reducible refine (spec_l11Loose.calls k gb210 A0_0 c0_0 l0_0 A0_1 c0_1 l0_1 _ _ l1 _ _ l2 t212 _ (zb BK210.out) (zC HR0_0.out HB.out) HC0_0.out (zC HR0_1.out HB.out) HC0_1.out (zC HR1.out HB.out) HC1.out (zC HR2.out HB.out) HC2.out A6.out).mono ?_); rintro e w9 ⟨rfl, hb⟩; refine ⟨_, rfl, ?_⟩; replace BK210 := zbl BK210.out hb; replace HB := zbs2 HB.out GE210.out hb; (try clear hb)))
  go_ret2
  exact ⟨zE, zB2 HB.out GE210.out⟩
 ·rw [if_neg c5] at H
  have c5b0 : (t211 == 0) = false := beq_eq_false_iff_ne.mpr c5; have c5b1 : (t211 != 0) = true := bne_iff_ne.mpr c5
  simp only [Option.some.injEq, Prod.mk.injEq] at H
  obtain ⟨rfl, rfl⟩ := H
  go_enter Try.func47, Try.ntmps47
  go_wp2_with (first | ((with_reducible refine zd 3 ?_); refine zbx (N := 3) (cs := #[.slice A0_0 l0_0.length c0_0, .slice A0_1 l0_1.length c0_1]) (t := 27) ?_; intro gb210 hg w10 hbox hb; have BK210 := zQ (hbox); have GW210 := zgz hg HB.out; have GE210 := GW210; replace HB := zbs HB.out hb; clear hb hbox hg) | ((with_reducible refine zgc 105 ?_); refine zgo (some 11) Try.func105 #[.pointer (some ⟨gb210, 0, none⟩), .slice A1 l1.length c1, .slice A2 l2.length c2] ?_; (with_reducible refine (spec_l11Winds.calls k gb210 A0_0 c0_0 l0_0 A0_1 c0_1 l0_1 _ _ l1 _ _ l2 t211 _ (zb BK210.out) (zC HR0_0.out HB.out) HC0_0.out (zC HR0_1.out HB.out) HC0_1.out (zC HR1.out HB.out) HC1.out (zC HR2.out HB.out) HC2.out A4.out).mono ?_); rintro e w11 ⟨rfl, hb⟩; refine ⟨_, rfl, ?_⟩; replace BK210 := zbl BK210.out hb; replace HB := zbs2 HB.out GE210.out hb; (try clear hb)))
  go_ret2
  exact ⟨zE, zB2 HB.out GE210.out⟩

/-! ### impl_HoldsAll: function 49 -/
def impl_HoldsAll.f (k : Nat) (l0_0 : List (S164)) (l0_1 : List (S115)) (l1 : List (List (S113))) (l2 : List Int) : Option (Bool × Int) := (impl_windsCode.f k l0_0 l0_1 l1 l2).bind fun t312 => (if t312 = 0 then ((impl_looseWind.f k l0_0 l0_1 l1 l2).bind fun t313 => (some (decide (t313 < 0), 0))) else (some (false, t312)))
theorem impl_HoldsAll.mono : ∀ a0 a1 a2 a3 k, LeO (impl_HoldsAll.f k a0 a1 a2 a3) (impl_HoldsAll.f (k + 1) a0 a1 a2 a3) := by
 intro a0 a1 a2 a3 k
 unfold impl_HoldsAll.f
 (with_reducible repeat' first | apply impl_looseWind.mono | apply impl_windsCode.mono | apply LeO.refl | apply LeO.none | refine LeO.ite ?_ ?_ | refine LeO.bind ?_ (fun _ => ?_))
 repeat' first | apply impl_looseWind.mono | apply impl_windsCode.mono | apply LeO.none | refine LeO.ite ?_ ?_ | refine LeO.bind ?_ (fun _ => ?_)
set_option maxHeartbeats 8000000 in
set_option maxRecDepth 100000 in
theorem impl_HoldsAll.calls (k : Nat) (A0_0 : Option Addr) (c0_0 : Nat) (l0_0 : List (S164)) (A0_1 : Option Addr) (c0_1 : Nat) (l0_1 : List (S115)) (A1 : Option Addr) (c1 : Nat) (l1 : List (List (S113))) (A2 : Option Addr) (c2 : Nat) (l2 : List Int) (r1 : Bool) (r2 : Int) (w : World) (hr0_0 : Kd.C k164 w A0_0 l0_0.length l0_0) (hc0_0 : l0_0.length ≤ c0_0) (hr0_1 : Kd.C k115 w A0_1 l0_1.length l0_1) (hc0_1 : l0_1.length ≤ c0_1) (hr1 : Kd.C (Kd.slice 113 k113) w A1 l1.length l1) (hc1 : l1.length ≤ c1) (hr2 : Kd.C (Kd.int .i64) w A2 l2.length l2) (hc2 : l2.length ≤ c2) (h : impl_HoldsAll.f k l0_0 l0_1 l1 l2 = some (r1, r2)) :
  Calls Try.prog 49 #[.agg #[.slice A0_0 l0_0.length c0_0, .slice A0_1 l0_1.length c0_1], .slice A1 l1.length c1, .slice A2 l2.length c2] w fun e w' => e = .returned (.tuple #[.bool r1, .int .i64 r2]) ∧ Below w.heap.size w w' := by
 have hu27 := Try.underlying27
 have HR0_0 := zQ hr0_0
 have HC0_0 := zQ hc0_0
 clear hr0_0 hc0_0
 have HR0_1 := zQ hr0_1
 have HC0_1 := zQ hc0_1
 clear hr0_1 hc0_1
 have HR1 := zQ hr1
 have HC1 := zQ hc1
 clear hr1 hc1
 have HR2 := zQ hr2
 have HC2 := zQ hc2
 clear hr2 hc2
 have HB := zQ (Below.refl w.heap.size w)
 have H : ((impl_windsCode.f k l0_0 l0_1 l1 l2).bind fun t312 => (if t312 = 0 then ((impl_looseWind.f k l0_0 l0_1 l1 l2).bind fun t313 => (some (decide (t313 < 0), 0))) else (some (false, t312)))) = some (r1, r2) := h
 clear h
 replace H := Option.bind_eq_some_iff.mp H
 obtain ⟨t312, A40, H⟩ := H
 replace H : (if t312 = 0 then ((impl_looseWind.f k l0_0 l0_1 l1 l2).bind fun t313 => (some (decide (t313 < 0), 0))) else (some (false, t312))) = some (r1, r2) := H
 have A4 := zQ A40
 clear A40
 by_cases c5 : t312 = 0
 ·rw [if_pos c5] at H
  have c5b0 : (t312 == 0) = true := beq_iff_eq.mpr c5; have c5b1 : (t312 != 0) = false := bne_eq_false_iff_eq.mpr c5; clear c5; replace H := Option.bind_eq_some_iff.mp H; obtain ⟨t313, A60, H⟩ := H; replace H : (some (decide (t313 < 0), 0)) = some (r1, r2) := H; have A6 := zQ A60; clear A60
  simp only [Option.some.injEq, Prod.mk.injEq] at H
  obtain ⟨rfl, rfl⟩ := H
  go_enter Try.func49, Try.ntmps49
  go_wp2_with (first | ((with_reducible refine zd 3 ?_); refine zbx (N := 3) (cs := #[.slice A0_0 l0_0.length c0_0, .slice A0_1 l0_1.length c0_1]) (t := 27) ?_; intro gb311 hg w7 hbox hb; have BK311 := zQ (hbox); have GW311 := zgz hg HB.out; have GE311 := GW311; replace HB := zbs HB.out hb; clear hb hbox hg; have hcz8_0 := zc0 BK311.out; have hcz8_1 := zc1 BK311.out; have hfz8_0 := zfz BK311.out 0; have hfz8_1 := zfz BK311.out 1) | ((with_reducible refine zgc 107 ?_); refine goesL_ (some 12) rfl rfl Try.func107 (by kernel_rfl) rfl #[.agg #[.slice A0_0 l0_0.length c0_0, .slice A0_1 l0_1.length c0_1], .slice A1 l1.length c1, .slice A2 l2.length c2] rfl zM ?_; (with_reducible refine (impl_windsCode.calls k _ _ l0_0 _ _ l0_1 _ _ l1 _ _ l2 t312 _ (zC HR0_0.out HB.out) HC0_0.out (zC HR0_1.out HB.out) HC0_1.out (zC HR1.out HB.out) HC1.out (zC HR2.out HB.out) HC2.out A4.out).mono ?_); rintro e w9 ⟨rfl, hb⟩; refine ⟨_, rfl, ?_⟩; replace BK311 := zbl BK311.out hb; replace HB := zbs2 HB.out GE311.out hb; (try clear hb); have hcz10_0 := zc0 BK311.out; have hcz10_1 := zc1 BK311.out; have hfz10_0 := zfz BK311.out 0; have hfz10_1 := zfz BK311.out 1) | ((with_reducible refine zgc 108 ?_); refine goesL_ (some 19) rfl rfl Try.func108 (by kernel_rfl) rfl #[.agg #[.slice A0_0 l0_0.length c0_0, .slice A0_1 l0_1.length c0_1], .slice A1 l1.length c1, .slice A2 l2.length c2] rfl zM ?_; (with_reducible refine (impl_looseWind.calls k _ _ l0_0 _ _ l0_1 _ _ l1 _ _ l2 t313 _ (zC HR0_0.out HB.out) HC0_0.out (zC HR0_1.out HB.out) HC0_1.out (zC HR1.out HB.out) HC1.out (zC HR2.out HB.out) HC2.out A6.out).mono ?_); rintro e w11 ⟨rfl, hb⟩; refine ⟨_, rfl, ?_⟩; replace BK311 := zbl BK311.out hb; replace HB := zbs2 HB.out GE311.out hb; (try clear hb)))
  go_ret2
  exact ⟨zE, zB2 HB.out GE311.out⟩
 ·rw [if_neg c5] at H
  have c5b0 : (t312 == 0) = false := beq_eq_false_iff_ne.mpr c5; have c5b1 : (t312 != 0) = true := bne_iff_ne.mpr c5
  simp only [Option.some.injEq, Prod.mk.injEq] at H
  obtain ⟨rfl, rfl⟩ := H
  go_enter Try.func49, Try.ntmps49
  go_wp2_with (first | ((with_reducible refine zd 3 ?_); refine zbx (N := 3) (cs := #[.slice A0_0 l0_0.length c0_0, .slice A0_1 l0_1.length c0_1]) (t := 27) ?_; intro gb311 hg w12 hbox hb; have BK311 := zQ (hbox); have GW311 := zgz hg HB.out; have GE311 := GW311; replace HB := zbs HB.out hb; clear hb hbox hg; have hcz13_0 := zc0 BK311.out; have hcz13_1 := zc1 BK311.out; have hfz13_0 := zfz BK311.out 0; have hfz13_1 := zfz BK311.out 1) | ((with_reducible refine zgc 107 ?_); refine goesL_ (some 12) rfl rfl Try.func107 (by kernel_rfl) rfl #[.agg #[.slice A0_0 l0_0.length c0_0, .slice A0_1 l0_1.length c0_1], .slice A1 l1.length c1, .slice A2 l2.length c2] rfl zM ?_; (with_reducible refine (impl_windsCode.calls k _ _ l0_0 _ _ l0_1 _ _ l1 _ _ l2 t312 _ (zC HR0_0.out HB.out) HC0_0.out (zC HR0_1.out HB.out) HC0_1.out (zC HR1.out HB.out) HC1.out (zC HR2.out HB.out) HC2.out A4.out).mono ?_); rintro e w14 ⟨rfl, hb⟩; refine ⟨_, rfl, ?_⟩; replace BK311 := zbl BK311.out hb; replace HB := zbs2 HB.out GE311.out hb; (try clear hb)))
  go_ret2
  exact ⟨zE, zB2 HB.out GE311.out⟩

/-! ### laws_FnExactHoldsAll: function 7 -/
def laws_FnExactHoldsAll.j0 : Nat → List (List (S122)) → List Int → List (List (S113)) → List Int → Bool → List (S166) → List (S168) → List (S164) → List (S115) → Option (Bool)
 | 0, _, _, _, _, _, _, _, _, _ => none
 | k + 1, x1, x2, x11, x12, x58, x323000, x323001, x346000, x346001 => if x58 = true then (some false) else ((laws_toFrame.f k x323000 x323001).bind fun bt354 => ((laws_eqFrame.f k x346000 x346001 bt354.1 bt354.2).bind fun t360 => (if t360 = true then ((laws_toPullSS.f k x1).bind fun t361 => ((laws_eqPullSS.f k x11 t361).bind fun t364 => (if t364 = true then ((laws_toInt64S.f k x2).bind fun t365 => ((laws_eqInt64S.f k x12 t365).bind fun t368 => (if t368 = true then (some true) else (some false)))) else (some false)))) else (some false))))
def laws_FnExactHoldsAll.f (k : Nat) (l0_0 : List (S166)) (l0_1 : List (S168)) (l1 : List (List (S122))) (l2 : List Int) : Option (Bool) := if (l2.length : Int) > 1048576 then (some true) else ((laws_szFrame.f l0_0 l0_1 1048576).bind fun t323 => (if t323 < 0 then (some true) else ((laws_szPullSS.f k l1 t323).bind fun t324 => (if t324 < 0 then (some true) else ((laws_toFrame.f k l0_0 l0_1).bind fun bt325 => ((laws_toPullSS.f k l1).bind fun t331 => ((laws_toInt64S.f k l2).bind fun t334 => ((spec_HoldsAll.f k bt325.1 bt325.2 t331 t334).bind fun bt337 => ((laws_toFrame.f k l0_0 l0_1).bind fun bt339 => ((laws_toPullSS.f k l1).bind fun t346 => ((laws_toInt64S.f k l2).bind fun t349 => ((impl_HoldsAll.f k bt339.1 bt339.2 t346 t349).bind fun bt352 => (if (bt352.1 != bt337.1) = true then (laws_FnExactHoldsAll.j0 k l1 l2 t346 t349 true l0_0 l0_1 bt339.1 bt339.2) else (laws_FnExactHoldsAll.j0 k l1 l2 t346 t349 (bt352.2 != bt337.2) l0_0 l0_1 bt339.1 bt339.2))))))))))))))
theorem laws_FnExactHoldsAll.mono_l : ∀ k, (∀ y0 y1 y2 y3 y4 y5 y6 y7 y8, LeO (laws_FnExactHoldsAll.j0 k y0 y1 y2 y3 y4 y5 y6 y7 y8) (laws_FnExactHoldsAll.j0 (k + 1) y0 y1 y2 y3 y4 y5 y6 y7 y8))
 | 0 => fun _ _ _ _ _ _ _ _ _ r h => by simp [laws_FnExactHoldsAll.j0] at h
 | k + 1 => by
  have ih0 := laws_FnExactHoldsAll.mono_l k
  ·intro y0 y1 y2 y3 y4 y5 y6 y7 y8
   unfold laws_FnExactHoldsAll.j0
   (with_reducible repeat' first | apply ih0 | apply impl_HoldsAll.mono | apply laws_eqFrame.mono | apply laws_eqInt64S.mono | apply laws_eqPullSS.mono | apply laws_szPullSS.mono | apply laws_toFrame.mono | apply laws_toInt64S.mono | apply laws_toPullSS.mono | apply spec_HoldsAll.mono | apply LeO.refl | apply LeO.none | refine LeO.ite ?_ ?_ | refine LeO.bind ?_ (fun _ => ?_))
   repeat' first | apply ih0 | apply impl_HoldsAll.mono | apply laws_eqFrame.mono | apply laws_eqInt64S.mono | apply laws_eqPullSS.mono | apply laws_szPullSS.mono | apply laws_toFrame.mono | apply laws_toInt64S.mono | apply laws_toPullSS.mono | apply spec_HoldsAll.mono | apply LeO.none | refine LeO.ite ?_ ?_ | refine LeO.bind ?_ (fun _ => ?_)
theorem laws_FnExactHoldsAll.mono : ∀ a0 a1 a2 a3 k, LeO (laws_FnExactHoldsAll.f k a0 a1 a2 a3) (laws_FnExactHoldsAll.f (k + 1) a0 a1 a2 a3) := by
 intro a0 a1 a2 a3 k
 have ih0 := laws_FnExactHoldsAll.mono_l k
 unfold laws_FnExactHoldsAll.f
 (with_reducible repeat' first | apply ih0 | apply impl_HoldsAll.mono | apply laws_eqFrame.mono | apply laws_eqInt64S.mono | apply laws_eqPullSS.mono | apply laws_szPullSS.mono | apply laws_toFrame.mono | apply laws_toInt64S.mono | apply laws_toPullSS.mono | apply spec_HoldsAll.mono | apply LeO.refl | apply LeO.none | refine LeO.ite ?_ ?_ | refine LeO.bind ?_ (fun _ => ?_))
 repeat' first | apply ih0 | apply impl_HoldsAll.mono | apply laws_eqFrame.mono | apply laws_eqInt64S.mono | apply laws_eqPullSS.mono | apply laws_szPullSS.mono | apply laws_toFrame.mono | apply laws_toInt64S.mono | apply laws_toPullSS.mono | apply spec_HoldsAll.mono | apply LeO.none | refine LeO.ite ?_ ?_ | refine LeO.bind ?_ (fun _ => ?_)
theorem laws_FnExactHoldsAll.j0_cut (k : Nat) (x0_ : List (List (S122))) (x1_ : List Int) (x2_ : List (List (S113))) (x3_ : List Int) (x5_ : List (S166)) (x6_ : List (S168)) (x7_ : List (S164)) (x8_ : List (S115)) (r : Bool) (h : laws_FnExactHoldsAll.j0 k x0_ x1_ x2_ x3_ true x5_ x6_ x7_ x8_ = some r) (hr : r = true) : False := by
 cases k with
 | zero => simp only [laws_FnExactHoldsAll.j0] at h; cases h
 | succ k =>
  have h2 : some false = some r := h
  cases h2
  cases hr
set_option maxHeartbeats 8000000 in
set_option maxRecDepth 100000 in
theorem laws_FnExactHoldsAll.calls (k : Nat) (A0_0 : Option Addr) (c0_0 : Nat) (l0_0 : List (S166)) (A0_1 : Option Addr) (c0_1 : Nat) (l0_1 : List (S168)) (A1 : Option Addr) (c1 : Nat) (l1 : List (List (S122))) (A2 : Option Addr) (c2 : Nat) (l2 : List Int) (r : Bool) (w : World) (hr0_0 : Kd.C k166 w A0_0 l0_0.length l0_0) (hc0_0 : l0_0.length ≤ c0_0) (hr0_1 : Kd.C k168 w A0_1 l0_1.length l0_1) (hc0_1 : l0_1.length ≤ c0_1) (hr1 : Kd.C (Kd.slice 122 k122) w A1 l1.length l1) (hc1 : l1.length ≤ c1) (hr2 : Kd.C (Kd.int .i64) w A2 l2.length l2) (hc2 : l2.length ≤ c2) (h : laws_FnExactHoldsAll.f k l0_0 l0_1 l1 l2 = some r) (hrt : r = true) :
  Calls Try.prog 7 #[.agg #[.slice A0_0 l0_0.length c0_0, .slice A0_1 l0_1.length c0_1], .slice A1 l1.length c1, .slice A2 l2.length c2] w fun e w' => e = .returned (.bool r) ∧ Below w.heap.size w w' := by
 have HRT := zQ hrt
 clear hrt
 have hu54 := Try.underlying54
 have hu27 := Try.underlying27
 have HR0_0 := zQ hr0_0
 have HC0_0 := zQ hc0_0
 clear hr0_0 hc0_0
 have HR0_1 := zQ hr0_1
 have HC0_1 := zQ hc0_1
 clear hr0_1 hc0_1
 have HR1 := zQ hr1
 have HC1 := zQ hc1
 clear hr1 hc1
 have HR2 := zQ hr2
 have HC2 := zQ hc2
 clear hr2 hc2
 have HB := zQ (Below.refl w.heap.size w)
 have H : (if (l2.length : Int) > 1048576 then (some true) else ((laws_szFrame.f l0_0 l0_1 1048576).bind fun t323 => (if t323 < 0 then (some true) else ((laws_szPullSS.f k l1 t323).bind fun t324 => (if t324 < 0 then (some true) else ((laws_toFrame.f k l0_0 l0_1).bind fun bt325 => ((laws_toPullSS.f k l1).bind fun t331 => ((laws_toInt64S.f k l2).bind fun t334 => ((spec_HoldsAll.f k bt325.1 bt325.2 t331 t334).bind fun bt337 => ((laws_toFrame.f k l0_0 l0_1).bind fun bt339 => ((laws_toPullSS.f k l1).bind fun t346 => ((laws_toInt64S.f k l2).bind fun t349 => ((impl_HoldsAll.f k bt339.1 bt339.2 t346 t349).bind fun bt352 => (if (bt352.1 != bt337.1) = true then (laws_FnExactHoldsAll.j0 k l1 l2 t346 t349 true l0_0 l0_1 bt339.1 bt339.2) else (laws_FnExactHoldsAll.j0 k l1 l2 t346 t349 (bt352.2 != bt337.2) l0_0 l0_1 bt339.1 bt339.2))))))))))))))) = some r := h
 clear h
 by_cases c4 : (l2.length : Int) > 1048576
 ·rw [if_pos c4] at H
  have c4b0 : decide (1048576 < (l2.length : Int)) = true := decide_eq_true c4; have c4b1 : decide (1048576 < l2.length) = true := decide_eq_true (by omega); clear c4; obtain rfl := Option.some.inj H
  go_enter Try.func7, Try.ntmps7
  go_wp2_with (first | ((with_reducible refine zd 3 ?_); refine zbx (N := 3) (cs := #[.slice A0_0 l0_0.length c0_0, .slice A0_1 l0_1.length c0_1]) (t := 54) ?_; intro gb322 hg w5 hbox hb; have BK322 := zQ (hbox); have GW322 := zgz hg HB.out; have GE322 := GW322; replace HB := zbs HB.out hb; clear hb hbox hg))
  go_ret
  exact ⟨zE, zB2 HB.out GE322.out⟩
 ·rw [if_neg c4] at H
  have c4b0 : decide (1048576 < (l2.length : Int)) = false := decide_eq_false c4; have c4b1 : decide (1048576 < l2.length) = false := decide_eq_false (by omega); clear c4; replace H := Option.bind_eq_some_iff.mp H; obtain ⟨t323, A60, H⟩ := H; replace H : (if t323 < 0 then (some true) else ((laws_szPullSS.f k l1 t323).bind fun t324 => (if t324 < 0 then (some true) else ((laws_toFrame.f k l0_0 l0_1).bind fun bt325 => ((laws_toPullSS.f k l1).bind fun t331 => ((laws_toInt64S.f k l2).bind fun t334 => ((spec_HoldsAll.f k bt325.1 bt325.2 t331 t334).bind fun bt337 => ((laws_toFrame.f k l0_0 l0_1).bind fun bt339 => ((laws_toPullSS.f k l1).bind fun t346 => ((laws_toInt64S.f k l2).bind fun t349 => ((impl_HoldsAll.f k bt339.1 bt339.2 t346 t349).bind fun bt352 => (if (bt352.1 != bt337.1) = true then (laws_FnExactHoldsAll.j0 k l1 l2 t346 t349 true l0_0 l0_1 bt339.1 bt339.2) else (laws_FnExactHoldsAll.j0 k l1 l2 t346 t349 (bt352.2 != bt337.2) l0_0 l0_1 bt339.1 bt339.2))))))))))))) = some r := H; have A6 := zQ A60; clear A60
  by_cases c7 : t323 < 0
  ·rw [if_pos c7] at H
   have c7b0 : decide (t323 < 0) = true := decide_eq_true c7; clear c7; obtain rfl := Option.some.inj H
   go_enter Try.func7, Try.ntmps7
   go_wp2_with (first | ((with_reducible refine zd 3 ?_); refine zbx (N := 3) (cs := #[.slice A0_0 l0_0.length c0_0, .slice A0_1 l0_1.length c0_1]) (t := 54) ?_; intro gb322 hg w8 hbox hb; have BK322 := zQ (hbox); have GW322 := zgz hg HB.out; have GE322 := GW322; replace HB := zbs HB.out hb; clear hb hbox hg; have hcz9_0 := zc0 BK322.out; have hcz9_1 := zc1 BK322.out; have hfz9_0 := zfz BK322.out 0; have hfz9_1 := zfz BK322.out 1) | ((with_reducible refine zgc 34 ?_); refine goesL_ (some 20) rfl rfl Try.func34 (by kernel_rfl) rfl #[.agg #[.slice A0_0 l0_0.length c0_0, .slice A0_1 l0_1.length c0_1], .int .i64 1048576] rfl zM ?_; (with_reducible refine (laws_szFrame.calls _ _ l0_0 _ _ l0_1 1048576 t323 _ (zC HR0_0.out HB.out) HC0_0.out (zC HR0_1.out HB.out) HC0_1.out A6.out).mono ?_); rintro e w10 ⟨rfl, hb⟩; refine ⟨_, rfl, ?_⟩; replace BK322 := zbl BK322.out hb; replace HB := zbs2 HB.out GE322.out hb; (try clear hb)))
   go_ret
   exact ⟨zE, zB2 HB.out GE322.out⟩
  ·rw [if_neg c7] at H
   have c7b0 : decide (t323 < 0) = false := decide_eq_false c7; clear c7; replace H := Option.bind_eq_some_iff.mp H; obtain ⟨t324, A110, H⟩ := H; replace H : (if t324 < 0 then (some true) else ((laws_toFrame.f k l0_0 l0_1).bind fun bt325 => ((laws_toPullSS.f k l1).bind fun t331 => ((laws_toInt64S.f k l2).bind fun t334 => ((spec_HoldsAll.f k bt325.1 bt325.2 t331 t334).bind fun bt337 => ((laws_toFrame.f k l0_0 l0_1).bind fun bt339 => ((laws_toPullSS.f k l1).bind fun t346 => ((laws_toInt64S.f k l2).bind fun t349 => ((impl_HoldsAll.f k bt339.1 bt339.2 t346 t349).bind fun bt352 => (if (bt352.1 != bt337.1) = true then (laws_FnExactHoldsAll.j0 k l1 l2 t346 t349 true l0_0 l0_1 bt339.1 bt339.2) else (laws_FnExactHoldsAll.j0 k l1 l2 t346 t349 (bt352.2 != bt337.2) l0_0 l0_1 bt339.1 bt339.2))))))))))) = some r := H; have A11 := zQ A110; clear A110
   by_cases c12 : t324 < 0
   ·rw [if_pos c12] at H
    have c12b0 : decide (t324 < 0) = true := decide_eq_true c12; clear c12; obtain rfl := Option.some.inj H
    go_enter Try.func7, Try.ntmps7
    go_wp2_with (first | ((with_reducible refine zd 3 ?_); refine zbx (N := 3) (cs := #[.slice A0_0 l0_0.length c0_0, .slice A0_1 l0_1.length c0_1]) (t := 54) ?_; intro gb322 hg w13 hbox hb; have BK322 := zQ (hbox); have GW322 := zgz hg HB.out; have GE322 := GW322; replace HB := zbs HB.out hb; clear hb hbox hg; have hcz14_0 := zc0 BK322.out; have hcz14_1 := zc1 BK322.out; have hfz14_0 := zfz BK322.out 0; have hfz14_1 := zfz BK322.out 1) | ((with_reducible refine zgc 34 ?_); refine goesL_ (some 20) rfl rfl Try.func34 (by kernel_rfl) rfl #[.agg #[.slice A0_0 l0_0.length c0_0, .slice A0_1 l0_1.length c0_1], .int .i64 1048576] rfl zM ?_; (with_reducible refine (laws_szFrame.calls _ _ l0_0 _ _ l0_1 1048576 t323 _ (zC HR0_0.out HB.out) HC0_0.out (zC HR0_1.out HB.out) HC0_1.out A6.out).mono ?_); rintro e w15 ⟨rfl, hb⟩; refine ⟨_, rfl, ?_⟩; replace BK322 := zbl BK322.out hb; replace HB := zbs2 HB.out GE322.out hb; (try clear hb)) | ((with_reducible refine zgc 46 ?_); refine zgo (some 25) Try.func46 #[.slice A1 l1.length c1, .int .i64 t323] ?_; (with_reducible refine (laws_szPullSS.calls k _ _ l1 t323 t324 _ (zC HR1.out HB.out) HC1.out A11.out).mono ?_); rintro e w' ⟨rfl, ⟨nd, rfl⟩⟩; refine ⟨_, rfl, ?_⟩))
    go_ret
    exact ⟨zE, zB2 HB.out GE322.out⟩
   ·rw [if_neg c12] at H
    have c12b0 : decide (t324 < 0) = false := decide_eq_false c12; clear c12; replace H := Option.bind_eq_some_iff.mp H; obtain ⟨⟨t325, t328⟩, A160, H⟩ := H; replace H : ((laws_toPullSS.f k l1).bind fun t331 => ((laws_toInt64S.f k l2).bind fun t334 => ((spec_HoldsAll.f k t325 t328 t331 t334).bind fun bt337 => ((laws_toFrame.f k l0_0 l0_1).bind fun bt339 => ((laws_toPullSS.f k l1).bind fun t346 => ((laws_toInt64S.f k l2).bind fun t349 => ((impl_HoldsAll.f k bt339.1 bt339.2 t346 t349).bind fun bt352 => (if (bt352.1 != bt337.1) = true then (laws_FnExactHoldsAll.j0 k l1 l2 t346 t349 true l0_0 l0_1 bt339.1 bt339.2) else (laws_FnExactHoldsAll.j0 k l1 l2 t346 t349 (bt352.2 != bt337.2) l0_0 l0_1 bt339.1 bt339.2))))))))) = some r := H; have A16 := zQ A160; clear A160; replace H := Option.bind_eq_some_iff.mp H; obtain ⟨t331, A170, H⟩ := H; replace H : ((laws_toInt64S.f k l2).bind fun t334 => ((spec_HoldsAll.f k t325 t328 t331 t334).bind fun bt337 => ((laws_toFrame.f k l0_0 l0_1).bind fun bt339 => ((laws_toPullSS.f k l1).bind fun t346 => ((laws_toInt64S.f k l2).bind fun t349 => ((impl_HoldsAll.f k bt339.1 bt339.2 t346 t349).bind fun bt352 => (if (bt352.1 != bt337.1) = true then (laws_FnExactHoldsAll.j0 k l1 l2 t346 t349 true l0_0 l0_1 bt339.1 bt339.2) else (laws_FnExactHoldsAll.j0 k l1 l2 t346 t349 (bt352.2 != bt337.2) l0_0 l0_1 bt339.1 bt339.2)))))))) = some r := H; have A17 := zQ A170; clear A170; replace H := Option.bind_eq_some_iff.mp H; obtain ⟨t334, A180, H⟩ := H
    replace H : ((spec_HoldsAll.f k t325 t328 t331 t334).bind fun bt337 => ((laws_toFrame.f k l0_0 l0_1).bind fun bt339 => ((laws_toPullSS.f k l1).bind fun t346 => ((laws_toInt64S.f k l2).bind fun t349 => ((impl_HoldsAll.f k bt339.1 bt339.2 t346 t349).bind fun bt352 => (if (bt352.1 != bt337.1) = true then (laws_FnExactHoldsAll.j0 k l1 l2 t346 t349 true l0_0 l0_1 bt339.1 bt339.2) else (laws_FnExactHoldsAll.j0 k l1 l2 t346 t349 (bt352.2 != bt337.2) l0_0 l0_1 bt339.1 bt339.2))))))) = some r := H; have A18 := zQ A180; clear A180; replace H := Option.bind_eq_some_iff.mp H; obtain ⟨⟨t337, t338⟩, A190, H⟩ := H; replace H : ((laws_toFrame.f k l0_0 l0_1).bind fun bt339 => ((laws_toPullSS.f k l1).bind fun t346 => ((laws_toInt64S.f k l2).bind fun t349 => ((impl_HoldsAll.f k bt339.1 bt339.2 t346 t349).bind fun bt352 => (if (bt352.1 != t337) = true then (laws_FnExactHoldsAll.j0 k l1 l2 t346 t349 true l0_0 l0_1 bt339.1 bt339.2) else (laws_FnExactHoldsAll.j0 k l1 l2 t346 t349 (bt352.2 != t338) l0_0 l0_1 bt339.1 bt339.2)))))) = some r := H; have A19 := zQ A190; clear A190; replace H := Option.bind_eq_some_iff.mp H; obtain ⟨⟨t339, t342⟩, A200, H⟩ := H
    replace H : ((laws_toPullSS.f k l1).bind fun t346 => ((laws_toInt64S.f k l2).bind fun t349 => ((impl_HoldsAll.f k t339 t342 t346 t349).bind fun bt352 => (if (bt352.1 != t337) = true then (laws_FnExactHoldsAll.j0 k l1 l2 t346 t349 true l0_0 l0_1 t339 t342) else (laws_FnExactHoldsAll.j0 k l1 l2 t346 t349 (bt352.2 != t338) l0_0 l0_1 t339 t342))))) = some r := H; have A20 := zQ A200; clear A200; replace H := Option.bind_eq_some_iff.mp H; obtain ⟨t346, A210, H⟩ := H; replace H : ((laws_toInt64S.f k l2).bind fun t349 => ((impl_HoldsAll.f k t339 t342 t346 t349).bind fun bt352 => (if (bt352.1 != t337) = true then (laws_FnExactHoldsAll.j0 k l1 l2 t346 t349 true l0_0 l0_1 t339 t342) else (laws_FnExactHoldsAll.j0 k l1 l2 t346 t349 (bt352.2 != t338) l0_0 l0_1 t339 t342)))) = some r := H; have A21 := zQ A210; clear A210; replace H := Option.bind_eq_some_iff.mp H; obtain ⟨t349, A220, H⟩ := H; replace H : ((impl_HoldsAll.f k t339 t342 t346 t349).bind fun bt352 => (if (bt352.1 != t337) = true then (laws_FnExactHoldsAll.j0 k l1 l2 t346 t349 true l0_0 l0_1 t339 t342) else (laws_FnExactHoldsAll.j0 k l1 l2 t346 t349 (bt352.2 != t338) l0_0 l0_1 t339 t342))) = some r := H; have A22 := zQ A220; clear A220; replace H := Option.bind_eq_some_iff.mp H; obtain ⟨⟨t352, t353⟩, A230, H⟩ := H; replace H : (if (t352 != t337) = true then (laws_FnExactHoldsAll.j0 k l1 l2 t346 t349 true l0_0 l0_1 t339 t342) else (laws_FnExactHoldsAll.j0 k l1 l2 t346 t349 (t353 != t338) l0_0 l0_1 t339 t342)) = some r := H
    have A23 := zQ A230; clear A230; have HC24 := zQ H; clear H
    go_enter Try.func7, Try.ntmps7
    go_upto_region 15 with (first | ((with_reducible refine zd 3 ?_); refine zbx (N := 3) (cs := #[.slice A0_0 l0_0.length c0_0, .slice A0_1 l0_1.length c0_1]) (t := 54) ?_; intro gb322 hg w25 hbox hb; have BK322 := zQ (hbox); have GW322 := zgz hg HB.out; have GE322 := GW322; replace HB := zbs HB.out hb; clear hb hbox hg; have hcz26_0 := zc0 BK322.out; have hcz26_1 := zc1 BK322.out; have hfz26_0 := zfz BK322.out 0; have hfz26_1 := zfz BK322.out 1) | ((with_reducible refine zgc 34 ?_); refine goesL_ (some 20) rfl rfl Try.func34 (by kernel_rfl) rfl #[.agg #[.slice A0_0 l0_0.length c0_0, .slice A0_1 l0_1.length c0_1], .int .i64 1048576] rfl zM ?_; (with_reducible refine (laws_szFrame.calls _ _ l0_0 _ _ l0_1 1048576 t323 _ (zC HR0_0.out HB.out) HC0_0.out (zC HR0_1.out HB.out) HC0_1.out A6.out).mono ?_); rintro e w27 ⟨rfl, hb⟩; refine ⟨_, rfl, ?_⟩; replace BK322 := zbl BK322.out hb; replace HB := zbs2 HB.out GE322.out hb; (try clear hb)) | ((with_reducible refine zgc 46 ?_); refine zgo (some 25) Try.func46 #[.slice A1 l1.length c1, .int .i64 t323] ?_; (with_reducible refine (laws_szPullSS.calls k _ _ l1 t323 t324 _ (zC HR1.out HB.out) HC1.out A11.out).mono ?_); rintro e w' ⟨rfl, ⟨nd, rfl⟩⟩; refine ⟨_, rfl, ?_⟩; (try (rw [drewN_self w27]; generalize hq_ : World.drewN w27 _ = w27; have n0_ : Aside0 (w27.heap[gb322]? = some (.cells #[.slice A0_0 l0_0.length c0_0, .slice A0_1 l0_1.length c0_1] 54 (0, 0))) := ⟨by rw [← hq_]; exact (zb BK322.out)⟩; have n1_ : Aside0 (Below w.heap.size w w27) := ⟨by rw [← hq_]; exact (zB2 HB.out GE322.out)⟩; clear BK322 HB hq_; have BK322 := n0_; have HB := n1_; clear n0_ n1_)); (try (have hczrw27_gb322_0 := zc0 BK322.out)); (try (have hfzrw27_gb322_0 := zfz BK322.out 0)); (try (have hczrw27_gb322_1 := zc1 BK322.out)); (try (have hfzrw27_gb322_1 := zfz BK322.out 1)); have hcz28_0 := zc0 BK322.out; have hcz28_1 := zc1 BK322.out; have hfz28_0 := zfz BK322.out 0; have hfz28_1 := zfz BK322.out 1) | ((with_reducible refine zgc 36 ?_); refine goesL_ (some 30) rfl rfl Try.func36 (by kernel_rfl) rfl #[.agg #[.slice A0_0 l0_0.length c0_0, .slice A0_1 l0_1.length c0_1]] rfl zM ?_; (with_reducible refine (laws_toFrame.calls k _ _ l0_0 _ _ l0_1 t325 t328 _ (zC HR0_0.out HB.out) HC0_0.out (zC HR0_1.out HB.out) HC0_1.out A16.out).mono ?_); rintro e w29 ⟨v326, v329, rfl, ho0, ho1, hb⟩; refine ⟨_, rfl, ?_⟩; have HO327 := zQ (Kd.R_lower ho0 (below_size (zB2 HB.out GE322.out))); have HO330 := zQ (Kd.R_lower ho1 (below_size (zB2 HB.out GE322.out))); replace BK322 := zbl BK322.out hb; replace HB := zbs2 HB.out GE322.out hb; (try clear hb); (try clear ho0); (try clear ho1)) | ((with_reducible refine zgc 48 ?_); refine zgo (some 32) Try.func48 #[.slice A1 l1.length c1] ?_; (with_reducible refine (laws_toPullSS.calls k _ _ l1 t331 _ (zC HR1.out HB.out) HC1.out A17.out).mono ?_); rintro e w30 ⟨v332, rfl, ho0, hb⟩; refine ⟨_, rfl, ?_⟩; have HO333 := zQ (Kd.S_lower ho0 (below_size (zB2 HB.out GE322.out))); replace HO327 := zQ (Kd.R_below (zR HO327.out) hb); replace HO330 := zQ (Kd.R_below (zR HO330.out) hb); replace BK322 := zbl BK322.out hb; replace HB := zbs2 HB.out GE322.out hb; (try clear hb); (try clear ho0)) | ((with_reducible refine zgc 38 ?_); refine zgo (some 34) Try.func38 #[.slice A2 l2.length c2] ?_; (with_reducible refine (laws_toInt64S.calls k _ _ l2 t334 _ (zC HR2.out HB.out) HC2.out A18.out).mono ?_); rintro e w31 ⟨v335, rfl, ho0, hb⟩; refine ⟨_, rfl, ?_⟩; have HO336 := zQ (Kd.R_lower ho0 (below_size (zB2 HB.out GE322.out))); replace HO327 := zQ (Kd.R_below (zR HO327.out) hb); replace HO330 := zQ (Kd.R_below (zR HO330.out) hb); replace HO333 := zQ (Kd.S_below (zS HO333.out) hb); replace BK322 := zbl BK322.out hb; replace HB := zbs2 HB.out GE322.out hb; (try clear hb); (try clear ho0); obtain ⟨Ao32, co32, eo32⟩ := Kd.R_slice HO327.out; subst eo32; obtain ⟨Ao33, co33, eo33⟩ := Kd.R_slice HO330.out; subst eo33; obtain ⟨Ao34, co34, eo34⟩ := Kd.S_slice HO333.out; subst eo34; obtain ⟨Ao35, co35, eo35⟩ := Kd.R_slice HO336.out; subst eo35) | ((with_reducible refine zgc 47 ?_); refine goesL_ (some 35) rfl rfl Try.func47 (by kernel_rfl) rfl #[.agg #[.slice Ao32 t325.length co32, .slice Ao33 t328.length co33], .slice Ao34 t331.length co34, .slice Ao35 t334.length co35] rfl zM ?_; (with_reducible refine (spec_HoldsAll.calls k _ _ t325 _ _ t328 _ _ t331 _ _ t334 t337 t338 _ ?side1 ((Kd.R_reads' HO327.out).2.1) ?side3 ((Kd.R_reads' HO330.out).2.1) ?side5 ((Kd.S_reads' HO333.out).2.1) ?side7 ((Kd.R_reads' HO336.out).2.1) A19.out).mono ?_); (case side1 => repeat (first | exact (Kd.R_reads' HO327.out).2.2 | (with_reducible refine Kd.C_alloc ?_ _) | (with_reducible refine Kd.C_drewN ?_ _) | (with_reducible refine Kd.C_drew ?_))); (case side3 => repeat (first | exact (Kd.R_reads' HO330.out).2.2 | (with_reducible refine Kd.C_alloc ?_ _) | (with_reducible refine Kd.C_drewN ?_ _) | (with_reducible refine Kd.C_drew ?_))); (case side5 => repeat (first | exact (Kd.S_reads' HO333.out).2.2 | (with_reducible refine Kd.C_alloc ?_ _) | (with_reducible refine Kd.C_drewN ?_ _) | (with_reducible refine Kd.C_drew ?_))); (case side7 => repeat (first | exact (Kd.R_reads' HO336.out).2.2 | (with_reducible refine Kd.C_alloc ?_ _) | (with_reducible refine Kd.C_drewN ?_ _) | (with_reducible refine Kd.C_drew ?_))); rintro e w36 ⟨rfl, hb⟩; refine ⟨_, rfl, ?_⟩; replace HO327 := zQ (Kd.R_below (zR HO327.out) hb); replace HO330 := zQ (Kd.R_below (zR HO330.out) hb); replace HO333 := zQ (Kd.S_below (zS HO333.out) hb); replace HO336 := zQ (Kd.R_below (zR HO336.out) hb); replace BK322 := zbl BK322.out hb; replace HB := zbs2 HB.out GE322.out hb; (try clear hb); have hcz37_0 := zc0 BK322.out; have hcz37_1 := zc1 BK322.out; have hfz37_0 := zfz BK322.out 0; have hfz37_1 := zfz BK322.out 1) | ((with_reducible refine zgc 36 ?_); refine goesL_ (some 39) rfl rfl Try.func36 (by kernel_rfl) rfl #[.agg #[.slice A0_0 l0_0.length c0_0, .slice A0_1 l0_1.length c0_1]] rfl zM ?_; (with_reducible refine (laws_toFrame.calls k _ _ l0_0 _ _ l0_1 t339 t342 _ (zC HR0_0.out HB.out) HC0_0.out (zC HR0_1.out HB.out) HC0_1.out A20.out).mono ?_); rintro e w38 ⟨v340, v343, rfl, ho0, ho1, hb⟩; refine ⟨_, rfl, ?_⟩; have HO341 := zQ (Kd.R_lower (Kd.R_new' ho0 (Kd.R_lt (zR HO327.out))) (below_size (zB2 HB.out GE322.out))); have HO344 := zQ (Kd.R_lower (Kd.R_new' ho1 (Kd.R_lt (zR HO330.out))) (below_size (zB2 HB.out GE322.out))); replace HO327 := zQ (Kd.R_elder' (zR HO327.out) (Kd.R_base ho0) hb); replace HO330 := zQ (Kd.R_elder' (zR HO330.out) (Kd.R_base ho1) hb); replace HO333 := zQ (Kd.S_below (zS HO333.out) hb); replace HO336 := zQ (Kd.R_below (zR HO336.out) hb); replace BK322 := zbl BK322.out hb; replace HB := zbs2 HB.out GE322.out hb; (try clear hb); (try clear ho0); (try clear ho1)) | ((with_reducible refine zd 10 ?_); refine zbx (N := 10) (cs := #[.slice none 0 0, .slice none 0 0]) (t := 27) ?_; intro gb345 hg w39 hbox hb; have BK345 := zQ (hbox); have GW345 := zgz2 hg HB.out GE322.out; have GE345 := GW345; have NB322_345 := zQ ((by rw [hg]; exact Nat.ne_of_lt (blk_lt (g := gb322) (o := .cells #[.slice A0_0 l0_0.length c0_0, .slice A0_1 l0_1.length c0_1] 54 (0, 0)) (zb BK322.out)) : gb322 ≠ gb345)); have NB345_322 := zQ ((by rw [hg]; exact Nat.ne_of_gt (blk_lt (g := gb322) (o := .cells #[.slice A0_0 l0_0.length c0_0, .slice A0_1 l0_1.length c0_1] 54 (0, 0)) (zb BK322.out)) : gb345 ≠ gb322)); replace HO327 := zQ (Kd.R_below (zR HO327.out) hb); replace HO330 := zQ (Kd.R_below (zR HO330.out) hb); replace HO333 := zQ (Kd.S_below (zS HO333.out) hb); replace HO336 := zQ (Kd.R_below (zR HO336.out) hb); replace HO341 := zQ (Kd.R_below (zR HO341.out) hb); replace HO344 := zQ (Kd.R_below (zR HO344.out) hb); replace BK322 := zbl BK322.out hb; replace HB := zbs2 HB.out GE322.out hb; clear hb hbox hg; obtain ⟨Ao40, co40, eo40⟩ := Kd.R_slice HO341.out; subst eo40; have hnb41 := NB345_322.out; have hnc41 := NB322_345.out; have hcz42_0 := zc0 BK345.out; have hcz42_1 := zc1 BK345.out; have hfz42_0 := zfz BK345.out 0; have hfz42_1 := zfz BK345.out 1; obtain ⟨Ao43, co43, eo43⟩ := Kd.R_slice HO344.out; subst eo43) | ((with_reducible refine zgc 48 ?_); refine zgo (some 41) Try.func48 #[.slice A1 l1.length c1] ?_; (with_reducible refine (laws_toPullSS.calls k _ _ l1 t346 _ (Kd.C_below HR1.out (zB3 HB.out GE322.out GE345.out)) HC1.out A21.out).mono ?_); rintro e w44 ⟨v347, rfl, ho0, hb⟩; refine ⟨_, rfl, ?_⟩; have HO348 := zQ (Kd.S_lower (Kd.S_new' ho0 (Kd.S_lt (by (with_reducible repeat (first | apply Kd.S_alloc | apply Kd.S_drewN | apply Kd.S_drew)); exact (Kd.S_mono (Kd.S_far (p := ⟨gb345, 1, none⟩) (Kd.S_far (p := ⟨gb345, 0, none⟩) (Kd.S_types HO333.out BK345.out (by decide)) (fun _ hk => hk.2) (.slice Ao40 t339.length co40)) (fun _ hk => hk.2) (.slice Ao43 t342.length co43)) (fun _ h_ => h_.1))))) (below_size (zB3 HB.out GE322.out GE345.out))); replace HO327 := zQ (Kd.R_below (by (with_reducible repeat (first | apply Kd.R_alloc | apply Kd.R_drewN | apply Kd.R_drew)); exact (Kd.R_mono (Kd.R_far (p := ⟨gb345, 1, none⟩) (Kd.R_far (p := ⟨gb345, 0, none⟩) (Kd.R_types HO327.out BK345.out (by decide)) (fun _ hk => hk.2) (.slice Ao40 t339.length co40)) (fun _ hk => hk.2) (.slice Ao43 t342.length co43)) (fun _ h_ => h_.1))) hb); replace HO330 := zQ (Kd.R_below (by (with_reducible repeat (first | apply Kd.R_alloc | apply Kd.R_drewN | apply Kd.R_drew)); exact (Kd.R_mono (Kd.R_far (p := ⟨gb345, 1, none⟩) (Kd.R_far (p := ⟨gb345, 0, none⟩) (Kd.R_types HO330.out BK345.out (by decide)) (fun _ hk => hk.2) (.slice Ao40 t339.length co40)) (fun _ hk => hk.2) (.slice Ao43 t342.length co43)) (fun _ h_ => h_.1))) hb); replace HO333 := zQ (Kd.S_elder' (by (with_reducible repeat (first | apply Kd.S_alloc | apply Kd.S_drewN | apply Kd.S_drew)); exact (Kd.S_mono (Kd.S_far (p := ⟨gb345, 1, none⟩) (Kd.S_far (p := ⟨gb345, 0, none⟩) (Kd.S_types HO333.out BK345.out (by decide)) (fun _ hk => hk.2) (.slice Ao40 t339.length co40)) (fun _ hk => hk.2) (.slice Ao43 t342.length co43)) (fun _ h_ => h_.1))) (Kd.S_base ho0) hb); replace HO336 := zQ (Kd.R_below (by (with_reducible repeat (first | apply Kd.R_alloc | apply Kd.R_drewN | apply Kd.R_drew)); exact (Kd.R_mono (Kd.R_far (p := ⟨gb345, 1, none⟩) (Kd.R_far (p := ⟨gb345, 0, none⟩) (Kd.R_types HO336.out BK345.out (by decide)) (fun _ hk => hk.2) (.slice Ao40 t339.length co40)) (fun _ hk => hk.2) (.slice Ao43 t342.length co43)) (fun _ h_ => h_.1))) hb); replace HO341 := zQ (Kd.R_below (by (with_reducible repeat (first | apply Kd.R_alloc | apply Kd.R_drewN | apply Kd.R_drew)); exact (Kd.R_mono (Kd.R_far (p := ⟨gb345, 1, none⟩) (Kd.R_far (p := ⟨gb345, 0, none⟩) (Kd.R_types HO341.out BK345.out (by decide)) (fun _ hk => hk.2) (.slice Ao40 t339.length co40)) (fun _ hk => hk.2) (.slice Ao43 t342.length co43)) (fun _ h_ => h_.1))) hb); replace HO344 := zQ (Kd.R_below (by (with_reducible repeat (first | apply Kd.R_alloc | apply Kd.R_drewN | apply Kd.R_drew)); exact (Kd.R_mono (Kd.R_far (p := ⟨gb345, 1, none⟩) (Kd.R_far (p := ⟨gb345, 0, none⟩) (Kd.R_types HO344.out BK345.out (by decide)) (fun _ hk => hk.2) (.slice Ao40 t339.length co40)) (fun _ hk => hk.2) (.slice Ao43 t342.length co43)) (fun _ h_ => h_.1))) hb); replace BK322 := zQ (blk_below (g := gb322) (o := .cells #[.slice A0_0 l0_0.length c0_0, .slice A0_1 l0_1.length c0_1] 54 (0, 0)) (by refine zb ?_; refine blk_far ?_ NB322_345.out _; refine zb ?_; refine blk_far ?_ NB322_345.out _; refine zb ?_; exact BK322.out) hb); replace BK345 := zQ (blk_below (g := gb345) (o := .cells #[.slice Ao40 t339.length co40, .slice Ao43 t342.length co43] 27 (0, 0)) (by refine zb ?_; refine blk_put (cs := #[.slice Ao40 t339.length co40, .slice none 0 0]) ?_ 1 _ rfl; refine zb ?_; refine blk_put (cs := #[.slice none 0 0, .slice none 0 0]) ?_ 0 _ rfl; refine zb ?_; exact BK345.out) hb); replace HB := zQ (below_step (zB3 HB.out GE322.out GE345.out) hb); (try clear hb); (try clear ho0)) | ((with_reducible refine zgc 38 ?_); refine zgo (some 43) Try.func38 #[.slice A2 l2.length c2] ?_; (with_reducible refine (laws_toInt64S.calls k _ _ l2 t349 _ (zC HR2.out HB.out) HC2.out A22.out).mono ?_); rintro e w45 ⟨v350, rfl, ho0, hb⟩; refine ⟨_, rfl, ?_⟩; have HO351 := zQ (Kd.R_lower (Kd.R_new' ho0 (Kd.R_lt (zR HO336.out))) (below_size (zB3 HB.out GE322.out GE345.out))); replace HO327 := zQ (Kd.R_below (zR HO327.out) hb); replace HO330 := zQ (Kd.R_below (zR HO330.out) hb); replace HO333 := zQ (Kd.S_below (zS HO333.out) hb); replace HO336 := zQ (Kd.R_elder' (zR HO336.out) (Kd.R_base ho0) hb); replace HO341 := zQ (Kd.R_below (zR HO341.out) hb); replace HO344 := zQ (Kd.R_below (zR HO344.out) hb); replace HO348 := zQ (Kd.S_below (zS HO348.out) hb); replace BK322 := zbl BK322.out hb; replace BK345 := zbl BK345.out hb; replace HB := zQ (below_step (zB3 HB.out GE322.out GE345.out) hb); (try clear hb); (try clear ho0); have hcz46_0 := zc0 BK345.out; have hcz46_1 := zc1 BK345.out; have hfz46_0 := zfz BK345.out 0; have hfz46_1 := zfz BK345.out 1; obtain ⟨Ao47, co47, eo47⟩ := Kd.S_slice HO348.out; subst eo47; obtain ⟨Ao48, co48, eo48⟩ := Kd.R_slice HO351.out; subst eo48) | ((with_reducible refine zgc 49 ?_); refine goesL_ (some 48) rfl rfl Try.func49 (by kernel_rfl) rfl #[.agg #[.slice Ao40 t339.length co40, .slice Ao43 t342.length co43], .slice Ao47 t346.length co47, .slice Ao48 t349.length co48] rfl zM ?_; (with_reducible refine (impl_HoldsAll.calls k _ _ t339 _ _ t342 _ _ t346 _ _ t349 t352 t353 _ ?side1 ((Kd.R_reads' HO341.out).2.1) ?side3 ((Kd.R_reads' HO344.out).2.1) ?side5 ((Kd.S_reads' HO348.out).2.1) ?side7 ((Kd.R_reads' HO351.out).2.1) A23.out).mono ?_); (case side1 => repeat (first | exact (Kd.R_reads' HO341.out).2.2 | (with_reducible refine Kd.C_alloc ?_ _) | (with_reducible refine Kd.C_drewN ?_ _) | (with_reducible refine Kd.C_drew ?_))); (case side3 => repeat (first | exact (Kd.R_reads' HO344.out).2.2 | (with_reducible refine Kd.C_alloc ?_ _) | (with_reducible refine Kd.C_drewN ?_ _) | (with_reducible refine Kd.C_drew ?_))); (case side5 => repeat (first | exact (Kd.S_reads' HO348.out).2.2 | (with_reducible refine Kd.C_alloc ?_ _) | (with_reducible refine Kd.C_drewN ?_ _) | (with_reducible refine Kd.C_drew ?_))); (case side7 => repeat (first | exact (Kd.R_reads' HO351.out).2.2 | (with_reducible refine Kd.C_alloc ?_ _) | (with_reducible refine Kd.C_drewN ?_ _) | (with_reducible refine Kd.C_drew ?_))); rintro e w49 ⟨rfl, hb⟩; refine ⟨_, rfl, ?_⟩; replace HO327 := zQ (Kd.R_below (zR HO327.out) hb); replace HO330 := zQ (Kd.R_below (zR HO330.out) hb); replace HO333 := zQ (Kd.S_below (zS HO333.out) hb); replace HO336 := zQ (Kd.R_below (zR HO336.out) hb); replace HO341 := zQ (Kd.R_below (zR HO341.out) hb); replace HO344 := zQ (Kd.R_below (zR HO344.out) hb); replace HO348 := zQ (Kd.S_below (zS HO348.out) hb); replace HO351 := zQ (Kd.R_below (zR HO351.out) hb); replace BK322 := zbl BK322.out hb; replace BK345 := zbl BK345.out hb; replace HB := zQ (below_step (zB3 HB.out GE322.out GE345.out) hb); (try clear hb)))
    (try simp only [Act.put, List.setIfInBounds_toArray, List.set_cons_zero, List.set_cons_succ])
    go_cut [58] (fun v58 wc => ∃ (kq : Nat) (x58_23 : Bool), v58 = .bool x58_23 ∧ Aside0 (laws_FnExactHoldsAll.j0 kq l1 l2 t346 t349 x58_23 l0_0 l0_1 t339 t342 = some r) ∧ Aside0 (kq ≤ k) ∧ Aside0 (Kd.S (Kd.slice 113 k113) 28 wc w.heap.size (fun _ => True) (.slice Ao47 t346.length co47) t346) ∧ Aside0 (Kd.R (Kd.int .i64) 2 wc w.heap.size (fun _ => True) (.slice Ao48 t349.length co48) t349) ∧ Aside0 (Kd.R k164 164 wc w.heap.size (fun _ => True) (.slice Ao40 t339.length co40) t339) ∧ Aside0 (Kd.R k115 115 wc w.heap.size (fun _ => True) (.slice Ao43 t342.length co43) t342) ∧ Aside0 (wc.heap[gb322]? = some (.cells #[(.slice A0_0 l0_0.length c0_0), (.slice A0_1 l0_1.length c0_1)] 54 (0, 0))) ∧ Aside0 (wc.heap[gb345]? = some (.cells #[(.slice Ao40 t339.length co40), (.slice Ao43 t342.length co43)] 27 (0, 0))) ∧ Aside0 (Below w.heap.size w wc))
    case first =>
     have H := HC24.out; clear HC24
     by_cases c50 : (t352 != t337) = true
     ·rw [if_pos c50] at H
      have c50b0 : (t352 != t337) = true := c50
      (try (have c50b1 : decide (t352 = t337) = false := by simpa using c50))
      (try (have c50b2 : (t352 == t337) = false := by simpa using c50))
      (try (have c50b3 : ¬ (t352 = t337) := by simpa using c50))
      clear c50
      (first | rw [c50b0] | (simp only [i64_w, i32_w]; rw [c50b0]) | skip)
      exact (laws_FnExactHoldsAll.j0_cut _ _ _ _ _ _ _ _ _ _ H HRT.out).elim
     ·rw [if_neg c50] at H
      have c50b0 : (t352 != t337) = false := by simpa using c50
      (try (have c50b1 : decide (t352 = t337) = true := by simpa using c50))
      (try (have c50b2 : (t352 == t337) = true := by simpa using c50))
      clear c50
      (first | rw [c50b0] | (simp only [i64_w, i32_w]; rw [c50b0]) | skip)
      have H' := zQ H; clear H
      go_wp2
      go_meet
      case rel => exact ⟨_, ((t353 != t338)), (zF), H', ⟨by first | omega | exact Nat.le_refl _⟩, ⟨by (with_reducible repeat (first | apply Kd.S_alloc | apply Kd.S_drewN | apply Kd.S_drew)); exact Kd.S_mono HO348.out (fun _ hk => trivial)⟩, ⟨by (with_reducible repeat (first | apply Kd.R_alloc | apply Kd.R_drewN | apply Kd.R_drew)); exact Kd.R_mono HO351.out (fun _ hk => trivial)⟩, ⟨by (with_reducible repeat (first | apply Kd.R_alloc | apply Kd.R_drewN | apply Kd.R_drew)); exact Kd.R_mono HO341.out (fun _ hk => trivial)⟩, ⟨by (with_reducible repeat (first | apply Kd.R_alloc | apply Kd.R_drewN | apply Kd.R_drew)); exact Kd.R_mono HO344.out (fun _ hk => trivial)⟩, ⟨zb BK322.out⟩, ⟨zb BK345.out⟩, ⟨zB3 HB.out GE322.out GE345.out⟩⟩
    case rest =>
     clear HC24; (try clear c1); (try clear c2); (try clear p2); (try clear c3); (try clear c4); (try clear c4b0); (try clear c4b1); (try clear c5); (try clear c7); (try clear c7b0); (try clear c12); (try clear c12b0); (try clear c34); (try clear c36); (try clear c38); (try clear c41); (try clear c46); (try clear c47); (try clear c48); (try clear c49); (try clear c50); (try clear c50b0); (try clear c50b1); (try clear c50b2); (try clear hcz14_0); (try clear hcz14_1); (try clear hcz26_0); (try clear hcz26_1); (try clear hcz28_0); (try clear hcz28_1); (try clear hcz37_0); (try clear hcz37_1); (try clear hcz42_0); (try clear hcz42_1); (try clear hcz46_0); (try clear hcz46_1); (try clear hcz9_0); (try clear hcz9_1); (try clear hfz14_0); (try clear hfz14_1); (try clear hfz26_0); (try clear hfz26_1); (try clear hfz28_0); (try clear hfz28_1); (try clear hfz37_0); (try clear hfz37_1); (try clear hfz42_0); (try clear hfz42_1); (try clear hfz46_0); (try clear hfz46_1); (try clear hfz9_0); (try clear hfz9_1); obtain ⟨kq, x58_23, rfl, HA, HJ23, HO_11, HO_12, HO_346000, HO_346001, BK322, BK345, HB⟩ := hcut
     cases kq with
     | zero => exact absurd HA.out (by simp [laws_FnExactHoldsAll.j0])
     | succ kj23 =>
      have H := HA.out; clear HA
      simp only [laws_FnExactHoldsAll.j0] at H
      by_cases c51 : x58_23 = true
      ·subst c51
       have H1 : (some false) = some r := by rw [if_pos rfl] at H; exact H
       clear H; have H := H1; clear H1; obtain rfl := Option.some.inj H
       exact absurd HRT.out (by decide)
      ·replace c51 := Bool.eq_false_iff.mpr c51
       subst c51
       have H1 : ((laws_toFrame.f kj23 l0_0 l0_1).bind fun bt354 => ((laws_eqFrame.f kj23 t339 t342 bt354.1 bt354.2).bind fun t360 => (if t360 = true then ((laws_toPullSS.f kj23 l1).bind fun t361 => ((laws_eqPullSS.f kj23 t346 t361).bind fun t364 => (if t364 = true then ((laws_toInt64S.f kj23 l2).bind fun t365 => ((laws_eqInt64S.f kj23 t349 t365).bind fun t368 => (if t368 = true then (some true) else (some false)))) else (some false)))) else (some false)))) = some r := by rw [if_neg (show ¬ (false = true) by decide)] at H; exact H
       clear H; have H := H1; clear H1; replace H := Option.bind_eq_some_iff.mp H; obtain ⟨⟨t354, t357⟩, A520, H⟩ := H; replace H : ((laws_eqFrame.f kj23 t339 t342 t354 t357).bind fun t360 => (if t360 = true then ((laws_toPullSS.f kj23 l1).bind fun t361 => ((laws_eqPullSS.f kj23 t346 t361).bind fun t364 => (if t364 = true then ((laws_toInt64S.f kj23 l2).bind fun t365 => ((laws_eqInt64S.f kj23 t349 t365).bind fun t368 => (if t368 = true then (some true) else (some false)))) else (some false)))) else (some false))) = some r := H; have A52 := zQ A520; clear A520; replace H := Option.bind_eq_some_iff.mp H; obtain ⟨t360, A530, H⟩ := H; replace H : (if t360 = true then ((laws_toPullSS.f kj23 l1).bind fun t361 => ((laws_eqPullSS.f kj23 t346 t361).bind fun t364 => (if t364 = true then ((laws_toInt64S.f kj23 l2).bind fun t365 => ((laws_eqInt64S.f kj23 t349 t365).bind fun t368 => (if t368 = true then (some true) else (some false)))) else (some false)))) else (some false)) = some r := H; have A53 := zQ A530; clear A530
       by_cases c54 : t360 = true
       ·subst c54
        have H1 : ((laws_toPullSS.f kj23 l1).bind fun t361 => ((laws_eqPullSS.f kj23 t346 t361).bind fun t364 => (if t364 = true then ((laws_toInt64S.f kj23 l2).bind fun t365 => ((laws_eqInt64S.f kj23 t349 t365).bind fun t368 => (if t368 = true then (some true) else (some false)))) else (some false)))) = some r := by rw [if_pos rfl] at H; exact H
        clear H; have H := H1; clear H1; replace H := Option.bind_eq_some_iff.mp H; obtain ⟨t361, A550, H⟩ := H; replace H : ((laws_eqPullSS.f kj23 t346 t361).bind fun t364 => (if t364 = true then ((laws_toInt64S.f kj23 l2).bind fun t365 => ((laws_eqInt64S.f kj23 t349 t365).bind fun t368 => (if t368 = true then (some true) else (some false)))) else (some false))) = some r := H; have A55 := zQ A550; clear A550; replace H := Option.bind_eq_some_iff.mp H; obtain ⟨t364, A560, H⟩ := H; replace H : (if t364 = true then ((laws_toInt64S.f kj23 l2).bind fun t365 => ((laws_eqInt64S.f kj23 t349 t365).bind fun t368 => (if t368 = true then (some true) else (some false)))) else (some false)) = some r := H; have A56 := zQ A560; clear A560
        by_cases c57 : t364 = true
        ·subst c57
         have H1 : ((laws_toInt64S.f kj23 l2).bind fun t365 => ((laws_eqInt64S.f kj23 t349 t365).bind fun t368 => (if t368 = true then (some true) else (some false)))) = some r := by rw [if_pos rfl] at H; exact H
         clear H; have H := H1; clear H1; replace H := Option.bind_eq_some_iff.mp H; obtain ⟨t365, A580, H⟩ := H; replace H : ((laws_eqInt64S.f kj23 t349 t365).bind fun t368 => (if t368 = true then (some true) else (some false))) = some r := H; have A58 := zQ A580; clear A580; replace H := Option.bind_eq_some_iff.mp H; obtain ⟨t368, A590, H⟩ := H; replace H : (if t368 = true then (some true) else (some false)) = some r := H; have A59 := zQ A590; clear A590
         by_cases c60 : t368 = true
         ·subst c60
          have H1 : (some true) = some r := by rw [if_pos rfl] at H; exact H
          clear H; have H := H1; clear H1; obtain rfl := Option.some.inj H
          try go_wp2
          have n0_ := zQ (Kd.S_drew HO_11.out); have n1_ := zQ (Kd.R_drew HO_12.out); have n2_ := zQ (Kd.R_drew HO_346000.out); have n3_ := zQ (Kd.R_drew HO_346001.out); have n4_ := zQ (blk_drew BK322.out); have n5_ := zQ (blk_drew BK345.out); have n6_ := zQ (below_drew1 HB.out); clear HO_11; clear HO_12; clear HO_346000; clear HO_346001; clear BK322; clear BK345; clear HB; have HO_11 := n0_; have HO_12 := n1_; have HO_346000 := n2_; have HO_346001 := n3_; have BK322 := n4_; have BK345 := n5_; have HB := n6_; clear n0_ n1_ n2_ n3_ n4_ n5_ n6_
          refine zs (fun w' => w'.cell? ⟨gb345, 0, none⟩ = some (.slice Ao40 t339.length co40) ∧ w'.cell? ⟨gb345, 1, none⟩ = some (.slice Ao43 t342.length co43) ∧ w'.cell? ⟨gb322, 0, none⟩ = some (.slice A0_0 l0_0.length c0_0) ∧ w'.cell? ⟨gb322, 1, none⟩ = some (.slice A0_1 l0_1.length c0_1)) [] 5 ⟨(blk_cell BK345.out 0).trans rfl, (blk_cell BK345.out 1).trans rfl, (blk_cell BK322.out 0).trans rfl, (blk_cell BK322.out 1).trans rfl⟩ (fun hHeld => ?_)
          generalize wc.drew = w61 at HO_11 HO_12 HO_346000 HO_346001 BK322 BK345 HB hHeld ⊢
          refine zt 0 59 hHeld ?_
          refine zt 1 60 hHeld ?_
          refine zo 2 (some 61) (fun K hK => ?_)
          refine goes_ Try.func36 (by kernel_rfl) rfl #[.agg #[.slice A0_0 l0_0.length c0_0, .slice A0_1 l0_1.length c0_1]] (by rfl) rfl rfl zM ?_
          with_reducible refine (laws_toFrame.calls kj23 _ _ l0_0 _ _ l0_1 t354 t357 _ ?side1 ?side2 ?side3 ?side4 A52.out).mono ?_
          (case side1 => exact zC HR0_0.out HB.out)
          (case side2 => exact HC0_0.out)
          (case side3 => exact zC HR0_1.out HB.out)
          (case side4 => exact HC0_1.out)
          rintro e w62 ⟨v355, v358, rfl, ho0, ho1, hb⟩
          refine ⟨_, rfl, ?_⟩
          have n0_ := zQ (Kd.S_below (zS HO_11.out) hb); have n1_ := zQ (Kd.R_below (zR HO_12.out) hb); have n2_ := zQ (Kd.R_elder' (zR HO_346000.out) (Kd.R_base ho0) hb); have n3_ := zQ (Kd.R_elder' (zR HO_346001.out) (Kd.R_base ho1) hb); have n4_ := zQ (Kd.R_lower (Kd.R_new' ho0 (Kd.R_lt (zR HO_346000.out))) (below_size (zB3 HB.out GE322.out GE345.out))); have n5_ := zQ (Kd.R_lower (Kd.R_new' ho1 (Kd.R_lt (zR HO_346001.out))) (below_size (zB3 HB.out GE322.out GE345.out))); have n6_ := zbl BK322.out hb; have n7_ := zbl BK345.out hb; have n8_ := zQ (below_step (zB3 HB.out GE322.out GE345.out) hb); clear HO_11; clear HO_12; clear HO_346000; clear HO_346001; clear BK322; clear BK345; clear HB; have HO_11 := n0_; have HO_12 := n1_; have HO_346000 := n2_; have HO_346001 := n3_; have HO356 := n4_; have HO359 := n5_; have BK322 := n6_; have BK345 := n7_; have HB := n8_; clear n0_ n1_ n2_ n3_ n4_ n5_ n6_ n7_ n8_
          (try clear hb)
          (try clear hb2)
          (try clear hk)
          (try clear hi)
          (try clear ho0)
          (try clear ho1)
          obtain ⟨Ao63, co63, eo63⟩ := Kd.R_slice HO356.out
          (first | subst eo63 | (injection eo63 with f1_ f2_ f3_; have f4_ := f1_.symm; have f5_ := f3_.symm; clear f1_ f2_ f3_; subst f4_; subst f5_))
          obtain ⟨Ao64, co64, eo64⟩ := Kd.R_slice HO359.out
          (first | subst eo64 | (injection eo64 with f1_ f2_ f3_; have f4_ := f1_.symm; have f5_ := f3_.symm; clear f1_ f2_ f3_; subst f4_; subst f5_))
          refine hK.out _ _ ⟨(blk_cell BK345.out 0).trans rfl, (blk_cell BK345.out 1).trans rfl, (blk_cell BK322.out 0).trans rfl, (blk_cell BK322.out 1).trans rfl⟩ (fun hHeld => ?_)
          clear hK K
          refine zn 61 ?_
          refine zo 3 (some 62) (fun K hK => ?_)
          refine goes_ Try.func39 (by kernel_rfl) rfl #[.agg #[.slice Ao40 t339.length co40, .slice Ao43 t342.length co43], .agg #[.slice Ao63 t354.length co63, .slice Ao64 t357.length co64]] (by rfl) rfl rfl zM ?_
          with_reducible refine (laws_eqFrame.calls kj23 _ _ t339 _ _ t342 _ _ t354 _ _ t357 true _ ?side1 ?side2 ?side3 ?side4 ?side5 ?side6 ?side7 ?side8 A53.out).mono ?_
          (case side1 => repeat (first | exact (Kd.R_reads' HO_346000.out).2.2 | (with_reducible refine Kd.C_alloc ?_ _) | (with_reducible refine Kd.C_drewN ?_ _) | (with_reducible refine Kd.C_drew ?_)))
          (case side2 => exact (Kd.R_reads' HO_346000.out).2.1)
          (case side3 => repeat (first | exact (Kd.R_reads' HO_346001.out).2.2 | (with_reducible refine Kd.C_alloc ?_ _) | (with_reducible refine Kd.C_drewN ?_ _) | (with_reducible refine Kd.C_drew ?_)))
          (case side4 => exact (Kd.R_reads' HO_346001.out).2.1)
          (case side5 => repeat (first | exact (Kd.R_reads' HO356.out).2.2 | (with_reducible refine Kd.C_alloc ?_ _) | (with_reducible refine Kd.C_drewN ?_ _) | (with_reducible refine Kd.C_drew ?_)))
          (case side6 => exact (Kd.R_reads' HO356.out).2.1)
          (case side7 => repeat (first | exact (Kd.R_reads' HO359.out).2.2 | (with_reducible refine Kd.C_alloc ?_ _) | (with_reducible refine Kd.C_drewN ?_ _) | (with_reducible refine Kd.C_drew ?_)))
          (case side8 => exact (Kd.R_reads' HO359.out).2.1)
          rintro e w65 ⟨rfl, hb⟩
          refine ⟨_, rfl, ?_⟩
          have n0_ := zQ (Kd.S_below (zS HO_11.out) hb); have n1_ := zQ (Kd.R_below (zR HO_12.out) hb); have n2_ := zQ (Kd.R_below (zR HO_346000.out) hb); have n3_ := zQ (Kd.R_below (zR HO_346001.out) hb); have n4_ := zQ (Kd.R_below (zR HO356.out) hb); have n5_ := zQ (Kd.R_below (zR HO359.out) hb); have n6_ := zbl BK322.out hb; have n7_ := zbl BK345.out hb; have n8_ := zQ (below_step (zB3 HB.out GE322.out GE345.out) hb); clear HO_11; clear HO_12; clear HO_346000; clear HO_346001; clear HO356; clear HO359; clear BK322; clear BK345; clear HB; have HO_11 := n0_; have HO_12 := n1_; have HO_346000 := n2_; have HO_346001 := n3_; have HO356 := n4_; have HO359 := n5_; have BK322 := n6_; have BK345 := n7_; have HB := n8_; clear n0_ n1_ n2_ n3_ n4_ n5_ n6_ n7_ n8_
          (try clear hb)
          (try clear hb2)
          (try clear hk)
          (try clear hi)
          refine hK.out _ _ ⟨(blk_cell BK345.out 0).trans rfl, (blk_cell BK345.out 1).trans rfl, (blk_cell BK322.out 0).trans rfl, (blk_cell BK322.out 1).trans rfl⟩ (fun hHeld => ?_)
          clear hK K
          refine zn 62 ?_
          refine zp 4 63 ?_
          refine done_ (by kernel_rfl) ?_
          try go_wp2_with (first | ((with_reducible refine zgc 48 ?_); refine zgo (some 66) Try.func48 #[.slice A1 l1.length c1] ?_; (with_reducible refine (laws_toPullSS.calls kj23 _ _ l1 t361 _ (zC HR1.out HB.out) HC1.out A55.out).mono ?_); rintro e w66 ⟨v362, rfl, ho0, hb⟩; refine ⟨_, rfl, ?_⟩; have HO363 := zQ (Kd.S_lower (Kd.S_new' ho0 (Kd.S_lt (zS HO_11.out))) (below_size (zB3 HB.out GE322.out GE345.out))); replace HO_11 := zQ (Kd.S_elder' (zS HO_11.out) (Kd.S_base ho0) hb); replace HO_12 := zQ (Kd.R_below (zR HO_12.out) hb); replace HO_346000 := zQ (Kd.R_below (zR HO_346000.out) hb); replace HO_346001 := zQ (Kd.R_below (zR HO_346001.out) hb); replace HO356 := zQ (Kd.R_below (zR HO356.out) hb); replace HO359 := zQ (Kd.R_below (zR HO359.out) hb); replace BK322 := zbl BK322.out hb; replace BK345 := zbl BK345.out hb; replace HB := zQ (below_step (zB3 HB.out GE322.out GE345.out) hb); (try clear hb); (try clear ho0); obtain ⟨Ao67, co67, eo67⟩ := Kd.S_slice HO363.out; subst eo67) | ((with_reducible refine zgc 50 ?_); refine zgo (some 67) Try.func50 #[.slice Ao47 t346.length co47, .slice Ao67 t361.length co67] ?_; (with_reducible refine (laws_eqPullSS.calls kj23 _ _ t346 _ _ t361 true _ ?side1 ((Kd.S_reads' HO_11.out).2.1) ?side3 ((Kd.S_reads' HO363.out).2.1) A56.out).mono ?_); (case side1 => repeat (first | exact (Kd.S_reads' HO_11.out).2.2 | (with_reducible refine Kd.C_alloc ?_ _) | (with_reducible refine Kd.C_drewN ?_ _) | (with_reducible refine Kd.C_drew ?_))); (case side3 => repeat (first | exact (Kd.S_reads' HO363.out).2.2 | (with_reducible refine Kd.C_alloc ?_ _) | (with_reducible refine Kd.C_drewN ?_ _) | (with_reducible refine Kd.C_drew ?_))); rintro e w68 ⟨rfl, hb⟩; refine ⟨_, rfl, ?_⟩; replace HO_11 := zQ (Kd.S_below (zS HO_11.out) hb); replace HO_12 := zQ (Kd.R_below (zR HO_12.out) hb); replace HO_346000 := zQ (Kd.R_below (zR HO_346000.out) hb); replace HO_346001 := zQ (Kd.R_below (zR HO_346001.out) hb); replace HO356 := zQ (Kd.R_below (zR HO356.out) hb); replace HO359 := zQ (Kd.R_below (zR HO359.out) hb); replace HO363 := zQ (Kd.S_below (zS HO363.out) hb); replace BK322 := zbl BK322.out hb; replace BK345 := zbl BK345.out hb; replace HB := zQ (below_step (zB3 HB.out GE322.out GE345.out) hb); (try clear hb)) | ((with_reducible refine zgc 38 ?_); refine zgo (some 71) Try.func38 #[.slice A2 l2.length c2] ?_; (with_reducible refine (laws_toInt64S.calls kj23 _ _ l2 t365 _ (zC HR2.out HB.out) HC2.out A58.out).mono ?_); rintro e w69 ⟨v366, rfl, ho0, hb⟩; refine ⟨_, rfl, ?_⟩; have HO367 := zQ (Kd.R_lower (Kd.R_new' ho0 (Kd.R_lt (zR HO_12.out))) (below_size (zB3 HB.out GE322.out GE345.out))); replace HO_11 := zQ (Kd.S_below (zS HO_11.out) hb); replace HO_12 := zQ (Kd.R_elder' (zR HO_12.out) (Kd.R_base ho0) hb); replace HO_346000 := zQ (Kd.R_below (zR HO_346000.out) hb); replace HO_346001 := zQ (Kd.R_below (zR HO_346001.out) hb); replace HO356 := zQ (Kd.R_below (zR HO356.out) hb); replace HO359 := zQ (Kd.R_below (zR HO359.out) hb); replace HO363 := zQ (Kd.S_below (zS HO363.out) hb); replace BK322 := zbl BK322.out hb; replace BK345 := zbl BK345.out hb; replace HB := zQ (below_step (zB3 HB.out GE322.out GE345.out) hb); (try clear hb); (try clear ho0); obtain ⟨Ao70, co70, eo70⟩ := Kd.R_slice HO367.out; subst eo70) | ((with_reducible refine zgc 41 ?_); refine zgo (some 72) Try.func41 #[.slice Ao48 t349.length co48, .slice Ao70 t365.length co70] ?_; (with_reducible refine (laws_eqInt64S.calls kj23 _ _ t349 _ _ t365 true _ ?side1 ((Kd.R_reads' HO_12.out).2.1) ?side3 ((Kd.R_reads' HO367.out).2.1) A59.out).mono ?_); (case side1 => repeat (first | exact (Kd.R_reads' HO_12.out).2.2 | (with_reducible refine Kd.C_alloc ?_ _) | (with_reducible refine Kd.C_drewN ?_ _) | (with_reducible refine Kd.C_drew ?_))); (case side3 => repeat (first | exact (Kd.R_reads' HO367.out).2.2 | (with_reducible refine Kd.C_alloc ?_ _) | (with_reducible refine Kd.C_drewN ?_ _) | (with_reducible refine Kd.C_drew ?_))); rintro e w' ⟨rfl, ⟨nd, rfl⟩⟩; refine ⟨_, rfl, ?_⟩))
          go_ret
          exact ⟨zE, zB3 HB.out GE322.out GE345.out⟩
         ·replace c60 := Bool.eq_false_iff.mpr c60
          subst c60
          have H1 : (some false) = some r := by rw [if_neg (show ¬ (false = true) by decide)] at H; exact H
          clear H; have H := H1; clear H1; obtain rfl := Option.some.inj H
          exact absurd HRT.out (by decide)
        ·replace c57 := Bool.eq_false_iff.mpr c57
         subst c57
         have H1 : (some false) = some r := by rw [if_neg (show ¬ (false = true) by decide)] at H; exact H
         clear H; have H := H1; clear H1; obtain rfl := Option.some.inj H
         exact absurd HRT.out (by decide)
       ·replace c54 := Bool.eq_false_iff.mpr c54
        subst c54
        have H1 : (some false) = some r := by rw [if_neg (show ¬ (false = true) by decide)] at H; exact H
        clear H; have H := H1; clear H1; obtain rfl := Option.some.inj H
        exact absurd HRT.out (by decide)

end
end Go.Proofs.Ytimjblgepbhoaaa.PStays
