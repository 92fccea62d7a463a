import Derived.Test.YtimjblgepbhoaaaHStays0
import Derived.Test.YtimjblgepbhoaaaHStaysq
import Derived.Test.YtimjblgepbhoaaaHStaysx
namespace Go.Proofs.Ytimjblgepbhoaaa.PStays
noncomputable section
open Go.RowKit Go.Proofs.YtimjblgepbhoaaaW.PrintWords Go.Proofs.YtimjblgepbhoaaaW.PrintLast Go.Proofs.YtimjblgepbhoaaaW.PrintMore
attribute [local go_sem] max2_int min2_int max_two min_two max_three min_three max_four min_four   -- for this text's walks alone
set_option linter.unusedVariables false
set_option linter.unusedSimpArgs false
set_option maxHeartbeats 8000000
set_option maxRecDepth 100000

def impl_HoldingDensities.f (k : Nat) (l0_0 : List (S164)) (l0_1 : List (S115)) (l1 : List (S113)) : Option (List Int × Int × Int) := (impl_HoldingBars.f k l0_0 l0_1 l1).bind fun bt182 => (if bt182.2 = 0 then ((impl_solveBars.f k l0_0 l0_1 l1 bt182.1).bind fun bt186 => (some (bt186.1, bt186.2.1, 0))) else (some (([] : List Int), 0, bt182.2)))
theorem impl_HoldingDensities.mono : ∀ a0 a1 a2 k, LeO (impl_HoldingDensities.f k a0 a1 a2) (impl_HoldingDensities.f (k + 1) a0 a1 a2) := by
 intro a0 a1 a2 k
 unfold impl_HoldingDensities.f
 have m0 := @impl_HoldingBars.mono; have m1 := @impl_solveBars.mono; exact zM0
theorem impl_HoldingDensities.calls (k : Nat) (A0_0 : Option Addr) (c0_0 : Nat) (l0_0 : List (S164)) (A0_1 : Option Addr) (c0_1 : Nat) (l0_1 : List (S115)) (A1 : Option Addr) (c1 : Nat) (l1 : List (S113)) (r1 : List Int) (r2 : Int) (r3 : Int) (w : World) (hr0_0 : Kd.C k164 w A0_0 l0_0.length l0_0) (hc0_0 : l0_0.length ≤ c0_0) (hr0_1 : Kd.C k115 w A0_1 l0_1.length l0_1) (hc0_1 : l0_1.length ≤ c0_1) (hr1 : Kd.C k113 w A1 l1.length l1) (hc1 : l1.length ≤ c1) (h : impl_HoldingDensities.f k l0_0 l0_1 l1 = some (r1, r2, r3)) :
  Calls Try.prog 19 #[.agg #[.slice A0_0 l0_0.length c0_0, .slice A0_1 l0_1.length c0_1], .slice A1 l1.length c1] w fun e w' => ∃ v0_ : Value, e = .returned (.tuple #[.agg #[v0_, .int .i64 r2], .int .i64 r3]) ∧ Kd.R (Kd.int .i64) 2 w' w.heap.size (fun _ => True) v0_ r1 ∧ Below w.heap.size w w' := by
 have hu27 := Try.underlying27
 have hu35 := Try.underlying35
 have HR0_0 := zQ hr0_0
 have HC0_0 := zQ hc0_0
 clear hr0_0 hc0_0
 have HR0_1 := zQ hr0_1
 have HC0_1 := zQ hc0_1
 clear hr0_1 hc0_1
 have HR1 := zQ hr1
 have HC1 := zQ hc1
 clear hr1 hc1
 have HB := zQ (Below.refl w.heap.size w)
 have H : ((impl_HoldingBars.f k l0_0 l0_1 l1).bind fun bt182 => (if bt182.2 = 0 then ((impl_solveBars.f k l0_0 l0_1 l1 bt182.1).bind fun bt186 => (some (bt186.1, bt186.2.1, 0))) else (some (([] : List Int), 0, bt182.2)))) = some (r1, r2, r3) := h
 clear h
 replace H := zob H; obtain ⟨⟨t182, t185⟩, A3, H⟩ := H
 by_cases c4 : t185 = 0
 ·rw [if_pos c4] at H
  have c4b0 : (t185 == 0) = true := beq_iff_eq.mpr c4; have c4b1 : (t185 != 0) = false := bne_eq_false_iff_eq.mpr c4; clear c4; replace H := zob H; obtain ⟨⟨t186, t189, t190⟩, A5, H⟩ := H
  simp only [Option.some.injEq, Prod.mk.injEq] at H
  obtain ⟨rfl, rfl, rfl⟩ := H
  go_enter Try.func19, Try.ntmps19
  go_wp2_with (first | ((with_reducible refine zd 2 ?_); refine zbx (N := 2) (cs := #[.slice A0_0 l0_0.length c0_0, .slice A0_1 l0_1.length c0_1]) (t := 27) ?_; intro gb180 hg w6 hbox hb; have BK180 := zQ (hbox); have GW180 := zgz hg HB.out; have GE180 := GW180; replace HB := zbs HB.out hb; clear hb hbox hg) | ((with_reducible refine zd 4 ?_); refine zbx (N := 4) (cs := #[.slice none 0 0, .int .i64 0]) (t := 35) ?_; intro gb181 hg w7 hbox hb; have BK181 := zQ (hbox); have GW181 := zgz2 hg HB.out GE180.out; have GE181 := GW181; have NB180_181 := zn1 hg BK180.out; have NB181_180 := zn2 hg BK180.out; replace BK180 := zbl BK180.out hb; replace HB := zbs2 HB.out GE180.out hb; clear hb hbox hg; have hnb8 := NB180_181.out; have hnc8 := NB181_180.out; obtain ⟨hcz9_0, hcz9_1, hfz9_0, hfz9_1⟩ := zy2 BK180.out) | ((with_reducible refine zgc 17 ?_); refine zgo (some 13) Try.func17 #[.agg #[.slice A0_0 l0_0.length c0_0, .slice A0_1 l0_1.length c0_1], .slice A1 l1.length c1] ?_; (with_reducible refine (impl_HoldingBars.calls k _ _ l0_0 _ _ l0_1 _ _ l1 t182 t185 _ (zC HR0_0.out HB.out) HC0_0.out (zC HR0_1.out HB.out) HC0_1.out (zC HR1.out HB.out) HC1.out A3.out).mono ?_); rintro e w10 ⟨v183, rfl, ho0, hb⟩; refine ⟨_, rfl, ?_⟩; have HO184 := zQ (Kd.R_lower ho0 (below_size (zB3 HB.out GE180.out GE181.out))); replace BK180 := zbl BK180.out hb; replace BK181 := zbl BK181.out hb; replace HB := zQ (below_step (zB3 HB.out GE180.out GE181.out) hb); (try clear hb); (try clear ho0); obtain ⟨hcz11_0, hcz11_1, hfz11_0, hfz11_1⟩ := zy2 BK180.out; obtain ⟨Ao12, co12, eo12⟩ := Kd.R_slice HO184.out; subst eo12) | ((with_reducible refine zgc 73 ?_); refine zgo (some 24) Try.func73 #[.agg #[.slice A0_0 l0_0.length c0_0, .slice A0_1 l0_1.length c0_1], .slice A1 l1.length c1, .slice Ao12 t182.length co12] ?_; (with_reducible refine (impl_solveBars.calls k _ _ l0_0 _ _ l0_1 _ _ l1 _ _ t182 t186 t189 t190 _ (zC HR0_0.out HB.out) HC0_0.out (zC HR0_1.out HB.out) HC0_1.out (zC HR1.out HB.out) HC1.out ?side7 ((Kd.R_reads' HO184.out).2.1) A5.out).mono ?_); (case side7 => exact zk (Kd.R_reads' HO184.out).2.2); rintro e w13 ⟨v187, rfl, ho0, hb⟩; refine ⟨_, rfl, ?_⟩; have HO188 := zQ (Kd.R_lower (Kd.R_new' ho0 (Kd.R_lt (zR HO184.out))) (below_size (zB3 HB.out GE180.out GE181.out))); replace HO184 := zQ (Kd.R_elder' (zR HO184.out) (Kd.R_base ho0) hb); replace BK180 := zbl BK180.out hb; replace BK181 := zbl BK181.out hb; replace HB := zQ (below_step (zB3 HB.out GE180.out GE181.out) hb); (try clear hb); (try clear ho0)) | ((with_reducible refine zd 8 ?_); refine zbx (N := 8) (cs := #[.slice none 0 0, .int .i64 0]) (t := 35) ?_; intro gb191 hg w14 hbox hb; have BK191 := zQ (hbox); have GW191 := zQ ((by rw [hg]; exact (below_size (zB3 HB.out GE180.out GE181.out)) : w.heap.size ≤ gb191)); have GE191 := zQ ((by rw [hg]; exact (below_size (zB3 HB.out GE180.out GE181.out)) : w.heap.size ≤ gb191)); have NB180_191 := zn1 hg BK180.out; have NB191_180 := zn2 hg BK180.out; have NB181_191 := zn1 hg BK181.out; have NB191_181 := zn2 hg BK181.out; replace HO184 := zRb HO184.out hb; replace HO188 := zRb HO188.out hb; replace BK180 := zbl BK180.out hb; replace BK181 := zbl BK181.out hb; replace HB := zQ (below_step (zB3 HB.out GE180.out GE181.out) hb); clear hb hbox hg; obtain ⟨Ao15, co15, eo15⟩ := Kd.R_slice HO188.out; subst eo15; have hnb16 := NB191_180.out; have hnc16 := NB180_191.out; have hnb17 := NB191_181.out; have hnc17 := NB181_191.out; obtain ⟨hcz18_0, hcz18_1, hfz18_0, hfz18_1⟩ := zy2 BK191.out; obtain ⟨hcz19_0, hcz19_1, hfz19_0, hfz19_1⟩ := zy2 BK181.out))
  refine bodyPost_ret (results_ct rfl _ _ gb181 35 #[.slice Ao15 t186.length co15, .int .i64 t189] (0, 0) _ rfl (by refine zb ?_; refine blk_put (cs := #[.slice Ao15 t186.length co15, .int .i64 0]) ?_ 1 _ rfl; refine zb ?_; refine blk_put (cs := #[.slice none 0 0, .int .i64 0]) ?_ 0 _ rfl; refine zb ?_; refine blk_far ?_ NB181_191.out _; refine zb ?_; refine blk_far ?_ NB181_191.out _; refine zb ?_; exact BK181.out) Try.underlying35 rfl (by kernel_rfl)) rfl ?_
  exact ⟨_, zE, by (with_reducible repeat (first | apply Kd.R_alloc | apply Kd.R_drewN | apply Kd.R_drew)); exact Kd.R_mono (Kd.R_far (p := ⟨gb181, 1, none⟩) (Kd.R_far (p := ⟨gb181, 0, none⟩) (Kd.R_far (p := ⟨gb191, 1, none⟩) (Kd.R_far (p := ⟨gb191, 0, none⟩) (Kd.R_types (Kd.R_types HO188.out BK191.out (by decide)) BK181.out (by decide)) (fun _ hk => hk.1.2) (.slice Ao15 t186.length co15)) (fun _ hk => hk.1.2) (.int .i64 t189)) (fun _ hk => hk.2) (.slice Ao15 t186.length co15)) (fun _ hk => hk.2) (.int .i64 t189)) (fun _ hk => trivial), by repeat (first | (with_reducible first | exact HB.out | apply below_alloc | apply pw_below_drewN | apply below_drew1 | refine below_set ?_ GE180.out | refine below_set ?_ GE181.out | refine below_set ?_ GE191.out) | exact HB.out)⟩
 ·rw [if_neg c4] at H
  have c4b0 : (t185 == 0) = false := beq_eq_false_iff_ne.mpr c4; have c4b1 : (t185 != 0) = true := bne_iff_ne.mpr c4
  simp only [Option.some.injEq, Prod.mk.injEq] at H
  obtain ⟨rfl, rfl, rfl⟩ := H
  go_enter Try.func19, Try.ntmps19
  go_wp2_with (first | ((with_reducible refine zd 2 ?_); refine zbx (N := 2) (cs := #[.slice A0_0 l0_0.length c0_0, .slice A0_1 l0_1.length c0_1]) (t := 27) ?_; intro gb180 hg w20 hbox hb; have BK180 := zQ (hbox); have GW180 := zgz hg HB.out; have GE180 := GW180; replace HB := zbs HB.out hb; clear hb hbox hg) | ((with_reducible refine zd 4 ?_); refine zbx (N := 4) (cs := #[.slice none 0 0, .int .i64 0]) (t := 35) ?_; intro gb181 hg w21 hbox hb; have BK181 := zQ (hbox); have GW181 := zgz2 hg HB.out GE180.out; have GE181 := GW181; have NB180_181 := zn1 hg BK180.out; have NB181_180 := zn2 hg BK180.out; replace BK180 := zbl BK180.out hb; replace HB := zbs2 HB.out GE180.out hb; clear hb hbox hg; have hnb22 := NB180_181.out; have hnc22 := NB181_180.out; obtain ⟨hcz23_0, hcz23_1, hfz23_0, hfz23_1⟩ := zy2 BK180.out) | ((with_reducible refine zgc 17 ?_); refine zgo (some 13) Try.func17 #[.agg #[.slice A0_0 l0_0.length c0_0, .slice A0_1 l0_1.length c0_1], .slice A1 l1.length c1] ?_; (with_reducible refine (impl_HoldingBars.calls k _ _ l0_0 _ _ l0_1 _ _ l1 t182 t185 _ (zC HR0_0.out HB.out) HC0_0.out (zC HR0_1.out HB.out) HC0_1.out (zC HR1.out HB.out) HC1.out A3.out).mono ?_); rintro e w24 ⟨v183, rfl, ho0, hb⟩; refine ⟨_, rfl, ?_⟩; have HO184 := zQ (Kd.R_lower ho0 (below_size (zB3 HB.out GE180.out GE181.out))); replace BK180 := zbl BK180.out hb; replace BK181 := zbl BK181.out hb; replace HB := zQ (below_step (zB3 HB.out GE180.out GE181.out) hb); (try clear hb); (try clear ho0); obtain ⟨hcz25_0, hcz25_1, hfz25_0, hfz25_1⟩ := zy2 BK181.out))
  refine bodyPost_ret (results_ct rfl _ _ gb181 35 #[.slice none 0 0, .int .i64 0] (0, 0) _ rfl (by refine zb ?_; refine blk_put (cs := #[.slice none 0 0, .int .i64 0]) ?_ 1 _ rfl; refine zb ?_; refine blk_put (cs := #[.slice none 0 0, .int .i64 0]) ?_ 0 _ rfl; refine zb ?_; exact BK181.out) Try.underlying35 rfl (by kernel_rfl)) rfl ?_
  exact ⟨_, zE, by first | exact Kd.R_nil _ _ _ _ _ | exact Kd.N_nil _ _ _ _ _ | exact Kd.V_nil _ _ _ _ _ | exact Kd.Q_nil _ _ _ _ _ | exact Kd.S_nil _ _ _ _ _, zB3 HB.out GE180.out GE181.out⟩

end
end Go.Proofs.Ytimjblgepbhoaaa.PStays

