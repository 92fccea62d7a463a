import Derived.Test.YtimjblgepbhoaaaHStays0
import Derived.Test.YtimjblgepbhoaaaHStaysl
import Derived.Test.YtimjblgepbhoaaaHStayso
namespace Go.Proofs.Ytimjblgepbhoaaa.PStays
noncomputable section
open Go.RowKit Go.Proofs.YtimjblgepbhoaaaW.PrintWords Go.Proofs.YtimjblgepbhoaaaW.PrintLast Go.Proofs.YtimjblgepbhoaaaW.PrintMore
attribute [local go_sem] max2_int min2_int max_two min_two max_three min_three max_four min_four   -- for this text's walks alone
set_option linter.unusedVariables false
set_option linter.unusedSimpArgs false
set_option maxHeartbeats 8000000
set_option maxRecDepth 100000

theorem info145 : (Try.prog.info? 145).map (fun i => (i.zero, i.size, i.bytes)) = some (some (.slice none 0 0), 1, 24) := by kernel_rfl
theorem info147 : (Try.prog.info? 147).map (fun i => (i.zero, i.size, i.bytes)) = some (some (.agg #[(.int .i64 0), (.int .i64 0)]), 2, 16) := by kernel_rfl
structure S147 where
 f0 : Int
 f1 : Int
def z147 : S147 := ⟨(0 : Int), (0 : Int)⟩
def k147 : Kd S147 := Kd.iso (Kd.pair (Kd.int .i64) (Kd.int .i64)) (fun x : S147 => (x.f0, x.f1))
theorem k147_openM {w : World} {base : Nat} {ok : Nat → Prop} {x : S147} {cs : List Value} (h : k147.M w base ok x cs) : cs = [.int .i64 x.f0, .int .i64 x.f1] := by
 obtain ⟨_, _, rfl, rfl, rfl⟩ := h
 exact rfl
theorem k147_mkM (w : World) (base : Nat) (ok : Nat → Prop) (x : S147)  : k147.M w base ok x [.int .i64 x.f0, .int .i64 x.f1] := ⟨[.int .i64 x.f0], [.int .i64 x.f1], rfl, rfl, rfl⟩
theorem R_one147 {e : Nat} {w : World} {base : Nat} {ok : Nat → Prop} {v : Value} {xs : List (S147)} (h : Kd.R k147 e w base ok v xs) : Kd.R k147 e w base (fun k => some k = v.ownBlock) v xs :=
 ⟨fun k hk => hk.symm, h.2.imp_ (fun x c hp => by obtain rfl := k147_openM hp; exact k147_mkM _ _ _ x)⟩
section
open Classical in
theorem S_append_rows_step {P : Program} {ops : Array Oper} {o : Oper} {a : Act} {Q : Exit → Act → World → Prop} {Kc : Act → World → Prop} {α : Type} (d : Kd α) {w0 W : World} (base : Nat) (hw : Region.wanted o (yielded ops a.tmps) = true) (s x : Operand) (t e e' : TypeId) (z : Value) (bytes : Nat)
  (ho : o.op = .call { callee := .builtin .append, args := #[s, x], argTypes := #[t, t] })
  (ht : P.underlying t = some (.slice e)) (hinfo : (P.info? e).map (fun i => (i.zero, i.size, i.bytes)) = some (some z, d.sz, bytes)) (hz : z.cells.size = d.sz) (hs0 : 0 < d.sz) (hb0 : 0 < bytes)
  (v : Value) (xs ys : List α) (A : Option Addr) (m c : Nat) (ok okp : Nat → Prop) (hs : a.eval s = v) (hx : a.eval x = .slice A m c)
  (HO : Kd.S d e W base (fun k => ok k ∧ ¬ okp k) v xs) (HR : Kd.S d e' W base okp (.slice A m c) ys) (hokp : ∀ k, okp k → ok k ∧ some k ≠ v.ownBlock) (hfresh : ∀ k, W.heap.size ≤ k → ok k)
  (HB : Below base w0 W) (hbase : base ≤ W.heap.size) (hl : (xs.length + m) * bytes ≤ 140737488355328)
  (h : ∀ v1 w1, Kd.S d e w1 base ok v1 (xs ++ ys) → Below base w0 w1 → W.grownBy w1 v.ownBlock → (v1.ownBlock = v.ownBlock ∨ ∃ b, v1.ownBlock = some b ∧ W.heap.size ≤ b) → Kc (a.put o.dst v1) w1) :
  if Region.wanted o (yielded ops a.tmps) = true then Oper.wp P o a W Kc Q else Kc (a.put o.dst undef) W := by
 obtain ⟨f1, h1⟩ := HO
 obtain ⟨f2, h2⟩ := HR
 obtain ⟨A', c', he, hlc, hr⟩ := OwnRow.reads h2.2
 injection he with e1 e2 e3
 subst e1
 rw [List.length_zipIdx] at e2
 rw [List.length_zipIdx] at hr
 subst e2
 have hz2 : (xs ++ ys).zipIdx = xs.zipIdx ++ ys.zipIdx xs.length := by rw [List.zipIdx_append, Nat.zero_add]
 let f : Nat → Nat := fun k => if okp k then xs.length + f2 k else f1 k
 have hR1 : (Kd.tag f d).R e W base ok v xs.zipIdx := Kd.R_mono (Kd.R_tag h1 (fun k hk _ => if_neg hk.2)) (fun _ hk => hk.1)
 have hR2 : ReadsRow (fun p cs => (Kd.tag f d).M W base okp p cs) (Kd.tag f d).sz W A ys.length (ys.zipIdx xs.length) := by
  refine ⟨List.length_zipIdx, hr.2.1, fun hp => ?_⟩
  obtain ⟨ad, hA, hc⟩ := hr.2.2 hp
  refine ⟨ad, hA, fun j p hj => ?_⟩
  rw [List.getElem?_zipIdx] at hj; obtain ⟨y, hy, rfl⟩ := Option.map_eq_some_iff.1 hj; obtain ⟨cs, h3, h4, h5⟩ := hc j (y, j) (by rw [List.getElem?_zipIdx, hy, Nat.zero_add]; rfl)
  refine ⟨cs, h3, d.M_mono (fun k hk => ⟨hk.1.1, ?_⟩) h4, h5⟩
  have h6 : f2 k = j := hk.2
  exact (if_pos hk.1.1).trans (by rw [h6])
 refine Kd.R_append_rows_step (Kd.tag f d) base hw s x t e z bytes ho ht hinfo hz hs0 hb0 v xs.zipIdx (ys.zipIdx xs.length) A ys.length c ok okp hs hx hR1 hR2 (fun _ _ h => h) hokp hfresh HB hbase (by rw [List.length_zipIdx]; exact hl) ?_
 intro v1 w1 hr1
 rw [← hz2] at hr1
 exact h v1 w1 ⟨f, hr1⟩
end
mutual
def impl_barRows.l0 : Nat → List (S113) → List Int → List (List (S147)) → List Int → Int → Int → List (S164) → List (S115) → Option ((List (List (S147))))
 | 0, _, _, _, _, _, _, _, _ => none
 | k + 1, x1, x2, x7, x18, x19, x20, x154000, x154001 => if x20 < x19 then (if 0 ≤ x20 then (if x20 < (x18.length : Int) then (impl_barRows.l1 k x1 x2 x7 (rd x18 x20) (([] : List (S147))) (([] : List (S147))) x18 x19 x20 x2 (x2.length : Int) 0 x154000 x154001) else (none)) else (none)) else (some x7)
def impl_barRows.l1 : Nat → List (S113) → List Int → List (List (S147)) → Int → List (S147) → List (S147) → List Int → Int → Int → List Int → Int → Int → List (S164) → List (S115) → Option ((List (List (S147))))
 | 0, _, _, _, _, _, _, _, _, _, _, _, _, _, _ => none
 | k + 1, x1, x2, x7, x9, x10, x11, x18, x19, x20, x26, x27, x28, x154000, x154001 => if x28 < x27 then (if 0 ≤ x28 then (if x28 < (x26.length : Int) then (if 0 ≤ (rd x26 x28) then (if (rd x26 x28) < (x154001.length : Int) then ((impl_pullOf.f x154000 x154001 ((rd_T115 x154001 (rd x26 x28)).f0) ((rd_T115 x154001 (rd x26 x28)).f1) ((rd_T115 x154001 (rd x26 x28)).f2) x9).bind fun bt169 => ((impl_fraction.f k bt169.1 1).bind fun bt171 => (if x10.length < 8796093022208 then ((impl_fraction.f k bt169.2 1).bind fun bt176 => (if x11.length < 8796093022208 then (impl_barRows.l1 k x1 x2 x7 x9 (x10 ++ [(⟨bt171.1, bt171.2⟩ : S147)]) (x11 ++ [(⟨bt176.1, bt176.2⟩ : S147)]) x18 x19 x20 x26 x27 (wrap64 (x28 + 1)) x154000 x154001) else (none))) else (none)))) else (none)) else (none)) else (none)) else (none)) else (if 0 ≤ x9 then (if x9 < (x1.length : Int) then ((impl_fraction.f k (wrap64 (-((rd_T113 x1 x9).f0))) 1).bind fun bt182 => (if x10.length < 8796093022208 then ((impl_fraction.f k (wrap64 (-((rd_T113 x1 x9).f1))) 1).bind fun bt188 => (if x11.length < 8796093022208 then ((some (([(x10 ++ [(⟨bt182.1, bt182.2⟩ : S147)]), (x11 ++ [(⟨bt188.1, bt188.2⟩ : S147)])] : List (List (S147))) : List (List (S147)))).bind fun y193 => (if x7.length + y193.length < 5864062014805 then (impl_barRows.l0 k x1 x2 (x7 ++ y193) x18 x19 (wrap64 (x20 + 1)) x154000 x154001) else (none))) else (none))) else (none))) else (none)) else (none))
end
def impl_barRows.f (k : Nat) (l0_0 : List (S164)) (l0_1 : List (S115)) (l1 : List (S113)) (l2 : List Int) : Option ((List (List (S147)))) := (impl_freeKnots.f k l0_0 l0_1).bind fun t157 => (impl_barRows.l0 k l1 l2 (([] : List (List (S147)))) t157 (t157.length : Int) 0 l0_0 l0_1)
theorem impl_barRows.mono_l : ∀ k, (∀ y0 y1 y2 y3 y4 y5 y6 y7, LeO (impl_barRows.l0 k y0 y1 y2 y3 y4 y5 y6 y7) (impl_barRows.l0 (k + 1) y0 y1 y2 y3 y4 y5 y6 y7)) ∧ (∀ y0 y1 y2 y3 y4 y5 y6 y7 y8 y9 y10 y11 y12 y13, LeO (impl_barRows.l1 k y0 y1 y2 y3 y4 y5 y6 y7 y8 y9 y10 y11 y12 y13) (impl_barRows.l1 (k + 1) y0 y1 y2 y3 y4 y5 y6 y7 y8 y9 y10 y11 y12 y13))
 | 0 => ⟨fun _ _ _ _ _ _ _ _ r h => by simp [impl_barRows.l0] at h, fun _ _ _ _ _ _ _ _ _ _ _ _ _ _ r h => by simp [impl_barRows.l1] at h⟩
 | k + 1 => by
  obtain ⟨ih0, ih1⟩ := impl_barRows.mono_l k
  refine ⟨?_, ?_⟩
  ·intro y0 y1 y2 y3 y4 y5 y6 y7
   unfold impl_barRows.l0
   have m0 := @impl_fraction.mono; have m1 := @impl_freeKnots.mono; exact zM0
  ·intro y0 y1 y2 y3 y4 y5 y6 y7 y8 y9 y10 y11 y12 y13
   unfold impl_barRows.l1
   have m0 := @impl_fraction.mono; have m1 := @impl_freeKnots.mono; exact zM0
theorem impl_barRows.mono : ∀ a0 a1 a2 a3 k, LeO (impl_barRows.f k a0 a1 a2 a3) (impl_barRows.f (k + 1) a0 a1 a2 a3) := by
 intro a0 a1 a2 a3 k
 obtain ⟨ih0, ih1⟩ := impl_barRows.mono_l k
 unfold impl_barRows.f
 have m0 := @impl_fraction.mono; have m1 := @impl_freeKnots.mono; exact zM0
def impl_barRows.T9 : Bool × List (List Nat × List Nat) := (true, [([], []), ([], []), ([1], [1]), ([], []), ([2, 3], [2, 3]), ([4], [4]), ([], []), ([0, 5, 6], [0, 5, 6]), ([7], [7]), ([8], [8]), ([8], [8]), ([9, 7, 0, 1, 2, 3, 4, 5, 6, 7, 8, 9], [9]), ([10, 11, 0, 1, 2, 3, 4, 5, 6, 7, 8, 9, 10, 11], [10])])
def impl_barRows.B9 : List Nat := [0, 0, 2, 0, 14, 30, 0, 127, 255, 511, 511, 1023, 4095]
theorem impl_barRows.tab9 : rtab .any (opsOf Try.f120 9) = impl_barRows.T9 := by kernel_rfl
theorem impl_barRows.bits9 : waitsOk impl_barRows.T9.2 impl_barRows.B9 = true := by kernel_rfl
def impl_barRows.T13 : Bool × List (List Nat × List Nat) := (true, [([], []), ([], []), ([], []), ([], []), ([2, 3], [2, 3]), ([4], [4]), ([5], [5]), ([6], [6]), ([7], [7]), ([8], [8]), ([1, 9, 8], [1, 9]), ([], []), ([], []), ([], []), ([12, 13], [12, 13]), ([14], [14]), ([15], [15]), ([16], [16]), ([17, 10], [17]), ([18], [18]), ([11, 19, 18], [11, 19]), ([10, 20], [10, 20]), ([0, 21, 20], [0, 21]), ([22, 22, 0, 1, 2, 3, 4, 5, 6, 7, 8, 9, 10, 11, 12, 13, 14, 15, 16, 17, 18, 19, 20, 21, 22], [0, 22])])
def impl_barRows.B13 : List Nat := [0, 0, 0, 0, 12, 28, 60, 124, 252, 508, 1022, 0, 0, 0, 12288, 28672, 61440, 126976, 260094, 522238, 1048574, 2097150, 4194303, 8388607]
theorem impl_barRows.tab13 : rtab .any (opsOf Try.f120 13) = impl_barRows.T13 := by kernel_rfl
theorem impl_barRows.bits13 : waitsOk impl_barRows.T13.2 impl_barRows.B13 = true := by kernel_rfl
theorem impl_barRows.calls (k : Nat) (A0_0 : Option Addr) (c0_0 : Nat) (l0_0 : List (S164)) (A0_1 : Option Addr) (c0_1 : Nat) (l0_1 : List (S115)) (A1 : Option Addr) (c1 : Nat) (l1 : List (S113)) (A2 : Option Addr) (c2 : Nat) (l2 : List Int) (r : List (List (S147))) (w : World) (hr0_0 : Kd.C k164 w A0_0 l0_0.length l0_0) (hc0_0 : l0_0.length ≤ c0_0) (hr0_1 : Kd.C k115 w A0_1 l0_1.length l0_1) (hc0_1 : l0_1.length ≤ c0_1) (hr1 : Kd.C k113 w A1 l1.length l1) (hc1 : l1.length ≤ c1) (hr2 : Kd.C (Kd.int .i64) w A2 l2.length l2) (hc2 : l2.length ≤ c2) (h : impl_barRows.f k l0_0 l0_1 l1 l2 = some r) :
  Calls Try.prog 120 #[.agg #[.slice A0_0 l0_0.length c0_0, .slice A0_1 l0_1.length c0_1], .slice A1 l1.length c1, .slice A2 l2.length c2] w fun e w' => ∃ v0_ : Value, e = .returned (v0_) ∧ v0_.ownBlock ≠ none ∧ Kd.S (Kd.slice 147 k147) 145 w' w.heap.size (fun k_ => (w.heap.size ≤ k_)) v0_ r ∧ Below w.heap.size w w' := by
 have hu27 := Try.underlying27
 have hu115 := Try.underlying115
 have HR0_0 := zQ hr0_0
 have HC0_0 := zQ hc0_0
 clear hr0_0 hc0_0
 have HR0_1 := zQ hr0_1
 have HC0_1 := zQ hc0_1
 clear hr0_1 hc0_1
 have HR1 := zQ hr1
 have HC1 := zQ hc1
 clear hr1 hc1
 have HR2 := zQ hr2
 have HC2 := zQ hc2
 clear hr2 hc2
 have HB := zQ (Below.refl w.heap.size w)
 have H : ((impl_freeKnots.f k l0_0 l0_1).bind fun t157 => (impl_barRows.l0 k l1 l2 (([] : List (List (S147)))) t157 (t157.length : Int) 0 l0_0 l0_1)) = some r := h
 clear h
 obtain ⟨y154, hy154⟩ : ∃ y_ : List (List (S147)), y_ = (([] : List (List (S147)))) := ⟨_, rfl⟩
 replace H : ((impl_freeKnots.f k l0_0 l0_1).bind fun t157 => (impl_barRows.l0 k l1 l2 y154 t157 (t157.length : Int) 0 l0_0 l0_1)) = some r := zh H
 have Ny154 := zQ hy154
 clear hy154
 replace H := zob H; obtain ⟨t157, A4, H⟩ := H
 have H' := zQ H
 clear H
 go_enter Try.func120, Try.ntmps120
 go_wp2_with (first | ((with_reducible refine zd 3 ?_); refine zbx (N := 3) (cs := #[.slice A0_0 l0_0.length c0_0, .slice A0_1 l0_1.length c0_1]) (t := 27) ?_; intro gb153 hg w5 hbox hb; have BK153 := zQ (hbox); have GW153 := zgz hg HB.out; have GE153 := GW153; replace HB := zbs HB.out hb; clear hb hbox hg) | ((with_reducible refine zd 16 ?_); refine Kd.S_lit (Kd.slice 147 k147) _ 145 ?hg (N := 16) ?hd (xs := ([] : List (List (S147)))) (inner := []) (ok := (fun k_ => (w.heap.size ≤ k_) ∧ k_ ≠ gb153)) (okp := (fun k_ => (w.heap.size ≤ k_) ∧ k_ ≠ gb153)) ?hr ?hp (fun _ hk => hk) ((show ∀ k_, w5.heap.size ≤ k_ → (fun k_ => (w.heap.size ≤ k_) ∧ k_ ≠ gb153) k_ from fun k_ hk => ⟨(Nat.le_trans (below_size (zB2 HB.out GE153.out)) hk), Kd.freshB (g := gb153) (o := .cells #[.slice A0_0 l0_0.length c0_0, .slice A0_1 l0_1.length c0_1] 27 (0, 0)) (zb BK153.out) k_ hk⟩) _ (Nat.le_refl _)) (Below.refl _ _) (Nat.le_refl _) (by simp) ?_; (case hd => rfl); (case hg => rfl); (case hr => first | (go_simp; done) | (go_simp; rfl)); (case hp => exact (Reps.none _ _)); intro v155 w6 ho7 hb hg_ hnew_; have HN7 := zQ (show v155.ownBlock ≠ none from fun e0_ => by obtain ⟨b_, e_, _⟩ := hnew_; rw [e_] at e0_; cases e0_); clear hg_ hnew_; (first | rw [← Ny154.out] at ho7 | (simp only [Int.reduceToNat] at ho7; rw [← Ny154.out] at ho7)); have HO156 := zQ (Kd.S_lower ho7 (below_size (zB2 HB.out GE153.out))); replace BK153 := zbl BK153.out hb; replace HB := zbs2 HB.out GE153.out hb; clear hb ho7; obtain ⟨hcz8_0, hcz8_1, hfz8_0, hfz8_1⟩ := zy2 BK153.out) | ((with_reducible refine zgc 93 ?_); refine zgo (some 18) Try.func93 #[.agg #[.slice A0_0 l0_0.length c0_0, .slice A0_1 l0_1.length c0_1]] ?_; (with_reducible refine (impl_freeKnots.calls k _ _ l0_0 _ _ l0_1 t157 _ (zC HR0_0.out HB.out) HC0_0.out (zC HR0_1.out HB.out) HC0_1.out A4.out).mono ?_); rintro e w9 ⟨v158, rfl, ho0, hb⟩; refine ⟨_, rfl, ?_⟩; have HO159 := zQ (Kd.R_lower (Kd.R_newM (M := fun k_ => (w.heap.size ≤ k_)) ho0 (below_size (zB2 HB.out GE153.out)) (fun k_ h_ => h_)) (below_size (zB2 HB.out GE153.out))); replace HO156 := zQ (Kd.S_elder' (zS HO156.out) (Kd.R_base ho0) hb); replace BK153 := zbl BK153.out hb; replace HB := zbs2 HB.out GE153.out hb; (try clear hb); (try clear ho0); obtain ⟨Ao10, co10, eo10⟩ := Kd.R_slice HO159.out; subst eo10))
 go_loopg [7, 20] k (fun kq v7 v20 w' => ∃ (x7_1 : List (List (S147))) (x20_1 : Int), v20 = .int .i64 x20_1 ∧ Aside0 (impl_barRows.l0 kq l1 l2 x7_1 t157 (t157.length : Int) x20_1 l0_0 l0_1 = some r) ∧ Aside0 (kq ≤ k) ∧ Aside0 (Kd.S (Kd.slice 147 k147) 145 w' w.heap.size (fun k_ => (w.heap.size ≤ k_) ∧ some k_ ≠ ((.slice Ao10 t157.length co10) : Value).ownBlock ∧ k_ ≠ gb153) v7 x7_1) ∧ Aside0 (Kd.R (Kd.int .i64) 2 w' w.heap.size (fun k_ => (w.heap.size ≤ k_)) (.slice Ao10 t157.length co10) t157) ∧ Aside0 (w'.heap[gb153]? = some (.cells #[(.slice A0_0 l0_0.length c0_0), (.slice A0_1 l0_1.length c0_1)] 27 (0, 0))) ∧ Aside0 (Below w.heap.size w w') ∧ Aside0 ((v7 : Value).ownBlock ≠ none))
 case atStart => exact ⟨(y154), (0), (zF), H', ⟨Nat.le_refl _⟩, ⟨by (with_reducible repeat (first | apply Kd.S_alloc | apply Kd.S_drewN | apply Kd.S_drew)); exact Kd.S_mono HO156.out (fun _ hk => ⟨hk.1.1, ⟨hk.2, hk.1.2⟩⟩)⟩, ⟨by (with_reducible repeat (first | apply Kd.R_alloc | apply Kd.R_drewN | apply Kd.R_drew)); exact Kd.R_mono HO159.out (fun _ hk => hk.1)⟩, ⟨zb BK153.out⟩, ⟨zB2 HB.out GE153.out⟩, HN7⟩
 case round =>
  clear H'; (try clear c1); (try clear c2); (try clear p2); (try clear c9); (try clear hcz8_0 hcz8_1 hfz8_0 hfz8_1); obtain ⟨x7_1, x20_1, rfl, HA, HK1, HO_7, HO_18, BK153, HB, HN7⟩ := hrel
  cases gk with
  | zero => exact absurd HA.out (by simp [impl_barRows.l0])
  | succ k1 =>
   have H := HA.out; clear HA
   simp only [impl_barRows.l0] at H
   by_cases c11 : x20_1 < (t157.length : Int)
   ·rw [if_pos c11] at H
    have c11b0 := decide_eq_true c11; clear c11
    by_cases c12 : 0 ≤ x20_1
    ·rw [if_pos c12] at H
     have c12b0 := decide_eq_true c12; clear c12
     by_cases c13 : x20_1 < (t157.length : Int)
     ·rw [if_pos c13] at H
      have c13b0 := decide_eq_true c13; clear c13; obtain ⟨y161, hy161⟩ : ∃ y_ : List (S147), y_ = (([] : List (S147))) := ⟨_, rfl⟩; replace H : (impl_barRows.l1 k1 l1 l2 x7_1 (rd t157 x20_1) y161 (([] : List (S147))) t157 (t157.length : Int) x20_1 l2 (l2.length : Int) 0 l0_0 l0_1) = some r := zh H; have Ny161 := zQ hy161; clear hy161; obtain ⟨y164, hy164⟩ : ∃ y_ : List (S147), y_ = (([] : List (S147))) := ⟨_, rfl⟩; replace H : (impl_barRows.l1 k1 l1 l2 x7_1 (rd t157 x20_1) y161 y164 t157 (t157.length : Int) x20_1 l2 (l2.length : Int) 0 l0_0 l0_1) = some r := zh H; have Ny164 := zQ hy164; clear hy164; have H' := zQ H; clear H; have p160 : 0 ≤ (x20_1 : Int) := zD; have q160 : x20_1 < (t157.length : Int) := zD; obtain ⟨ad160, e160, hx160_0⟩ := Kd.at_int (Kd.R_reads' HO_18.out).2.2 x20_1 p160 q160
      cases e160
      replace p160 := eq_true p160; replace q160 := eq_true q160
      go_wp2_with (first | ((with_reducible refine zd 24 ?_); refine Kd.R_lit k147 _ 147 ?hg (N := 24) ?hd (xs := ([] : List (S147))) (inner := []) (ok := fun _ => True) (okp := fun _ => True) ?hr ?hp (fun _ hk => hk) trivial (Below.refl _ _) (Nat.le_refl _) (by simp) ?_; (case hd => rfl); (case hg => rfl); (case hr => first | (go_simp; done) | (go_simp; rfl)); (case hp => exact (Reps.none _ _)); intro v162 w14 ho15 hb hg_ hnew_; clear hg_ hnew_; (first | rw [← Ny161.out] at ho15 | (simp only [Int.reduceToNat] at ho15; rw [← Ny161.out] at ho15)); have HO163 := zQ (Kd.R_lower (Kd.R_newM (M := fun k_ => (w.heap.size ≤ k_)) ho15 (below_size (zB2 HB.out GE153.out)) (fun k_ h_ => h_)) (below_size (zB2 HB.out GE153.out))); replace HO_7 := zQ (Kd.S_elder' (zS HO_7.out) (Kd.R_base ho15) hb); replace HO_18 := zRb HO_18.out hb; replace BK153 := zbl BK153.out hb; replace HB := zbs2 HB.out GE153.out hb; clear hb ho15) | ((with_reducible refine zd 25 ?_); refine Kd.R_lit k147 _ 147 ?hg (N := 25) ?hd (xs := ([] : List (S147))) (inner := []) (ok := fun _ => True) (okp := fun _ => True) ?hr ?hp (fun _ hk => hk) trivial (Below.refl _ _) (Nat.le_refl _) (by simp) ?_; (case hd => rfl); (case hg => rfl); (case hr => first | (go_simp; done) | (go_simp; rfl)); (case hp => exact (Reps.none _ _)); intro v165 w16 ho17 hb hg_ hnew_; clear hg_ hnew_; (first | rw [← Ny164.out] at ho17 | (simp only [Int.reduceToNat] at ho17; rw [← Ny164.out] at ho17)); have HO166 := zQ (Kd.R_lower (Kd.R_new' (Kd.R_newM (M := fun k_ => (w.heap.size ≤ k_)) ho17 (below_size (zB2 HB.out GE153.out)) (fun k_ h_ => h_)) (Kd.R_lt (zR HO163.out))) (below_size (zB2 HB.out GE153.out))); replace HO_7 := zQ (Kd.S_elder' (zS HO_7.out) (Kd.R_base ho17) hb); replace HO_18 := zRb HO_18.out hb; replace HO163 := zQ (Kd.R_elder' (zR HO163.out) (Kd.R_base ho17) hb); replace BK153 := zbl BK153.out hb; replace HB := zbs2 HB.out GE153.out hb; clear hb ho17))
      go_loopg [10, 11, 28] k1 (fun kq v10 v11 v28 w' => ∃ (x10_2 : List (S147)) (x11_2 : List (S147)) (x28_2 : Int), v28 = .int .i64 x28_2 ∧ Aside0 (impl_barRows.l1 kq l1 l2 x7_1 (rd t157 x20_1) x10_2 x11_2 t157 (t157.length : Int) x20_1 l2 (l2.length : Int) x28_2 l0_0 l0_1 = some r) ∧ Aside0 (kq ≤ k1) ∧ Aside0 (Kd.S (Kd.slice 147 k147) 145 w' w.heap.size (fun k_ => (w.heap.size ≤ k_) ∧ some k_ ≠ (v10 : Value).ownBlock ∧ some k_ ≠ (v11 : Value).ownBlock ∧ some k_ ≠ ((.slice (some ad160) t157.length co10) : Value).ownBlock ∧ k_ ≠ gb153) u7 x7_1) ∧ Aside0 (Kd.R k147 147 w' w.heap.size (fun k_ => (w.heap.size ≤ k_) ∧ some k_ ≠ (v11 : Value).ownBlock) v10 x10_2) ∧ Aside0 (Kd.R k147 147 w' w.heap.size (fun k_ => (w.heap.size ≤ k_) ∧ some k_ ≠ (v10 : Value).ownBlock) v11 x11_2) ∧ Aside0 (Kd.R (Kd.int .i64) 2 w' w.heap.size (fun k_ => (w.heap.size ≤ k_)) (.slice (some ad160) t157.length co10) t157) ∧ Aside0 (w'.heap[gb153]? = some (.cells #[(.slice A0_0 l0_0.length c0_0), (.slice A0_1 l0_1.length c0_1)] 27 (0, 0))) ∧ Aside0 (Below w.heap.size w w'))
      case atStart => exact ⟨(y161), (y164), (0), (zF), H', ⟨Nat.le_refl _⟩, ⟨by (with_reducible repeat (first | apply Kd.S_alloc | apply Kd.S_drewN | apply Kd.S_drew)); exact Kd.S_mono HO_7.out (fun _ hk => ⟨hk.1.1.1, ⟨hk.1.2, ⟨hk.2, ⟨hk.1.1.2.1, hk.1.1.2.2⟩⟩⟩⟩)⟩, ⟨by (with_reducible repeat (first | apply Kd.R_alloc | apply Kd.R_drewN | apply Kd.R_drew)); exact Kd.R_mono HO163.out (fun _ hk => ⟨hk.1.1, hk.2⟩)⟩, ⟨by (with_reducible repeat (first | apply Kd.R_alloc | apply Kd.R_drewN | apply Kd.R_drew)); exact Kd.R_mono HO166.out (fun _ hk => ⟨hk.1.1, hk.2⟩)⟩, ⟨zR HO_18.out⟩, ⟨zb BK153.out⟩, ⟨zB2 HB.out GE153.out⟩⟩
      case round =>
       clear H'; (try clear c1); (try clear p1); (try clear q1); (try clear hx1); (try clear c2); (try clear p2); (try clear c9); (try clear c11); (try clear c11b0); (try clear c12); (try clear c12b0); (try clear c13); (try clear c13b0); (try clear p16); (try clear q16); (try clear hx16); (try clear hcz8_0 hcz8_1 hfz8_0 hfz8_1); (try clear hx160_0); (try clear p160); (try clear p2); (try clear q160); obtain ⟨x10_2, x11_2, x28_2, rfl, HA, HK2, HO_7, HO_10, HO_11, HO_18, BK153, HB⟩ := hrel
       cases gk with
       | zero => exact absurd HA.out (by simp [impl_barRows.l1])
       | succ k2 =>
        have H := HA.out; clear HA
        simp only [impl_barRows.l1] at H
        by_cases c18 : x28_2 < (l2.length : Int)
        ·rw [if_pos c18] at H
         have c18b0 := decide_eq_true c18; clear c18
         by_cases c19 : 0 ≤ x28_2
         ·rw [if_pos c19] at H
          have c19b0 := decide_eq_true c19; clear c19
          by_cases c20 : x28_2 < (l2.length : Int)
          ·rw [if_pos c20] at H
           have c20b0 := decide_eq_true c20; clear c20
           by_cases c21 : 0 ≤ (rd l2 x28_2)
           ·rw [if_pos c21] at H
            have c21b0 := decide_eq_true c21; clear c21
            by_cases c22 : (rd l2 x28_2) < (l0_1.length : Int)
            ·rw [if_pos c22] at H
             have c22b0 := decide_eq_true c22; clear c22; replace H := zob H; obtain ⟨⟨t169, t170⟩, A23, H⟩ := H; replace H := zob H; obtain ⟨⟨t171, t172⟩, A24, H⟩ := H
             by_cases c25 : x10_2.length < 8796093022208
             ·rw [if_pos c25] at H
              have LMc25 := zQ c25; clear c25; obtain ⟨y173, hy173⟩ : ∃ y_ : List (S147), y_ = (x10_2 ++ [(⟨t171, t172⟩ : S147)]) := ⟨_, rfl⟩; replace H : ((impl_fraction.f k2 t170 1).bind fun bt176 => (if x11_2.length < 8796093022208 then (impl_barRows.l1 k2 l1 l2 x7_1 (rd t157 x20_1) y173 (x11_2 ++ [(⟨bt176.1, bt176.2⟩ : S147)]) t157 (t157.length : Int) x20_1 l2 (l2.length : Int) (wrap64 (x28_2 + 1)) l0_0 l0_1) else (none))) = some r := zh H; have Ny173 := zQ hy173; clear hy173; replace H := zob H; obtain ⟨⟨t176, t177⟩, A26, H⟩ := H
              by_cases c27 : x11_2.length < 8796093022208
              ·rw [if_pos c27] at H
               have LMc27 := zQ c27; clear c27; obtain ⟨y178, hy178⟩ : ∃ y_ : List (S147), y_ = (x11_2 ++ [(⟨t176, t177⟩ : S147)]) := ⟨_, rfl⟩; replace H : (impl_barRows.l1 k2 l1 l2 x7_1 (rd t157 x20_1) y173 y178 t157 (t157.length : Int) x20_1 l2 (l2.length : Int) (wrap64 (x28_2 + 1)) l0_0 l0_1) = some r := zh H; have Ny178 := zQ hy178; clear hy178; have H' := zQ H; clear H; have p167 : 0 ≤ (x28_2 : Int) := zD; have q167 : x28_2 < (l2.length : Int) := zD; obtain ⟨ad167, e167, hx167_0⟩ := Kd.at_int HR2.out x28_2 p167 q167
               cases e167
               replace hx167_0 := zw HB.out hx167_0; replace p167 := eq_true p167; replace q167 := eq_true q167
               try go_wp2
               have n0_ := zQ (Kd.S_drew HO_7.out); have n1_ := zQ (Kd.R_drew HO_10.out); have n2_ := zQ (Kd.R_drew HO_11.out); have n3_ := zQ (Kd.R_drew HO_18.out); have n4_ := zQ (blk_drew BK153.out); have n5_ := zQ (below_drew1 HB.out); clear HO_7; clear HO_10; clear HO_11; clear HO_18; clear BK153; clear HB; have HO_7 := n0_; have HO_10 := n1_; have HO_11 := n2_; have HO_18 := n3_; have BK153 := n4_; have HB := n5_; clear n0_ n1_ n2_ n3_ n4_ n5_; have p168 : 0 ≤ ((rd l2 x28_2) : Int) := zD; have q168 : (rd l2 x28_2) < (l0_1.length : Int) := zD; obtain ⟨ad168, e168, hx168_0, hx168_1, hx168_2⟩ := at_T115 HR0_1.out (rd l2 x28_2) p168 q168; have hw168_2 := hx168_2; have hw168_1 := hx168_1; have hw168_0 := hx168_0
               cases e168
               replace hx168_0 := zw HB.out hx168_0; replace hx168_1 := zw HB.out hx168_1; replace hx168_2 := zw HB.out hx168_2; replace p168 := eq_true p168; replace q168 := eq_true q168
               refine zs (fun w' => w'.cell? ⟨gb153, 0, none⟩ = some (.slice A0_0 l0_0.length c0_0) ∧ w'.cell? ⟨gb153, 1, none⟩ = some (.slice (some ad168) l0_1.length c0_1) ∧ w'.cell? (ad168.add (((rd l2 x28_2)).toNat * 3)) = some (.int .i64 ((rd_T115 l0_1 (rd l2 x28_2)).f0)) ∧ w'.cell? ⟨(ad168.add (((rd l2 x28_2)).toNat * 3)).block, (ad168.add (((rd l2 x28_2)).toNat * 3)).off + 1, none⟩ = some (.int .i64 ((rd_T115 l0_1 (rd l2 x28_2)).f1)) ∧ w'.cell? ⟨(ad168.add (((rd l2 x28_2)).toNat * 3)).block, (ad168.add (((rd l2 x28_2)).toNat * 3)).off + 2, none⟩ = some (.bool ((rd_T115 l0_1 (rd l2 x28_2)).f2))) [] 13 ⟨(blk_cell BK153.out 0).trans rfl, (blk_cell BK153.out 1).trans rfl, ((HB.out.cell (World.block_lt_of_cell? w _ hw168_0)).trans hw168_0), ((HB.out.cell (World.block_lt_of_cell? w _ hw168_1)).trans hw168_1), ((HB.out.cell (World.block_lt_of_cell? w _ hw168_2)).trans hw168_2)⟩ (fun hHeld => ?_); refine with_tabW impl_barRows.tab9 impl_barRows.bits9 (fun HT_ HW_ => ?_)
               generalize wr.drew = w28 at HO_7 HO_10 HO_11 HO_18 BK153 HB hx168_0 hx168_1 hx168_2 hHeld ⊢
               refine zp 1 34 ?_
               refine zp 3 36 ?_
               refine zp 6 39 ?_
               refine zt 0 33 hHeld ?_
               refine zt 2 35 hHeld ?_
               refine zp 4 37 ?_
               refine zt 5 38 hHeld ?_
               refine zo 7 (some 40) (fun K hK => ?_)
               refine goes_ Try.func94 (by kernel_rfl) rfl #[.agg #[.slice A0_0 l0_0.length c0_0, .slice (some ad168) l0_1.length c0_1], .agg #[.int .i64 ((rd_T115 l0_1 (rd l2 x28_2)).f0), .int .i64 ((rd_T115 l0_1 (rd l2 x28_2)).f1), .bool ((rd_T115 l0_1 (rd l2 x28_2)).f2)], .int .i64 (rd t157 x20_1)] (by rfl) rfl rfl zM ?_
               with_reducible refine (impl_pullOf.calls _ _ l0_0 _ _ l0_1 ((rd_T115 l0_1 (rd l2 x28_2)).f0) ((rd_T115 l0_1 (rd l2 x28_2)).f1) ((rd_T115 l0_1 (rd l2 x28_2)).f2) (rd t157 x20_1) t169 t170 _ ?side1 ?side2 ?side3 ?side4 A23.out).mono ?_
               (case side1 => exact zC HR0_0.out HB.out)
               (case side2 => exact HC0_0.out)
               (case side3 => exact zC HR0_1.out HB.out)
               (case side4 => exact HC0_1.out)
               rintro e w29 ⟨rfl, hb⟩
               refine ⟨_, rfl, ?_⟩
               have n0_ := zQ (Kd.S_below (zS HO_7.out) hb); have n1_ := zRb HO_10.out hb; have n2_ := zRb HO_11.out hb; have n3_ := zRb HO_18.out hb; have n4_ := zbl BK153.out hb; have n5_ := zbs2 HB.out GE153.out hb; clear HO_7; clear HO_10; clear HO_11; clear HO_18; clear BK153; clear HB; have HO_7 := n0_; have HO_10 := n1_; have HO_11 := n2_; have HO_18 := n3_; have BK153 := n4_; have HB := n5_; clear n0_ n1_ n2_ n3_ n4_ n5_
               (try clear hb)
               (try clear hb2)
               (try clear hk)
               (try clear hi)
               refine hK.out _ _ ⟨(blk_cell BK153.out 0).trans rfl, (blk_cell BK153.out 1).trans rfl, ((HB.out.cell (World.block_lt_of_cell? w _ hw168_0)).trans hw168_0), ((HB.out.cell (World.block_lt_of_cell? w _ hw168_1)).trans hw168_1), ((HB.out.cell (World.block_lt_of_cell? w _ hw168_2)).trans hw168_2)⟩ (fun hHeld => ?_)
               clear hK K
               refine zn 40 ?_
               refine zp 8 32 ?_
               refine zp 9 41 ?_
               refine zp 10 42 ?_
               refine zp 11 14 ?_
               refine zp 12 15 ?_
               refine done_ (done_of HT_.out (by kernel_rfl)) ?_
               try go_wp2_with (first | ((with_reducible refine zgc 136 ?_); refine zgo (some 45) Try.func136 #[.int .i64 t169, .int .i64 1] ?_; (with_reducible refine (impl_fraction.calls k2 t169 1 t171 t172 _ A24.out).mono ?_); rintro e w30 ⟨rfl, hb⟩; refine ⟨_, rfl, ?_⟩; replace HO_7 := zQ (Kd.S_below (zS HO_7.out) hb); replace HO_10 := zRb HO_10.out hb; replace HO_11 := zRb HO_11.out hb; replace HO_18 := zRb HO_18.out hb; replace BK153 := zbl BK153.out hb; replace HB := zbs2 HB.out GE153.out hb; (try clear hb)) | ((with_reducible refine gate_builtin (b := .append) (xs := #[.tmp 43, .tmp 46]) rfl ?_); at_builtin; refine Kd.R_append k147 (w0 := w) w.heap.size rfl (.tmp 43) (.tmp 46) 145 147 (.agg #[(.int .i64 0), (.int .i64 0)]) 16 rfl Try.underlying145 info147 rfl (by decide) (by omega) u10 x10_2 (⟨t171, t172⟩ : S147) [.int .i64 t171, .int .i64 t172] (fun k_ => (w.heap.size ≤ k_) ∧ some k_ ≠ (u11 : Value).ownBlock) (fun _ => False) rfl rfl ?aP (fun _ hk => hk.elim) ?aF ?aO ?aB ?aS ?aL ?_; (case aP => exact k147_mkM _ _ _ (⟨t171, t172⟩ : S147)); (case aB => exact (zB2 HB.out GE153.out)); (case aF => exact (fun k_ hk => ⟨(Nat.le_trans (below_size (zB2 HB.out GE153.out)) hk), Kd.fresh' (Kd.R_lt (zR HO_11.out)) k_ hk⟩)); (case aO => exact (zR HO_10.out)); (case aS => exact (below_size (zB2 HB.out GE153.out))); (case aL => have := LMc25.out; omega); intro v174 w31 ho hb hg hat; rw [← Ny173.out] at ho; have HO175 := zQ (ho); replace HO_7 := zQ (Kd.S_after (ok := (fun k_ => (w.heap.size ≤ k_) ∧ some k_ ≠ (u11 : Value).ownBlock ∧ some k_ ≠ (.slice (some ad160) t157.length co10 : Value).ownBlock ∧ k_ ≠ gb153)) (by (with_reducible repeat (first | apply Kd.S_alloc | apply Kd.S_drewN | apply Kd.S_drew)); exact Kd.S_mono HO_7.out (fun _ hk => ⟨⟨hk.1, ⟨hk.2.2.1, ⟨hk.2.2.2.1, hk.2.2.2.2⟩⟩⟩, hk.2.1⟩)) hg hat); replace HO_11 := zQ (Kd.R_after (ok := (fun k_ => (w.heap.size ≤ k_))) (zR HO_11.out) hg hat); replace HO_18 := zQ (Kd.R_over' (zR HO_18.out) (Kd.R_typed (zR HO_10.out)) (by decide) hg); replace BK153 := zQ (blk_grown (g := gb153) (o := .cells #[.slice A0_0 l0_0.length c0_0, .slice (some ad168) l0_1.length c0_1] 27 (0, 0)) (zb BK153.out) hg (Kd.R_ne HO_10.out BK153.out (by decide))); replace HB := zQ (hb); clear HO_10 ho hb hg hat) | ((with_reducible refine zgc 136 ?_); refine zgo (some 50) Try.func136 #[.int .i64 t170, .int .i64 1] ?_; (with_reducible refine (impl_fraction.calls k2 t170 1 t176 t177 _ A26.out).mono ?_); rintro e w32 ⟨rfl, hb⟩; refine ⟨_, rfl, ?_⟩; replace HO_7 := zQ (Kd.S_below (zS HO_7.out) hb); replace HO_11 := zRb HO_11.out hb; replace HO_18 := zRb HO_18.out hb; replace HO175 := zRb HO175.out hb; replace BK153 := zbl BK153.out hb; replace HB := zbs2 HB.out GE153.out hb; (try clear hb)) | ((with_reducible refine gate_builtin (b := .append) (xs := #[.tmp 48, .tmp 51]) rfl ?_); at_builtin; refine Kd.R_append k147 (w0 := w) w.heap.size rfl (.tmp 48) (.tmp 51) 145 147 (.agg #[(.int .i64 0), (.int .i64 0)]) 16 rfl Try.underlying145 info147 rfl (by decide) (by omega) u11 x11_2 (⟨t176, t177⟩ : S147) [.int .i64 t176, .int .i64 t177] (fun k_ => (w.heap.size ≤ k_) ∧ some k_ ≠ (v174 : Value).ownBlock) (fun _ => False) rfl rfl ?aP (fun _ hk => hk.elim) ?aF ?aO ?aB ?aS ?aL ?_; (case aP => exact k147_mkM _ _ _ (⟨t176, t177⟩ : S147)); (case aB => exact (zB2 HB.out GE153.out)); (case aF => exact (fun k_ hk => ⟨(Nat.le_trans (below_size (zB2 HB.out GE153.out)) hk), Kd.fresh' (Kd.R_lt (zR HO175.out)) k_ hk⟩)); (case aO => exact (zR HO_11.out)); (case aS => exact (below_size (zB2 HB.out GE153.out))); (case aL => have := LMc27.out; omega); intro v179 w33 ho hb hg hat; rw [← Ny178.out] at ho; have HO180 := zQ (ho); replace HO_7 := zQ (Kd.S_after (ok := (fun k_ => (w.heap.size ≤ k_) ∧ some k_ ≠ (.slice (some ad160) t157.length co10 : Value).ownBlock ∧ some k_ ≠ (v174 : Value).ownBlock ∧ k_ ≠ gb153)) (by (with_reducible repeat (first | apply Kd.S_alloc | apply Kd.S_drewN | apply Kd.S_drew)); exact Kd.S_mono HO_7.out (fun _ hk => ⟨⟨hk.1.1, ⟨hk.1.2.2.1, ⟨hk.2, hk.1.2.2.2⟩⟩⟩, hk.1.2.1⟩)) hg hat); replace HO_18 := zQ (Kd.R_over' (zR HO_18.out) (Kd.R_typed (zR HO_11.out)) (by decide) hg); replace BK153 := zQ (blk_grown (g := gb153) (o := .cells #[.slice A0_0 l0_0.length c0_0, .slice (some ad168) l0_1.length c0_1] 27 (0, 0)) (zb BK153.out) hg (Kd.R_ne HO_11.out BK153.out (by decide))); replace HO175 := zQ (Kd.R_after (ok := (fun k_ => (w.heap.size ≤ k_))) (zR HO175.out) hg hat); replace HB := zQ (hb); clear HO_11 ho hb hg hat))
               go_roundg k2
               case measure => have := HK1.out; have := HK2.out; omega
               case rel => exact ⟨(y173), (y178), (wrap64 (x28_2 + 1)), (zF), H', ⟨by have := HK1.out; have := HK2.out; omega⟩, ⟨by (with_reducible repeat (first | apply Kd.S_alloc | apply Kd.S_drewN | apply Kd.S_drew)); exact Kd.S_mono HO_7.out (fun _ hk => ⟨hk.1.1, ⟨hk.1.2.2.1, ⟨hk.2, ⟨hk.1.2.1, hk.1.2.2.2⟩⟩⟩⟩)⟩, ⟨zR HO175.out⟩, ⟨zR HO180.out⟩, ⟨zR HO_18.out⟩, ⟨zb BK153.out⟩, ⟨zB2 HB.out GE153.out⟩⟩
              ·rw [if_neg c27] at H
               exact absurd H (by simp)
             ·rw [if_neg c25] at H
              exact absurd H (by simp)
            ·rw [if_neg c22] at H
             exact absurd H (by simp)
           ·rw [if_neg c21] at H
            exact absurd H (by simp)
          ·rw [if_neg c20] at H
           exact absurd H (by simp)
         ·rw [if_neg c19] at H
          exact absurd H (by simp)
        ·rw [if_neg c18] at H
         have c18b0 := decide_eq_false c18; clear c18
         by_cases c34 : 0 ≤ (rd t157 x20_1)
         ·rw [if_pos c34] at H
          have c34b0 := decide_eq_true c34; clear c34
          by_cases c35 : (rd t157 x20_1) < (l1.length : Int)
          ·rw [if_pos c35] at H
           have c35b0 := decide_eq_true c35; clear c35; replace H := zob H; obtain ⟨⟨t182, t183⟩, A36, H⟩ := H
           by_cases c37 : x10_2.length < 8796093022208
           ·rw [if_pos c37] at H
            have LMc37 := zQ c37; clear c37; obtain ⟨y184, hy184⟩ : ∃ y_ : List (S147), y_ = (x10_2 ++ [(⟨t182, t183⟩ : S147)]) := ⟨_, rfl⟩; replace H : ((impl_fraction.f k2 (wrap64 (-((rd_T113 l1 (rd t157 x20_1)).f1))) 1).bind fun bt188 => (if x11_2.length < 8796093022208 then ((some (([y184, (x11_2 ++ [(⟨bt188.1, bt188.2⟩ : S147)])] : List (List (S147))) : List (List (S147)))).bind fun y193 => (if x7_1.length + y193.length < 5864062014805 then (impl_barRows.l0 k2 l1 l2 (x7_1 ++ y193) t157 (t157.length : Int) (wrap64 (x20_1 + 1)) l0_0 l0_1) else (none))) else (none))) = some r := zh H; have Ny184 := zQ hy184; clear hy184; replace H := zob H; obtain ⟨⟨t188, t189⟩, A38, H⟩ := H
            by_cases c39 : x11_2.length < 8796093022208
            ·rw [if_pos c39] at H
             have LMc39 := zQ c39; clear c39; obtain ⟨y190, hy190⟩ : ∃ y_ : List (S147), y_ = (x11_2 ++ [(⟨t188, t189⟩ : S147)]) := ⟨_, rfl⟩; replace H : ((some (([y184, y190] : List (List (S147))) : List (List (S147)))).bind fun y193 => (if x7_1.length + y193.length < 5864062014805 then (impl_barRows.l0 k2 l1 l2 (x7_1 ++ y193) t157 (t157.length : Int) (wrap64 (x20_1 + 1)) l0_0 l0_1) else (none))) = some r := zh H; have Ny190 := zQ hy190; clear hy190; obtain ⟨y193, hy193⟩ : ∃ y_ : List (List (S147)), y_ = (([y184, y190] : List (List (S147)))) := ⟨_, rfl⟩; replace H : (if x7_1.length + y193.length < 5864062014805 then (impl_barRows.l0 k2 l1 l2 (x7_1 ++ y193) t157 (t157.length : Int) (wrap64 (x20_1 + 1)) l0_0 l0_1) else (none)) = some r := zh H; have Ny193 := zQ hy193; clear hy193
             by_cases c40 : x7_1.length + y193.length < 5864062014805
             ·rw [if_pos c40] at H
              have LMc40 := zQ c40; clear c40; obtain ⟨y196, hy196⟩ : ∃ y_ : List (List (S147)), y_ = (x7_1 ++ y193) := ⟨_, rfl⟩; replace H : (impl_barRows.l0 k2 l1 l2 y196 t157 (t157.length : Int) (wrap64 (x20_1 + 1)) l0_0 l0_1) = some r := zh H; have Ny196 := zQ hy196; clear hy196; have H' := zQ H; clear H
              try go_wp2
              have n0_ := zQ (Kd.S_drew HO_7.out); have n1_ := zQ (Kd.R_drew HO_10.out); have n2_ := zQ (Kd.R_drew HO_11.out); have n3_ := zQ (Kd.R_drew HO_18.out); have n4_ := zQ (blk_drew BK153.out); have n5_ := zQ (below_drew1 HB.out); clear HO_7; clear HO_10; clear HO_11; clear HO_18; clear BK153; clear HB; have HO_7 := n0_; have HO_10 := n1_; have HO_11 := n2_; have HO_18 := n3_; have BK153 := n4_; have HB := n5_; clear n0_ n1_ n2_ n3_ n4_ n5_; have p181 : 0 ≤ ((rd t157 x20_1) : Int) := zD; have q181 : (rd t157 x20_1) < (l1.length : Int) := zD; obtain ⟨ad181, e181, hx181_0, hx181_1⟩ := at_T113 HR1.out (rd t157 x20_1) p181 q181; have hw181_1 := hx181_1; have hw181_0 := hx181_0
              cases e181
              replace hx181_0 := zw HB.out hx181_0; replace hx181_1 := zw HB.out hx181_1; replace p181 := eq_true p181; replace q181 := eq_true q181; have p187 : 0 ≤ ((rd t157 x20_1) : Int) := zD; have q187 : (rd t157 x20_1) < (l1.length : Int) := zD; obtain ⟨ad187, e187, hx187_0, hx187_1⟩ := at_T113 HR1.out (rd t157 x20_1) p187 q187; have hw187_1 := hx187_1; have hw187_0 := hx187_0; obtain rfl : ad181 = ad187 := (by injection e187); replace hx187_0 := zw HB.out hx187_0; replace hx187_1 := zw HB.out hx187_1; replace p187 := eq_true p187; replace q187 := eq_true q187
              refine zs (fun w' => w'.cell? (ad181.add (((rd t157 x20_1)).toNat * 2)) = some (.int .i64 ((rd_T113 l1 (rd t157 x20_1)).f0)) ∧ w'.cell? ⟨(ad181.add (((rd t157 x20_1)).toNat * 2)).block, (ad181.add (((rd t157 x20_1)).toNat * 2)).off + 1, none⟩ = some (.int .i64 ((rd_T113 l1 (rd t157 x20_1)).f1)) ∧ w'.cell? (ad181.add (((rd t157 x20_1)).toNat * 2)) = some (.int .i64 ((rd_T113 l1 (rd t157 x20_1)).f0)) ∧ w'.cell? ⟨(ad181.add (((rd t157 x20_1)).toNat * 2)).block, (ad181.add (((rd t157 x20_1)).toNat * 2)).off + 1, none⟩ = some (.int .i64 ((rd_T113 l1 (rd t157 x20_1)).f1))) [] 24 ⟨((HB.out.cell (World.block_lt_of_cell? w _ hw181_0)).trans hw181_0), ((HB.out.cell (World.block_lt_of_cell? w _ hw181_1)).trans hw181_1), ((HB.out.cell (World.block_lt_of_cell? w _ hw187_0)).trans hw187_0), ((HB.out.cell (World.block_lt_of_cell? w _ hw187_1)).trans hw187_1)⟩ (fun hHeld => ?_); refine with_tabW impl_barRows.tab13 impl_barRows.bits13 (fun HT_ HW_ => ?_)
              generalize wr.drew = w41 at HO_7 HO_10 HO_11 HO_18 BK153 HB hx181_0 hx181_1 hx187_0 hx187_1 hHeld ⊢
              refine zp 0 54 ?_
              refine zp 1 55 ?_
              refine zp 2 56 ?_
              refine zp 3 57 ?_
              refine zp 4 58 ?_
              refine zp 5 59 ?_
              refine zp 11 65 ?_
              refine zp 12 66 ?_
              refine zp 13 67 ?_
              refine zp 14 68 ?_
              refine zp 15 69 ?_
              refine zt 6 60 hHeld ?_
              refine zp 7 61 ?_
              refine zt 16 70 hHeld ?_
              refine zp 17 71 ?_
              refine zo 8 (some 62) (fun K hK => ?_)
              refine goes_ Try.func136 (by kernel_rfl) rfl #[.int .i64 (wrap64 (-((rd_T113 l1 (rd t157 x20_1)).f0))), .int .i64 1] (by rfl) rfl rfl zM ?_
              with_reducible refine (impl_fraction.calls k2 (wrap64 (-((rd_T113 l1 (rd t157 x20_1)).f0))) 1 t182 t183 _ A36.out).mono ?_
              rintro e w42 ⟨rfl, hb⟩
              refine ⟨_, rfl, ?_⟩
              have n0_ := zQ (Kd.S_below (zS HO_7.out) hb); have n1_ := zRb HO_10.out hb; have n2_ := zRb HO_11.out hb; have n3_ := zRb HO_18.out hb; have n4_ := zbl BK153.out hb; have n5_ := zbs2 HB.out GE153.out hb; clear HO_7; clear HO_10; clear HO_11; clear HO_18; clear BK153; clear HB; have HO_7 := n0_; have HO_10 := n1_; have HO_11 := n2_; have HO_18 := n3_; have BK153 := n4_; have HB := n5_; clear n0_ n1_ n2_ n3_ n4_ n5_
              (try clear hb)
              (try clear hb2)
              (try clear hk)
              (try clear hi)
              refine hK.out _ _ ⟨((HB.out.cell (World.block_lt_of_cell? w _ hw181_0)).trans hw181_0), ((HB.out.cell (World.block_lt_of_cell? w _ hw181_1)).trans hw181_1), ((HB.out.cell (World.block_lt_of_cell? w _ hw187_0)).trans hw187_0), ((HB.out.cell (World.block_lt_of_cell? w _ hw187_1)).trans hw187_1)⟩ (fun hHeld => ?_)
              clear hK K
              refine zn 62 ?_
              refine zo 9 (some 63) (fun K hK => ?_)
              refine value_ (w1 := ?_) (v := ?_) (by rfl) rfl ?_ ?_
              rotate_left 2
              ·go_simp
               constructor
               ·rfl
               ·rfl
              refine hK.out _ _ ⟨(World.cell?_alloc_lt _ _ _ (World.block_lt_of_cell? _ _ (((HB.out.cell (World.block_lt_of_cell? w _ hw181_0)).trans hw181_0)))).trans (((HB.out.cell (World.block_lt_of_cell? w _ hw181_0)).trans hw181_0)), (World.cell?_alloc_lt _ _ _ (World.block_lt_of_cell? _ _ (((HB.out.cell (World.block_lt_of_cell? w _ hw181_1)).trans hw181_1)))).trans (((HB.out.cell (World.block_lt_of_cell? w _ hw181_1)).trans hw181_1)), (World.cell?_alloc_lt _ _ _ (World.block_lt_of_cell? _ _ (((HB.out.cell (World.block_lt_of_cell? w _ hw187_0)).trans hw187_0)))).trans (((HB.out.cell (World.block_lt_of_cell? w _ hw187_0)).trans hw187_0)), (World.cell?_alloc_lt _ _ _ (World.block_lt_of_cell? _ _ (((HB.out.cell (World.block_lt_of_cell? w _ hw187_1)).trans hw187_1)))).trans (((HB.out.cell (World.block_lt_of_cell? w _ hw187_1)).trans hw187_1))⟩ (fun hHeld => ?_)
              clear hK K
              refine zn 63 ?_
              refine zo 10 (some 64) (fun K hK => ?_)
              refine Kd.R_append_step k147 (w0 := w) w.heap.size (by rfl) (.tmp 55) (.tmp 63) 145 147 (.agg #[(.int .i64 0), (.int .i64 0)]) 16 rfl Try.underlying145 info147 rfl (by decide) (by omega) u10 x10_2 (⟨t182, t183⟩ : S147) [.int .i64 t182, .int .i64 t183] (fun k_ => (w.heap.size ≤ k_) ∧ some k_ ≠ (u11 : Value).ownBlock) (fun _ => False) rfl rfl ?aP (fun _ hk => hk.elim) ?aF ?aO ?aB ?aS ?aL ?_
              (case aP => exact k147_mkM _ _ _ (⟨t182, t183⟩ : S147))
              (case aB => exact (zB2 HB.out GE153.out))
              (case aF => exact (fun k_ hk => ⟨(Nat.le_trans (below_size (zB2 HB.out GE153.out)) hk), Kd.fresh' (Kd.R_lt (zR HO_11.out)) k_ hk⟩))
              (case aO => exact (zR HO_10.out))
              (case aS => exact (below_size (zB2 HB.out GE153.out)))
              (case aL => have := LMc37.out; omega)
              intro v185 w43 ho hb hg hat
              rw [← Ny184.out] at ho; have n0_ := zQ (Kd.S_after (ok := (fun k_ => (w.heap.size ≤ k_) ∧ some k_ ≠ (u11 : Value).ownBlock ∧ some k_ ≠ (.slice (some ad160) t157.length co10 : Value).ownBlock ∧ k_ ≠ gb153)) (by (with_reducible repeat (first | apply Kd.S_alloc | apply Kd.S_drewN | apply Kd.S_drew)); exact Kd.S_mono HO_7.out (fun _ hk => ⟨⟨hk.1, ⟨hk.2.2.1, ⟨hk.2.2.2.1, hk.2.2.2.2⟩⟩⟩, hk.2.1⟩)) hg hat); have n1_ := zQ (Kd.R_after (ok := (fun k_ => (w.heap.size ≤ k_))) (zR HO_11.out) hg hat); have n2_ := zQ (Kd.R_over' (zR HO_18.out) (Kd.R_typed (zR HO_10.out)) (by decide) hg); have n3_ := zQ (blk_grown (g := gb153) (o := .cells #[.slice A0_0 l0_0.length c0_0, .slice A0_1 l0_1.length c0_1] 27 (0, 0)) (zb BK153.out) hg (Kd.R_ne HO_10.out BK153.out (by decide))); have n4_ := zQ (hb); have n5_ := zQ (ho); clear HO_7; clear HO_11; clear HO_18; clear BK153; clear HB; clear HO_10; have HO_7 := n0_; have HO_11 := n1_; have HO_18 := n2_; have BK153 := n3_; have HB := n4_; have HO186 := n5_; clear n0_ n1_ n2_ n3_ n4_ n5_; clear ho hb hg hat
              refine hK.out _ _ ⟨((HB.out.cell (World.block_lt_of_cell? w _ hw181_0)).trans hw181_0), ((HB.out.cell (World.block_lt_of_cell? w _ hw181_1)).trans hw181_1), ((HB.out.cell (World.block_lt_of_cell? w _ hw187_0)).trans hw187_0), ((HB.out.cell (World.block_lt_of_cell? w _ hw187_1)).trans hw187_1)⟩ (fun hHeld => ?_)
              clear hK K
              refine zn 64 ?_
              refine zo 18 (some 72) (fun K hK => ?_)
              refine goes_ Try.func136 (by kernel_rfl) rfl #[.int .i64 (wrap64 (-((rd_T113 l1 (rd t157 x20_1)).f1))), .int .i64 1] (by rfl) rfl rfl zM ?_
              with_reducible refine (impl_fraction.calls k2 (wrap64 (-((rd_T113 l1 (rd t157 x20_1)).f1))) 1 t188 t189 _ A38.out).mono ?_
              rintro e w44 ⟨rfl, hb⟩
              refine ⟨_, rfl, ?_⟩
              have n0_ := zQ (Kd.S_below (zS HO_7.out) hb); have n1_ := zRb HO_11.out hb; have n2_ := zRb HO_18.out hb; have n3_ := zRb HO186.out hb; have n4_ := zbl BK153.out hb; have n5_ := zbs2 HB.out GE153.out hb; clear HO_7; clear HO_11; clear HO_18; clear HO186; clear BK153; clear HB; have HO_7 := n0_; have HO_11 := n1_; have HO_18 := n2_; have HO186 := n3_; have BK153 := n4_; have HB := n5_; clear n0_ n1_ n2_ n3_ n4_ n5_
              (try clear hb)
              (try clear hb2)
              (try clear hk)
              (try clear hi)
              refine hK.out _ _ ⟨((HB.out.cell (World.block_lt_of_cell? w _ hw181_0)).trans hw181_0), ((HB.out.cell (World.block_lt_of_cell? w _ hw181_1)).trans hw181_1), ((HB.out.cell (World.block_lt_of_cell? w _ hw187_0)).trans hw187_0), ((HB.out.cell (World.block_lt_of_cell? w _ hw187_1)).trans hw187_1)⟩ (fun hHeld => ?_)
              clear hK K
              refine zn 72 ?_
              refine zo 19 (some 73) (fun K hK => ?_)
              refine value_ (w1 := ?_) (v := ?_) (by rfl) rfl ?_ ?_
              rotate_left 2
              ·go_simp
               constructor
               ·rfl
               ·rfl
              refine hK.out _ _ ⟨(World.cell?_alloc_lt _ _ _ (World.block_lt_of_cell? _ _ (((HB.out.cell (World.block_lt_of_cell? w _ hw181_0)).trans hw181_0)))).trans (((HB.out.cell (World.block_lt_of_cell? w _ hw181_0)).trans hw181_0)), (World.cell?_alloc_lt _ _ _ (World.block_lt_of_cell? _ _ (((HB.out.cell (World.block_lt_of_cell? w _ hw181_1)).trans hw181_1)))).trans (((HB.out.cell (World.block_lt_of_cell? w _ hw181_1)).trans hw181_1)), (World.cell?_alloc_lt _ _ _ (World.block_lt_of_cell? _ _ (((HB.out.cell (World.block_lt_of_cell? w _ hw187_0)).trans hw187_0)))).trans (((HB.out.cell (World.block_lt_of_cell? w _ hw187_0)).trans hw187_0)), (World.cell?_alloc_lt _ _ _ (World.block_lt_of_cell? _ _ (((HB.out.cell (World.block_lt_of_cell? w _ hw187_1)).trans hw187_1)))).trans (((HB.out.cell (World.block_lt_of_cell? w _ hw187_1)).trans hw187_1))⟩ (fun hHeld => ?_)
              clear hK K
              refine zn 73 ?_
              refine zo 20 (some 74) (fun K hK => ?_)
              refine Kd.R_append_step k147 (w0 := w) w.heap.size (by rfl) (.tmp 65) (.tmp 73) 145 147 (.agg #[(.int .i64 0), (.int .i64 0)]) 16 rfl Try.underlying145 info147 rfl (by decide) (by omega) u11 x11_2 (⟨t188, t189⟩ : S147) [.int .i64 t188, .int .i64 t189] (fun k_ => (w.heap.size ≤ k_) ∧ some k_ ≠ (v185 : Value).ownBlock) (fun _ => False) rfl rfl ?aP (fun _ hk => hk.elim) ?aF ?aO ?aB ?aS ?aL ?_
              (case aP => exact k147_mkM _ _ _ (⟨t188, t189⟩ : S147))
              (case aB => exact (zB2 HB.out GE153.out))
              (case aF => exact (fun k_ hk => ⟨(Nat.le_trans (below_size (zB2 HB.out GE153.out)) hk), Kd.fresh' (Kd.R_lt (zR HO186.out)) k_ hk⟩))
              (case aO => exact (zR HO_11.out))
              (case aS => exact (below_size (zB2 HB.out GE153.out)))
              (case aL => have := LMc39.out; omega)
              intro v191 w45 ho hb hg hat
              rw [← Ny190.out] at ho; have n0_ := zQ (Kd.S_after (ok := (fun k_ => (w.heap.size ≤ k_) ∧ some k_ ≠ (.slice (some ad160) t157.length co10 : Value).ownBlock ∧ some k_ ≠ (v185 : Value).ownBlock ∧ k_ ≠ gb153)) (by (with_reducible repeat (first | apply Kd.S_alloc | apply Kd.S_drewN | apply Kd.S_drew)); exact Kd.S_mono HO_7.out (fun _ hk => ⟨⟨hk.1.1, ⟨hk.1.2.2.1, ⟨hk.2, hk.1.2.2.2⟩⟩⟩, hk.1.2.1⟩)) hg hat); have n1_ := zQ (Kd.R_over' (zR HO_18.out) (Kd.R_typed (zR HO_11.out)) (by decide) hg); have n2_ := zQ (blk_grown (g := gb153) (o := .cells #[.slice A0_0 l0_0.length c0_0, .slice A0_1 l0_1.length c0_1] 27 (0, 0)) (zb BK153.out) hg (Kd.R_ne HO_11.out BK153.out (by decide))); have n3_ := zQ (Kd.R_after (ok := (fun k_ => (w.heap.size ≤ k_))) (zR HO186.out) hg hat); have n4_ := zQ (hb); have n5_ := zQ (ho); clear HO_7; clear HO_18; clear BK153; clear HO186; clear HB; clear HO_11; have HO_7 := n0_; have HO_18 := n1_; have BK153 := n2_; have HO186 := n3_; have HB := n4_; have HO192 := n5_; clear n0_ n1_ n2_ n3_ n4_ n5_; clear ho hb hg hat; obtain ⟨Ao46, co46, eo46⟩ := Kd.R_slice HO186.out
              (first | subst eo46 | (injection eo46 with f1_ f2_ f3_; have f4_ := f1_.symm; have f5_ := f3_.symm; clear f1_ f2_ f3_; subst f4_; subst f5_))
              obtain ⟨Ao47, co47, eo47⟩ := Kd.R_slice HO192.out
              (first | subst eo47 | (injection eo47 with f1_ f2_ f3_; have f4_ := f1_.symm; have f5_ := f3_.symm; clear f1_ f2_ f3_; subst f4_; subst f5_))
              refine hK.out _ _ ⟨((HB.out.cell (World.block_lt_of_cell? w _ hw181_0)).trans hw181_0), ((HB.out.cell (World.block_lt_of_cell? w _ hw181_1)).trans hw181_1), ((HB.out.cell (World.block_lt_of_cell? w _ hw187_0)).trans hw187_0), ((HB.out.cell (World.block_lt_of_cell? w _ hw187_1)).trans hw187_1)⟩ (fun hHeld => ?_)
              clear hK K
              refine zn 74 ?_
              refine zo 21 (some 75) (fun K hK => ?_)
              have hX_ := R_one147 HO186.out; have hY_ := R_one147 HO192.out
              have pX_ : ∀ k_, some k_ = (Value.slice Ao46 y184.length co46).ownBlock → (fun k_ => (w.heap.size ≤ k_) ∧ some k_ ≠ (u7 : Value).ownBlock ∧ some k_ ≠ (.slice (some ad160) t157.length co10 : Value).ownBlock ∧ k_ ≠ gb153) k_ := fun k_ hk_ => (Kd.R_mono (ok' := (fun k_ => (w.heap.size ≤ k_) ∧ some k_ ≠ (u7 : Value).ownBlock ∧ some k_ ≠ (.slice (some ad160) t157.length co10 : Value).ownBlock ∧ k_ ≠ gb153)) (Kd.R_types (Kd.R_apart' (Kd.R_apart' (HO186.out) (Kd.S_typed HO_7.out) (by decide)) (Kd.R_typed HO_18.out) (by decide)) BK153.out (by decide)) (fun k_ hk => ⟨hk.1.1.1.1, ⟨hk.1.1.2, ⟨hk.1.2, hk.2⟩⟩⟩)).1 k_ hk_.symm
              have pY_ : ∀ k_, some k_ = (Value.slice Ao47 y190.length co47).ownBlock → (fun k_ => (w.heap.size ≤ k_) ∧ some k_ ≠ (u7 : Value).ownBlock ∧ some k_ ≠ (.slice (some ad160) t157.length co10 : Value).ownBlock ∧ k_ ≠ gb153) k_ := fun k_ hk_ => (Kd.R_mono (ok' := (fun k_ => (w.heap.size ≤ k_) ∧ some k_ ≠ (u7 : Value).ownBlock ∧ some k_ ≠ (.slice (some ad160) t157.length co10 : Value).ownBlock ∧ k_ ≠ gb153)) (Kd.R_types (Kd.R_apart' (Kd.R_apart' (HO192.out) (Kd.S_typed HO_7.out) (by decide)) (Kd.R_typed HO_18.out) (by decide)) BK153.out (by decide)) (fun k_ hk => ⟨hk.1.1.1.1, ⟨hk.1.1.2, ⟨hk.1.2, hk.2⟩⟩⟩)).1 k_ hk_.symm
              have nXY_ : ∀ k_, some k_ = (Value.slice Ao47 y190.length co47).ownBlock → some k_ ≠ (Value.slice Ao46 y184.length co46).ownBlock := fun k_ hk_ => by first | exact (HO192.out.1 k_ hk_.symm).2 | exact fun e_ => (HO186.out.1 k_ e_.symm).2 hk_
              have fr_ : ∀ k_, w45.heap.size ≤ k_ → (fun k_ => (w.heap.size ≤ k_) ∧ some k_ ≠ (u7 : Value).ownBlock ∧ some k_ ≠ (.slice (some ad160) t157.length co10 : Value).ownBlock ∧ k_ ≠ gb153) k_ := fun k_ hk => ⟨(Nat.le_trans (below_size (zB2 HB.out GE153.out)) hk), Kd.fresh' (Kd.S_lt (zS HO_7.out)) k_ hk, Kd.fresh' (Kd.R_lt (zR HO_18.out)) k_ hk, Kd.freshB (g := gb153) (o := .cells #[.slice A0_0 l0_0.length c0_0, .slice A0_1 l0_1.length c0_1] 27 (0, 0)) (zb BK153.out) k_ hk⟩
              have pL_ := zQ (show ∀ k_, (fun k_ => (some k_ = (Value.slice Ao46 y184.length co46).ownBlock ∨ some k_ = (Value.slice Ao47 y190.length co47).ownBlock) ∨ w45.heap.size ≤ k_) k_ → (fun k_ => (w.heap.size ≤ k_) ∧ some k_ ≠ (u7 : Value).ownBlock ∧ some k_ ≠ (.slice (some ad160) t157.length co10 : Value).ownBlock ∧ k_ ≠ gb153) k_ from fun k_ hk_ => hk_.elim (fun h_ => h_.elim (pX_ k_) (pY_ k_)) (fr_ k_))
              refine Kd.S_lits_step (Kd.slice 147 k147) (w0 := w) w.heap.size 145 (by rfl) (N := 75) ?hd (xs := ([y184, y190] : List (List (S147)))) (inner := [.slice Ao46 y184.length co46, .slice Ao47 y190.length co47]) (ok := (fun k_ => (some k_ = (Value.slice Ao46 y184.length co46).ownBlock ∨ some k_ = (Value.slice Ao47 y190.length co47).ownBlock) ∨ w45.heap.size ≤ k_)) (fun j_ k_ => (j_ = 0 ∧ some k_ = (Value.slice Ao46 y184.length co46).ownBlock) ∨ (j_ = 1 ∧ some k_ = (Value.slice Ao47 y190.length co47).ownBlock)) ?hr (by rfl) ?hp ?hap ?hok ?hfr ?hB ?hS (by simp) ?_; (case hd => rfl); (case hr => first | (go_simp; done) | (go_simp; rfl)); (case hB => exact (zB2 HB.out GE153.out)); (case hS => exact below_size (zB2 HB.out GE153.out)); (case hfr => exact Or.inr (Nat.le_refl _)); (case hok => exact fun j_ k_ hk_ => Or.inl (hk_.elim (fun h_ => Or.inl h_.2) (fun h_ => Or.inr h_.2))); (case hap => exact fun i_ j_ k_ h1_ h2_ => by rcases h1_ with h1_ | h1_ <;> rcases h2_ with h2_ | h2_ <;> first | omega | exact absurd h1_.2 (nXY_ k_ h2_.2) | exact absurd h2_.2 (nXY_ k_ h1_.2))
              case hp =>
               intro j_ x_ hx_
               match j_, hx_ with
               | 0, hx_ =>
                obtain rfl : y184 = x_ := Option.some.inj hx_
                exact ⟨_, rfl, Kd.R_mono hX_ (fun _ hk_ => Or.inl ⟨rfl, hk_⟩)⟩
               | 1, hx_ =>
                obtain rfl : y190 = x_ := Option.some.inj hx_
                exact ⟨_, rfl, Kd.R_mono hY_ (fun _ hk_ => Or.inr ⟨rfl, hk_⟩)⟩
               | j_ + 2, hx_ => exact absurd hx_ (by simp)
              intro v194 w48 ho49 hb0_ hg_ hnew_
              have hb := pw_below_grown (Below.refl w45.heap.size w45) none (Nat.le_refl _) hg_ (by simp); clear hg_ hnew_ hb0_
              (first | rw [← Ny193.out] at ho49 | (simp only [Int.reduceToNat] at ho49; rw [← Ny193.out] at ho49))
              have n0_ := zQ (Kd.S_old (Kd.S_mono (ok' := fun k_ => ((w.heap.size ≤ k_) ∧ some k_ ≠ (.slice (some ad160) t157.length co10 : Value).ownBlock ∧ k_ ≠ gb153) ∧ (some k_ ≠ (Value.slice Ao46 y184.length co46).ownBlock ∧ some k_ ≠ (Value.slice Ao47 y190.length co47).ownBlock)) HO_7.out (fun k_ hk => ⟨⟨hk.1.1, ⟨hk.1.2.1, hk.1.2.2.2⟩⟩, ⟨hk.1.2.2.1, hk.2⟩⟩)) hb); have n1_ := zRb HO_18.out hb; have n2_ := zQ ho49; have n3_ := zbl BK153.out hb; have n4_ := zbs2 HB.out GE153.out hb; clear HO_7; clear HO_18; clear BK153; clear HB; clear HO186; clear HO192; have HO_7 := n0_; have HO_18 := n1_; have HO195 := n2_; have BK153 := n3_; have HB := n4_; clear n0_ n1_ n2_ n3_ n4_; clear hb ho49; obtain ⟨Ao51, co51, eo51⟩ := Kd.S_slice HO195.out
              (first | subst eo51 | (injection eo51 with f1_ f2_ f3_; have f4_ := f1_.symm; have f5_ := f3_.symm; clear f1_ f2_ f3_; subst f4_; subst f5_))
              refine hK.out _ _ ⟨((HB.out.cell (World.block_lt_of_cell? w _ hw181_0)).trans hw181_0), ((HB.out.cell (World.block_lt_of_cell? w _ hw181_1)).trans hw181_1), ((HB.out.cell (World.block_lt_of_cell? w _ hw187_0)).trans hw187_0), ((HB.out.cell (World.block_lt_of_cell? w _ hw187_1)).trans hw187_1)⟩ (fun hHeld => ?_)
              clear hK K
              refine zn 75 ?_
              refine zo 22 (some 76) (fun K hK => ?_)
              refine S_append_rows_step (Kd.slice 147 k147) (w0 := w) w.heap.size (by rfl) (.tmp 54) (.tmp 75) 140 145 145 (.slice none 0 0) 24 rfl Try.underlying140 info145 rfl (by decide) (by omega) u7 x7_1 y193 _ _ _ (fun k_ => (w.heap.size ≤ k_) ∧ some k_ ≠ (.slice (some ad160) t157.length co10 : Value).ownBlock ∧ k_ ≠ gb153) (fun k_ => (some k_ = (Value.slice Ao46 y184.length co46).ownBlock ∨ some k_ = (Value.slice Ao47 y190.length co47).ownBlock) ∨ w45.heap.size ≤ k_) rfl rfl ?aO HO195.out (fun k_ hk_ => ⟨⟨(pL_.out k_ hk_).1, (pL_.out k_ hk_).2.2⟩, (pL_.out k_ hk_).2.1⟩) ?aF ?aB ?aS ?aL ?_
              (case aB => exact (zB2 HB.out GE153.out))
              (case aF => exact (fun k_ hk => ⟨(Nat.le_trans (below_size (zB2 HB.out GE153.out)) hk), Kd.fresh' (Kd.R_lt (zR HO_18.out)) k_ hk, Kd.freshB (g := gb153) (o := .cells #[.slice A0_0 l0_0.length c0_0, .slice A0_1 l0_1.length c0_1] 27 (0, 0)) (zb BK153.out) k_ hk⟩))
              (case aO => exact Kd.S_mono HO_7.out (fun k_ hk => ⟨hk.1.1, fun h_ => h_.elim (fun h2_ => h2_.elim hk.1.2.1 hk.1.2.2) (fun h2_ => Nat.lt_irrefl _ (Nat.lt_of_lt_of_le hk.2 h2_))⟩))
              (case aS => exact (below_size (zB2 HB.out GE153.out)))
              (case aL => have := LMc40.out; omega)
              intro v197 w50 ho hb hg hat
              rw [← Ny196.out] at ho; have n0_ := zQ (Kd.R_over' (zR HO_18.out) (Kd.S_typed (zS HO_7.out)) (by decide) hg); have n1_ := zQ (blk_grown (g := gb153) (o := .cells #[.slice A0_0 l0_0.length c0_0, .slice A0_1 l0_1.length c0_1] 27 (0, 0)) (zb BK153.out) hg (Kd.S_ne HO_7.out BK153.out (by decide))); have n2_ := zQ (show v197.ownBlock ≠ none from hat.elim (fun e_ => by rw [e_]; exact HN7.out) (fun ⟨b_, e_, _⟩ => by rw [e_]; exact Option.some_ne_none _)); have n3_ := zQ (hb); have n4_ := zQ (ho); clear HO_18; clear BK153; clear HO195; clear HB; clear HO_7; have HO_18 := n0_; have BK153 := n1_; have HN8 := n2_; have HB := n3_; have HO198 := n4_; clear n0_ n1_ n2_ n3_ n4_; clear ho hb hg hat
              refine hK.out _ _ ⟨((HB.out.cell (World.block_lt_of_cell? w _ hw181_0)).trans hw181_0), ((HB.out.cell (World.block_lt_of_cell? w _ hw181_1)).trans hw181_1), ((HB.out.cell (World.block_lt_of_cell? w _ hw187_0)).trans hw187_0), ((HB.out.cell (World.block_lt_of_cell? w _ hw187_1)).trans hw187_1)⟩ (fun hHeld => ?_)
              clear hK K
              refine zn 76 ?_
              refine zp 23 7 ?_
              refine done_ (done_of HT_.out (by kernel_rfl)) ?_
              try go_wp2
              go_roundg k2
              case measure => have := HK1.out; have := HK2.out; omega
              case rel => exact ⟨(y196), (wrap64 (x20_1 + 1)), (zF), H', ⟨by have := HK1.out; have := HK2.out; omega⟩, ⟨zS HO198.out⟩, ⟨zR HO_18.out⟩, ⟨zb BK153.out⟩, ⟨zB2 HB.out GE153.out⟩, HN8⟩
             ·rw [if_neg c40] at H
              exact absurd H (by simp)
            ·rw [if_neg c39] at H
             exact absurd H (by simp)
           ·rw [if_neg c37] at H
            exact absurd H (by simp)
          ·rw [if_neg c35] at H
           exact absurd H (by simp)
         ·rw [if_neg c34] at H
          exact absurd H (by simp)
     ·rw [if_neg c13] at H
      exact absurd H (by simp)
    ·rw [if_neg c12] at H
     exact absurd H (by simp)
   ·rw [if_neg c11] at H
    have c11b0 := decide_eq_false c11; clear c11; obtain rfl := Option.some.inj H
    go_wp2
    go_ret
    exact ⟨_, zE, HN7.out, by (with_reducible repeat (first | apply Kd.S_alloc | apply Kd.S_drewN | apply Kd.S_drew)); exact Kd.S_mono HO_7.out (fun _ hk => hk.1), zB2 HB.out GE153.out⟩

end
end Go.Proofs.Ytimjblgepbhoaaa.PStays

