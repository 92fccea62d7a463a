import Derived.Test.YtimjblgepbhoaaaHStays0
import Derived.Test.YtimjblgepbhoaaaHStaysl
import Derived.Test.YtimjblgepbhoaaaHStayso
namespace Go.Proofs.Ytimjblgepbhoaaa.PStays
noncomputable section
open Go.RowKit Go.Proofs.YtimjblgepbhoaaaW.PrintWords Go.Proofs.YtimjblgepbhoaaaW.PrintLast Go.Proofs.YtimjblgepbhoaaaW.PrintMore
attribute [local go_sem] max2_int min2_int max_two min_two max_three min_three max_four min_four   -- for this text's walks alone
set_option linter.unusedVariables false
set_option linter.unusedSimpArgs false
set_option maxHeartbeats 8000000
set_option maxRecDepth 100000

theorem info145 : (Try.prog.info? 145).map (fun i => (i.zero, i.size, i.bytes)) = some (some (.slice none 0 0), 1, 24) := by kernel_rfl
theorem info147 : (Try.prog.info? 147).map (fun i => (i.zero, i.size, i.bytes)) = some (some (.agg #[(.int .i64 0), (.int .i64 0)]), 2, 16) := by kernel_rfl
structure S147 where
 f0 : Int
 f1 : Int
def z147 : S147 := ⟨(0 : Int), (0 : Int)⟩
def k147 : Kd S147 := Kd.iso (Kd.pair (Kd.int .i64) (Kd.int .i64)) (fun x : S147 => (x.f0, x.f1))
theorem k147_openM {w : World} {base : Nat} {ok : Nat → Prop} {x : S147} {cs : List Value} (h : k147.M w base ok x cs) : cs = [.int .i64 x.f0, .int .i64 x.f1] := by
 obtain ⟨_, _, rfl, rfl, rfl⟩ := h
 exact rfl
theorem k147_mkM (w : World) (base : Nat) (ok : Nat → Prop) (x : S147)  : k147.M w base ok x [.int .i64 x.f0, .int .i64 x.f1] := ⟨[.int .i64 x.f0], [.int .i64 x.f1], rfl, rfl, rfl⟩
theorem R_one147 {e : Nat} {w : World} {base : Nat} {ok : Nat → Prop} {v : Value} {xs : List (S147)} (h : Kd.R k147 e w base ok v xs) : Kd.R k147 e w base (fun k => some k = v.ownBlock) v xs :=
 ⟨fun k hk => hk.symm, h.2.imp_ (fun x c hp => by obtain rfl := k147_openM hp; exact k147_mkM _ _ _ x)⟩
section
open Classical in
theorem S_append_rows_step {P : Program} {ops : Array Oper} {o : Oper} {a : Act} {Q : Exit → Act → World → Prop} {Kc : Act → World → Prop} {α : Type} (d : Kd α) {w0 W : World} (base : Nat) (hw : Region.wanted o (yielded ops a.tmps) = true) (s x : Operand) (t e e' : TypeId) (z : Value) (bytes : Nat)
  (ho : o.op = .call { callee := .builtin .append, args := #[s, x], argTypes := #[t, t] })
  (ht : P.underlying t = some (.slice e)) (hinfo : (P.info? e).map (fun i => (i.zero, i.size, i.bytes)) = some (some z, d.sz, bytes)) (hz : z.cells.size = d.sz) (OD : 0 < d.sz) (PD : 0 < bytes)
  (v : Value) (xs ys : List α) (A : Option Addr) (m c : Nat) (ok okp : Nat → Prop) (hs : a.eval s = v) (hx : a.eval x = .slice A m c)
  (HO : Kd.S d e W base (fun k => ok k ∧ ¬ okp k) v xs) (HR : Kd.S d e' W base okp (.slice A m c) ys) (hokp : ∀ k, okp k → ok k ∧ some k ≠ v.ownBlock) (hfresh : ∀ k, W.heap.size ≤ k → ok k)
  (HB : Below base w0 W) (hbase : base ≤ W.heap.size) (hl : (xs.length + m) * bytes ≤ 140737488355328)
  (h : ∀ v1 w1, Kd.S d e w1 base ok v1 (xs ++ ys) → Below base w0 w1 → W.grownBy w1 v.ownBlock → (v1.ownBlock = v.ownBlock ∨ ∃ b, v1.ownBlock = some b ∧ W.heap.size ≤ b) → Kc (a.put o.dst v1) w1) :
  if Region.wanted o (yielded ops a.tmps) = true then Oper.wp P o a W Kc Q else Kc (a.put o.dst undef) W := by
 obtain ⟨f1, h1⟩ := HO
 obtain ⟨f2, h2⟩ := HR
 obtain ⟨A', c', he, hlc, hr⟩ := OwnRow.reads h2.2
 injection he with e1 e2 e3
 subst e1
 rw [List.length_zipIdx] at e2
 rw [List.length_zipIdx] at hr
 subst e2
 have LD : (xs ++ ys).zipIdx = xs.zipIdx ++ ys.zipIdx xs.length := by rw [List.zipIdx_append, Nat.zero_add]
 let f : Nat → Nat := fun k => if okp k then xs.length + f2 k else f1 k
 have hR1 : (Kd.tag f d).R e W base ok v xs.zipIdx := Kd.R_mono (Kd.R_tag h1 (fun k hk _ => if_neg hk.2)) (fun _ hk => hk.1)
 have hR2 : ReadsRow (fun p cs => (Kd.tag f d).M W base okp p cs) (Kd.tag f d).sz W A ys.length (ys.zipIdx xs.length) := by
  refine ⟨List.length_zipIdx, hr.2.1, fun hp => ?_⟩
  obtain ⟨ad, hA, hc⟩ := hr.2.2 hp
  refine ⟨ad, hA, fun j p hj => ?_⟩
  rw [List.getElem?_zipIdx] at hj; obtain ⟨y, hy, rfl⟩ := Option.map_eq_some_iff.1 hj; obtain ⟨cs, h3, h4, h5⟩ := hc j (y, j) (by rw [List.getElem?_zipIdx, hy, Nat.zero_add]; rfl)
  refine ⟨cs, h3, d.M_mono (fun k hk => ⟨hk.1.1, ?_⟩) h4, h5⟩
  have h6 : f2 k = j := hk.2
  exact (if_pos hk.1.1).trans (by rw [h6])
 refine Kd.R_append_rows_step (Kd.tag f d) base hw s x t e z bytes ho ht hinfo hz OD PD v xs.zipIdx (ys.zipIdx xs.length) A ys.length c ok okp hs hx hR1 hR2 (fun _ _ h => h) hokp hfresh HB hbase (by rw [List.length_zipIdx]; exact hl) ?_
 intro v1 w1 qC
 rw [← LD] at qC
 exact h v1 w1 ⟨f, qC⟩
end
mutual
def impl_barRows.l0 : Nat → List (S113) → List Int → List (List (S147)) → List Int → Int → Int → List (S164) → List (S115) → Option ((List (List (S147))))
 | 0, _, _, _, _, _, _, _, _ => none
 | k + 1, x1, x2, x7, x18, x19, x20, xA, qA => if x20 < x19 then (if 0 ≤ x20 then (if x20 < (x18.length : Int) then (impl_barRows.l1 k x1 x2 x7 (rd x18 x20) (([] : List (S147))) (([] : List (S147))) x18 x19 x20 x2 (x2.length : Int) 0 xA qA) else (none)) else (none)) else (some x7)
def impl_barRows.l1 : Nat → List (S113) → List Int → List (List (S147)) → Int → List (S147) → List (S147) → List Int → Int → Int → List Int → Int → Int → List (S164) → List (S115) → Option ((List (List (S147))))
 | 0, _, _, _, _, _, _, _, _, _, _, _, _, _, _ => none
 | k + 1, x1, x2, x7, x9, x10, x11, x18, x19, x20, x26, x27, x28, xA, qA => if x28 < x27 then (if 0 ≤ x28 then (if x28 < (x26.length : Int) then (if 0 ≤ (rd x26 x28) then (if (rd x26 x28) < (qA.length : Int) then ((impl_pullOf.f xA qA ((rd_T115 qA (rd x26 x28)).f0) ((rd_T115 qA (rd x26 x28)).f1) ((rd_T115 qA (rd x26 x28)).f2) x9).bind fun NB => ((impl_fraction.f k NB.1 1).bind fun MB => (if x10.length < 8796093022208 then ((impl_fraction.f k NB.2 1).bind fun SA => (if x11.length < 8796093022208 then (impl_barRows.l1 k x1 x2 x7 x9 (x10 ++ [(⟨MB.1, MB.2⟩ : S147)]) (x11 ++ [(⟨SA.1, SA.2⟩ : S147)]) x18 x19 x20 x26 x27 (wrap64 (x28 + 1)) xA qA) else (none))) else (none)))) else (none)) else (none)) else (none)) else (none)) else (if 0 ≤ x9 then (if x9 < (x1.length : Int) then ((impl_fraction.f k (wrap64 (-((rd_T113 x1 x9).f0))) 1).bind fun LB => (if x10.length < 8796093022208 then ((impl_fraction.f k (wrap64 (-((rd_T113 x1 x9).f1))) 1).bind fun RA => (if x11.length < 8796093022208 then ((some (([(x10 ++ [(⟨LB.1, LB.2⟩ : S147)]), (x11 ++ [(⟨RA.1, RA.2⟩ : S147)])] : List (List (S147))) : List (List (S147)))).bind fun wA => (if x7.length + wA.length < 5864062014805 then (impl_barRows.l0 k x1 x2 (x7 ++ wA) x18 x19 (wrap64 (x20 + 1)) xA qA) else (none))) else (none))) else (none))) else (none)) else (none))
end
def impl_barRows.f (k : Nat) (l0_0 : List (S164)) (l0_1 : List (S115)) (l1 : List (S113)) (l2 : List Int) : Option ((List (List (S147)))) := (impl_freeKnots.f k l0_0 l0_1).bind fun bA => (impl_barRows.l0 k l1 l2 (([] : List (List (S147)))) bA (bA.length : Int) 0 l0_0 l0_1)
def impl_barRows.T9 : Bool × List (List Nat × List Nat) := (true, [([], []), ([], []), ([1], [1]), ([], []), ([2, 3], [2, 3]), ([4], [4]), ([], []), ([0, 5, 6], [0, 5, 6]), ([7], [7]), ([8], [8]), ([8], [8]), ([9, 7, 0, 1, 2, 3, 4, 5, 6, 7, 8, 9], [9]), ([10, 11, 0, 1, 2, 3, 4, 5, 6, 7, 8, 9, 10, 11], [10])])
def impl_barRows.B9 : List Nat := [0, 0, 2, 0, 14, 30, 0, 127, 255, 511, 511, 1023, 4095]
theorem impl_barRows.tab9 : rtab .any (opsOf Try.f120 9) = impl_barRows.T9 := by kernel_rfl
theorem impl_barRows.bits9 : waitsOk impl_barRows.T9.2 impl_barRows.B9 = true := by kernel_rfl
def impl_barRows.T13 : Bool × List (List Nat × List Nat) := (true, [([], []), ([], []), ([], []), ([], []), ([2, 3], [2, 3]), ([4], [4]), ([5], [5]), ([6], [6]), ([7], [7]), ([8], [8]), ([1, 9, 8], [1, 9]), ([], []), ([], []), ([], []), ([12, 13], [12, 13]), ([14], [14]), ([15], [15]), ([16], [16]), ([17, 10], [17]), ([18], [18]), ([11, 19, 18], [11, 19]), ([10, 20], [10, 20]), ([0, 21, 20], [0, 21]), ([22, 22, 0, 1, 2, 3, 4, 5, 6, 7, 8, 9, 10, 11, 12, 13, 14, 15, 16, 17, 18, 19, 20, 21, 22], [0, 22])])
def impl_barRows.B13 : List Nat := [0, 0, 0, 0, 12, 28, 60, 124, 252, 508, 1022, 0, 0, 0, 12288, 28672, 61440, 126976, 260094, 522238, 1048574, 2097150, 4194303, 8388607]
theorem impl_barRows.tab13 : rtab .any (opsOf Try.f120 13) = impl_barRows.T13 := by kernel_rfl
theorem impl_barRows.bits13 : waitsOk impl_barRows.T13.2 impl_barRows.B13 = true := by kernel_rfl
theorem impl_barRows.calls (k : Nat) (A0_0 : Option Addr) (c0_0 : Nat) (l0_0 : List (S164)) (A0_1 : Option Addr) (c0_1 : Nat) (l0_1 : List (S115)) (A1 : Option Addr) (c1 : Nat) (l1 : List (S113)) (A2 : Option Addr) (c2 : Nat) (l2 : List Int) (r : List (List (S147))) (w : World) (GB : Kd.C k164 w A0_0 l0_0.length l0_0) (JB : l0_0.length ≤ c0_0) (FB : Kd.C k115 w A0_1 l0_1.length l0_1) (IB : l0_1.length ≤ c0_1) (qC : Kd.C k113 w A1 l1.length l1) (sD : l1.length ≤ c1) (qD : Kd.C (Kd.int .i64) w A2 l2.length l2) (rD : l2.length ≤ c2) (h : impl_barRows.f k l0_0 l0_1 l1 l2 = some r) :
  Calls Try.prog 120 #[.agg #[.slice A0_0 l0_0.length c0_0, .slice A0_1 l0_1.length c0_1], .slice A1 l1.length c1, .slice A2 l2.length c2] w fun e w' => ∃ v0_ : Value, e = .returned (v0_) ∧ v0_.ownBlock ≠ none ∧ Kd.S (Kd.slice 147 k147) 145 w' w.heap.size (fun k_ => (w.heap.size ≤ k_)) v0_ r ∧ Below w.heap.size w w' := by
 have ND := Try.underlying27
 have pD := Try.underlying115
 have SB := zQ GB
 have VB := zQ JB
 clear GB JB
 have pB := zQ FB
 have UB := zQ IB
 clear FB IB
 have CD := zQ qC
 have qE := zQ sD
 clear qC sD
 have RD := zQ qD
 have pE := zQ rD
 clear qD rD
 have HB := zQ (Below.refl w.heap.size w)
 have H := h; unfold impl_barRows.f at H
 clear h
 obtain ⟨nC, EB⟩ : ∃ y_ : List (List (S147)), y_ = (([] : List (List (S147)))) := ⟨_, rfl⟩
 replace H : ((impl_freeKnots.f k l0_0 l0_1).bind fun bA => (impl_barRows.l0 k l1 l2 nC bA (bA.length : Int) 0 l0_0 l0_1)) = some r := zh H
 have RB := zQ EB
 clear EB
 replace H := zob H; obtain ⟨bA, A4, H⟩ := H
 have H' := zQ H
 clear H
 go_enter Try.func120, Try.ntmps120
 go_wp2_with (first | ((with_reducible refine zd 3 ?_); refine zbx (N := 3) (cs := #[.slice A0_0 l0_0.length c0_0, .slice A0_1 l0_1.length c0_1]) (t := 27) ?_; intro nA hg w5 sC hb; have aA := zQ (sC); have QC := zgz hg HB.out; have eA := QC; replace HB := zbs HB.out hb; clear hb sC hg) | ((with_reducible refine zd 16 ?_); refine Kd.S_lit (Kd.slice 147 k147) _ 145 ?hg (N := 16) ?hd (xs := ([] : List (List (S147)))) (inner := []) (ok := (fun k_ => (w.heap.size ≤ k_) ∧ k_ ≠ nA)) (okp := (fun k_ => (w.heap.size ≤ k_) ∧ k_ ≠ nA)) ?hr ?hp (fun _ hk => hk) ((show ∀ k_, w5.heap.size ≤ k_ → (fun k_ => (w.heap.size ≤ k_) ∧ k_ ≠ nA) k_ from fun k_ hk => ⟨(Nat.le_trans (below_size (zB2 HB.out eA.out)) hk), Kd.freshB (g := nA) (o := .cells #[.slice A0_0 l0_0.length c0_0, .slice A0_1 l0_1.length c0_1] 27 (0, 0)) (zb aA.out) k_ hk⟩) _ (Nat.le_refl _)) (Below.refl _ _) (Nat.le_refl _) (by simp) ?_; (case hd => rfl); (case hg => rfl); (case hr => first | (go_simp; done) | (go_simp; rfl)); (case hp => exact (Reps.none _ _)); intro fD w6 rC hb hg_ hnew_; have HN7 := zQ (show fD.ownBlock ≠ none from fun e0_ => by obtain ⟨b_, e_, _⟩ := hnew_; rw [e_] at e0_; cases e0_); clear hg_ hnew_; (first | rw [← RB.out] at rC | (simp only [Int.reduceToNat] at rC; rw [← RB.out] at rC)); have rB := zQ (Kd.S_lower rC (below_size (zB2 HB.out eA.out))); replace aA := zbl aA.out hb; replace HB := zbs2 HB.out eA.out hb; clear hb rC; obtain ⟨oB, nB, mB, lB⟩ := zy2 aA.out) | ((with_reducible refine zgc 93 ?_); refine zgo (some 18) Try.func93 #[.agg #[.slice A0_0 l0_0.length c0_0, .slice A0_1 l0_1.length c0_1]] ?_; (with_reducible refine (impl_freeKnots.calls k _ _ l0_0 _ _ l0_1 bA _ (zC SB.out HB.out) VB.out (zC pB.out HB.out) UB.out A4.out).mono ?_); rintro e w9 ⟨KD, rfl, iD, hb⟩; refine ⟨_, rfl, ?_⟩; have TB := zQ (Kd.R_lower (Kd.R_newM (M := fun k_ => (w.heap.size ≤ k_)) iD (below_size (zB2 HB.out eA.out)) (fun k_ h_ => h_)) (below_size (zB2 HB.out eA.out))); replace rB := zQ (Kd.S_elder' (zS rB.out) (Kd.R_base iD) hb); replace aA := zbl aA.out hb; replace HB := zbs2 HB.out eA.out hb; (try clear hb); (try clear iD); obtain ⟨RC, vA, jD⟩ := Kd.R_slice TB.out; subst jD))
 go_loopg [7, 20] k (fun kq v7 ED w' => ∃ (uA : List (List (S147))) (dA : Int), ED = .int .i64 dA ∧ Aside0 (impl_barRows.l0 kq l1 l2 uA bA (bA.length : Int) dA l0_0 l0_1 = some r) ∧ Aside0 (kq ≤ k) ∧ Aside0 (Kd.S (Kd.slice 147 k147) 145 w' w.heap.size (fun k_ => (w.heap.size ≤ k_) ∧ some k_ ≠ ((.slice RC bA.length vA) : Value).ownBlock ∧ k_ ≠ nA) v7 uA) ∧ Aside0 (Kd.R (Kd.int .i64) 2 w' w.heap.size (fun k_ => (w.heap.size ≤ k_)) (.slice RC bA.length vA) bA) ∧ Aside0 (w'.heap[nA]? = some (.cells #[(.slice A0_0 l0_0.length c0_0), (.slice A0_1 l0_1.length c0_1)] 27 (0, 0))) ∧ Aside0 (Below w.heap.size w w') ∧ Aside0 ((v7 : Value).ownBlock ≠ none))
 case atStart => exact ⟨(nC), (0), (zF), H', ⟨Nat.le_refl _⟩, ⟨by (with_reducible repeat (first | apply Kd.S_alloc | apply Kd.S_drewN | apply Kd.S_drew)); exact Kd.S_mono rB.out (fun _ hk => ⟨hk.1.1, ⟨hk.2, hk.1.2⟩⟩)⟩, ⟨by (with_reducible repeat (first | apply Kd.R_alloc | apply Kd.R_drewN | apply Kd.R_drew)); exact Kd.R_mono TB.out (fun _ hk => hk.1)⟩, ⟨zb aA.out⟩, ⟨zB2 HB.out eA.out⟩, HN7⟩
 case round =>
  clear H'; (try clear c1); (try clear c2); (try clear p2); (try clear c9); (try clear oB nB mB lB); obtain ⟨uA, dA, rfl, HA, dD, lA, cA, aA, HB, HN7⟩ := hrel
  cases gk with
  | zero => exact absurd HA.out (by simp [impl_barRows.l0])
  | succ k1 =>
   have H := HA.out; clear HA
   simp only [impl_barRows.l0] at H
   by_cases hC : dA < (bA.length : Int)
   ·rw [if_pos hC] at H
    have KB := decide_eq_true hC; clear hC
    by_cases BC : 0 ≤ dA
    ·rw [if_pos BC] at H
     have AC := decide_eq_true BC; clear BC
     by_cases yC : dA < (bA.length : Int)
     ·rw [if_pos yC] at H
      have xC := decide_eq_true yC; clear yC; obtain ⟨XB, DB⟩ : ∃ y_ : List (S147), y_ = (([] : List (S147))) := ⟨_, rfl⟩; replace H : (impl_barRows.l1 k1 l1 l2 uA (rd bA dA) XB (([] : List (S147))) bA (bA.length : Int) dA l2 (l2.length : Int) 0 l0_0 l0_1) = some r := zh H; have QB := zQ DB; clear DB; obtain ⟨mC, CB⟩ : ∃ y_ : List (S147), y_ = (([] : List (S147))) := ⟨_, rfl⟩; replace H : (impl_barRows.l1 k1 l1 l2 uA (rd bA dA) XB mC bA (bA.length : Int) dA l2 (l2.length : Int) 0 l0_0 l0_1) = some r := zh H; have PB := zQ CB; clear CB; have H' := zQ H; clear H; have uB : 0 ≤ (dA : Int) := zD; have tB : dA < (bA.length : Int) := zD; obtain ⟨rA, oD, vB⟩ := Kd.at_int (Kd.R_reads' cA.out).2.2 dA uB tB
      cases oD
      replace uB := eq_true uB; replace tB := eq_true tB
      go_wp2_with (first | ((with_reducible refine zd 24 ?_); refine Kd.R_lit k147 _ 147 ?hg (N := 24) ?hd (xs := ([] : List (S147))) (inner := []) (ok := fun _ => True) (okp := fun _ => True) ?hr ?hp (fun _ hk => hk) trivial (Below.refl _ _) (Nat.le_refl _) (by simp) ?_; (case hd => rfl); (case hg => rfl); (case hr => first | (go_simp; done) | (go_simp; rfl)); (case hp => exact (Reps.none _ _)); intro JD lE ZA hb hg_ hnew_; clear hg_ hnew_; (first | rw [← QB.out] at ZA | (simp only [Int.reduceToNat] at ZA; rw [← QB.out] at ZA)); have YA := zQ (Kd.R_lower (Kd.R_newM (M := fun k_ => (w.heap.size ≤ k_)) ZA (below_size (zB2 HB.out eA.out)) (fun k_ h_ => h_)) (below_size (zB2 HB.out eA.out))); replace lA := zQ (Kd.S_elder' (zS lA.out) (Kd.R_base ZA) hb); replace cA := zRb cA.out hb; replace aA := zbl aA.out hb; replace HB := zbs2 HB.out eA.out hb; clear hb ZA) | ((with_reducible refine zd 25 ?_); refine Kd.R_lit k147 _ 147 ?hg (N := 25) ?hd (xs := ([] : List (S147))) (inner := []) (ok := fun _ => True) (okp := fun _ => True) ?hr ?hp (fun _ hk => hk) trivial (Below.refl _ _) (Nat.le_refl _) (by simp) ?_; (case hd => rfl); (case hg => rfl); (case hr => first | (go_simp; done) | (go_simp; rfl)); (case hp => exact (Reps.none _ _)); intro ID kE WA hb hg_ hnew_; clear hg_ hnew_; (first | rw [← PB.out] at WA | (simp only [Int.reduceToNat] at WA; rw [← PB.out] at WA)); have PC := zQ (Kd.R_lower (Kd.R_new' (Kd.R_newM (M := fun k_ => (w.heap.size ≤ k_)) WA (below_size (zB2 HB.out eA.out)) (fun k_ h_ => h_)) (Kd.R_lt (zR YA.out))) (below_size (zB2 HB.out eA.out))); replace lA := zQ (Kd.S_elder' (zS lA.out) (Kd.R_base WA) hb); replace cA := zRb cA.out hb; replace YA := zQ (Kd.R_elder' (zR YA.out) (Kd.R_base WA) hb); replace aA := zbl aA.out hb; replace HB := zbs2 HB.out eA.out hb; clear hb WA))
      go_loopg [10, 11, 28] k1 (fun kq hD gD DD w' => ∃ (yA : List (S147)) (sA : List (S147)) (mA : Int), DD = .int .i64 mA ∧ Aside0 (impl_barRows.l1 kq l1 l2 uA (rd bA dA) yA sA bA (bA.length : Int) dA l2 (l2.length : Int) mA l0_0 l0_1 = some r) ∧ Aside0 (kq ≤ k1) ∧ Aside0 (Kd.S (Kd.slice 147 k147) 145 w' w.heap.size (fun k_ => (w.heap.size ≤ k_) ∧ some k_ ≠ (hD : Value).ownBlock ∧ some k_ ≠ (gD : Value).ownBlock ∧ some k_ ≠ ((.slice (some rA) bA.length vA) : Value).ownBlock ∧ k_ ≠ nA) u7 uA) ∧ Aside0 (Kd.R k147 147 w' w.heap.size (fun k_ => (w.heap.size ≤ k_) ∧ some k_ ≠ (gD : Value).ownBlock) hD yA) ∧ Aside0 (Kd.R k147 147 w' w.heap.size (fun k_ => (w.heap.size ≤ k_) ∧ some k_ ≠ (hD : Value).ownBlock) gD sA) ∧ Aside0 (Kd.R (Kd.int .i64) 2 w' w.heap.size (fun k_ => (w.heap.size ≤ k_)) (.slice (some rA) bA.length vA) bA) ∧ Aside0 (w'.heap[nA]? = some (.cells #[(.slice A0_0 l0_0.length c0_0), (.slice A0_1 l0_1.length c0_1)] 27 (0, 0))) ∧ Aside0 (Below w.heap.size w w'))
      case atStart => exact ⟨(XB), (mC), (0), (zF), H', ⟨Nat.le_refl _⟩, ⟨by (with_reducible repeat (first | apply Kd.S_alloc | apply Kd.S_drewN | apply Kd.S_drew)); exact Kd.S_mono lA.out (fun _ hk => ⟨hk.1.1.1, ⟨hk.1.2, ⟨hk.2, ⟨hk.1.1.2.1, hk.1.1.2.2⟩⟩⟩⟩)⟩, ⟨by (with_reducible repeat (first | apply Kd.R_alloc | apply Kd.R_drewN | apply Kd.R_drew)); exact Kd.R_mono YA.out (fun _ hk => ⟨hk.1.1, hk.2⟩)⟩, ⟨by (with_reducible repeat (first | apply Kd.R_alloc | apply Kd.R_drewN | apply Kd.R_drew)); exact Kd.R_mono PC.out (fun _ hk => ⟨hk.1.1, hk.2⟩)⟩, ⟨zR cA.out⟩, ⟨zb aA.out⟩, ⟨zB2 HB.out eA.out⟩⟩
      case round =>
       clear H'; (try clear c1); (try clear p1); (try clear q1); (try clear oE); (try clear c2); (try clear p2); (try clear c9); (try clear hC); (try clear KB); (try clear BC); (try clear AC); (try clear yC); (try clear xC); (try clear nE); (try clear mE); (try clear MD); (try clear oB nB mB lB); (try clear vB); (try clear uB); (try clear p2); (try clear tB); obtain ⟨yA, sA, mA, rfl, HA, HK2, lA, oA, kA, cA, aA, HB⟩ := hrel
       cases gk with
       | zero => exact absurd HA.out (by simp [impl_barRows.l1])
       | succ k2 =>
        have H := HA.out; clear HA
        simp only [impl_barRows.l1] at H
        by_cases jC : mA < (l2.length : Int)
        ·rw [if_pos jC] at H
         have wC := decide_eq_true jC; clear jC
         by_cases cD : 0 ≤ mA
         ·rw [if_pos cD] at H
          have AD := decide_eq_true cD; clear cD
          by_cases bD : mA < (l2.length : Int)
          ·rw [if_pos bD] at H
           have yD := decide_eq_true bD; clear bD
           by_cases aD : 0 ≤ (rd l2 mA)
           ·rw [if_pos aD] at H
            have xD := decide_eq_true aD; clear aD
            by_cases ZC : (rd l2 mA) < (l0_1.length : Int)
            ·rw [if_pos ZC] at H
             have wD := decide_eq_true ZC; clear ZC; replace H := zob H; obtain ⟨⟨YB, sB⟩, XD, H⟩ := H; replace H := zob H; obtain ⟨⟨jB, iB⟩, WD, H⟩ := H
             by_cases YC : yA.length < 8796093022208
             ·rw [if_pos YC] at H
              have MC := zQ YC; clear YC; obtain ⟨WB, BB⟩ : ∃ y_ : List (S147), y_ = (yA ++ [(⟨jB, iB⟩ : S147)]) := ⟨_, rfl⟩; replace H : ((impl_fraction.f k2 sB 1).bind fun SA => (if sA.length < 8796093022208 then (impl_barRows.l1 k2 l1 l2 uA (rd bA dA) WB (sA ++ [(⟨SA.1, SA.2⟩ : S147)]) bA (bA.length : Int) dA l2 (l2.length : Int) (wrap64 (mA + 1)) l0_0 l0_1) else (none))) = some r := zh H; have HC := zQ BB; clear BB; replace H := zob H; obtain ⟨⟨gB, fB⟩, VD, H⟩ := H
              by_cases XC : sA.length < 8796093022208
              ·rw [if_pos XC] at H
               have LC := zQ XC; clear XC; obtain ⟨lC, AB⟩ : ∃ y_ : List (S147), y_ = (sA ++ [(⟨gB, fB⟩ : S147)]) := ⟨_, rfl⟩; replace H : (impl_barRows.l1 k2 l1 l2 uA (rd bA dA) WB lC bA (bA.length : Int) dA l2 (l2.length : Int) (wrap64 (mA + 1)) l0_0 l0_1) = some r := zh H; have GC := zQ AB; clear AB; have H' := zQ H; clear H; have gC : 0 ≤ (mA : Int) := zD; have cC : mA < (l2.length : Int) := zD; obtain ⟨BD, nD, XA⟩ := Kd.at_int RD.out mA gC cC
               cases nD
               replace XA := zw HB.out XA; replace gC := eq_true gC; replace cC := eq_true cC
               try go_wp2
               have n0_ := zQ (Kd.S_drew lA.out); have n1_ := zQ (Kd.R_drew oA.out); have n2_ := zQ (Kd.R_drew kA.out); have n3_ := zQ (Kd.R_drew cA.out); have n4_ := zQ (blk_drew aA.out); have n5_ := zQ (below_drew1 HB.out); clear lA; clear oA; clear kA; clear cA; clear aA; clear HB; have lA := n0_; have oA := n1_; have kA := n2_; have cA := n3_; have aA := n4_; have HB := n5_; clear n0_ n1_ n2_ n3_ n4_ n5_; have fC : 0 ≤ ((rd l2 mA) : Int) := zD; have bC : (rd l2 mA) < (l0_1.length : Int) := zD; obtain ⟨zA, mD, JA, IA, GA⟩ := at_T115 pB.out (rd l2 mA) fC bC; have KA := GA; have LA := IA; have MA := JA
               cases mD
               replace JA := zw HB.out JA; replace IA := zw HB.out IA; replace GA := zw HB.out GA; replace fC := eq_true fC; replace bC := eq_true bC
               refine zs (fun w' => w'.cell? ⟨nA, 0, none⟩ = some (.slice A0_0 l0_0.length c0_0) ∧ w'.cell? ⟨nA, 1, none⟩ = some (.slice (some zA) l0_1.length c0_1) ∧ w'.cell? (zA.add (((rd l2 mA)).toNat * 3)) = some (.int .i64 ((rd_T115 l0_1 (rd l2 mA)).f0)) ∧ w'.cell? ⟨(zA.add (((rd l2 mA)).toNat * 3)).block, (zA.add (((rd l2 mA)).toNat * 3)).off + 1, none⟩ = some (.int .i64 ((rd_T115 l0_1 (rd l2 mA)).f1)) ∧ w'.cell? ⟨(zA.add (((rd l2 mA)).toNat * 3)).block, (zA.add (((rd l2 mA)).toNat * 3)).off + 2, none⟩ = some (.bool ((rd_T115 l0_1 (rd l2 mA)).f2))) [] 13 ⟨(blk_cell aA.out 0).trans rfl, (blk_cell aA.out 1).trans rfl, ((HB.out.cell (World.block_lt_of_cell? w _ MA)).trans MA), ((HB.out.cell (World.block_lt_of_cell? w _ LA)).trans LA), ((HB.out.cell (World.block_lt_of_cell? w _ KA)).trans KA)⟩ (fun pA => ?_); refine with_tabW impl_barRows.tab9 impl_barRows.bits9 (fun HT_ HW_ => ?_)
               generalize wr.drew = jE at lA oA kA cA aA HB JA IA GA pA ⊢
               refine zp 1 34 ?_
               refine zp 3 36 ?_
               refine zp 6 39 ?_
               refine zt 0 33 pA ?_
               refine zt 2 35 pA ?_
               refine zp 4 37 ?_
               refine zt 5 38 pA ?_
               refine zo 7 (some 40) (fun K hK => ?_)
               refine goes_ Try.func94 (by kernel_rfl) rfl #[.agg #[.slice A0_0 l0_0.length c0_0, .slice (some zA) l0_1.length c0_1], .agg #[.int .i64 ((rd_T115 l0_1 (rd l2 mA)).f0), .int .i64 ((rd_T115 l0_1 (rd l2 mA)).f1), .bool ((rd_T115 l0_1 (rd l2 mA)).f2)], .int .i64 (rd bA dA)] (by rfl) rfl rfl zM ?_
               with_reducible refine (impl_pullOf.calls _ _ l0_0 _ _ l0_1 ((rd_T115 l0_1 (rd l2 mA)).f0) ((rd_T115 l0_1 (rd l2 mA)).f1) ((rd_T115 l0_1 (rd l2 mA)).f2) (rd bA dA) YB sB _ ?side1 ?side2 ?side3 ?side4 XD.out).mono ?_
               (case side1 => exact zC SB.out HB.out)
               (case side2 => exact VB.out)
               (case side3 => exact zC pB.out HB.out)
               (case side4 => exact UB.out)
               rintro e iE ⟨rfl, hb⟩
               refine ⟨_, rfl, ?_⟩
               have n0_ := zQ (Kd.S_below (zS lA.out) hb); have n1_ := zRb oA.out hb; have n2_ := zRb kA.out hb; have n3_ := zRb cA.out hb; have n4_ := zbl aA.out hb; have n5_ := zbs2 HB.out eA.out hb; clear lA; clear oA; clear kA; clear cA; clear aA; clear HB; have lA := n0_; have oA := n1_; have kA := n2_; have cA := n3_; have aA := n4_; have HB := n5_; clear n0_ n1_ n2_ n3_ n4_ n5_
               (try clear hb)
               (try clear tD)
               (try clear hk)
               (try clear hi)
               refine hK.out _ _ ⟨(blk_cell aA.out 0).trans rfl, (blk_cell aA.out 1).trans rfl, ((HB.out.cell (World.block_lt_of_cell? w _ MA)).trans MA), ((HB.out.cell (World.block_lt_of_cell? w _ LA)).trans LA), ((HB.out.cell (World.block_lt_of_cell? w _ KA)).trans KA)⟩ (fun pA => ?_)
               clear hK K
               refine zn 40 ?_
               refine zp 8 32 ?_
               refine zp 9 41 ?_
               refine zp 10 42 ?_
               refine zp 11 14 ?_
               refine zp 12 15 ?_
               refine done_ (done_of HT_.out (by kernel_rfl)) ?_
               try go_wp2_with (first | ((with_reducible refine zgc 136 ?_); refine zgo (some 45) Try.func136 #[.int .i64 YB, .int .i64 1] ?_; (with_reducible refine (impl_fraction.calls k2 YB 1 jB iB _ WD.out).mono ?_); rintro e hE ⟨rfl, hb⟩; refine ⟨_, rfl, ?_⟩; replace lA := zQ (Kd.S_below (zS lA.out) hb); replace oA := zRb oA.out hb; replace kA := zRb kA.out hb; replace cA := zRb cA.out hb; replace aA := zbl aA.out hb; replace HB := zbs2 HB.out eA.out hb; (try clear hb)) | ((with_reducible refine gate_builtin (b := .append) (xs := #[.tmp 43, .tmp 46]) rfl ?_); at_builtin; refine Kd.R_append k147 (w0 := w) w.heap.size rfl (.tmp 43) (.tmp 46) 145 147 (.agg #[(.int .i64 0), (.int .i64 0)]) 16 rfl Try.underlying145 info147 rfl (by decide) (by omega) u10 yA (⟨jB, iB⟩ : S147) [.int .i64 jB, .int .i64 iB] (fun k_ => (w.heap.size ≤ k_) ∧ some k_ ≠ (u11 : Value).ownBlock) (fun _ => False) rfl rfl ?aP (fun _ hk => hk.elim) ?aF ?aO ?aB ?aS ?aL ?_; (case aP => exact k147_mkM _ _ _ (⟨jB, iB⟩ : S147)); (case aB => exact (zB2 HB.out eA.out)); (case aF => exact (fun k_ hk => ⟨(Nat.le_trans (below_size (zB2 HB.out eA.out)) hk), Kd.fresh' (Kd.R_lt (zR kA.out)) k_ hk⟩)); (case aO => exact (zR oA.out)); (case aS => exact (below_size (zB2 HB.out eA.out))); (case aL => have := MC.out; omega); intro pC gE ho hb hg hat; rw [← HC.out] at ho; have OA := zQ (ho); replace lA := zQ (Kd.S_after (ok := (fun k_ => (w.heap.size ≤ k_) ∧ some k_ ≠ (u11 : Value).ownBlock ∧ some k_ ≠ (.slice (some rA) bA.length vA : Value).ownBlock ∧ k_ ≠ nA)) (by (with_reducible repeat (first | apply Kd.S_alloc | apply Kd.S_drewN | apply Kd.S_drew)); exact Kd.S_mono lA.out (fun _ hk => ⟨⟨hk.1, ⟨hk.2.2.1, ⟨hk.2.2.2.1, hk.2.2.2.2⟩⟩⟩, hk.2.1⟩)) hg hat); replace kA := zQ (Kd.R_after (ok := (fun k_ => (w.heap.size ≤ k_))) (zR kA.out) hg hat); replace cA := zQ (Kd.R_over' (zR cA.out) (Kd.R_typed (zR oA.out)) (by decide) hg); replace aA := zQ (blk_grown (g := nA) (o := .cells #[.slice A0_0 l0_0.length c0_0, .slice (some zA) l0_1.length c0_1] 27 (0, 0)) (zb aA.out) hg (Kd.R_ne oA.out aA.out (by decide))); replace HB := zQ (hb); clear oA ho hb hg hat) | ((with_reducible refine zgc 136 ?_); refine zgo (some 50) Try.func136 #[.int .i64 sB, .int .i64 1] ?_; (with_reducible refine (impl_fraction.calls k2 sB 1 gB fB _ VD.out).mono ?_); rintro e fE ⟨rfl, hb⟩; refine ⟨_, rfl, ?_⟩; replace lA := zQ (Kd.S_below (zS lA.out) hb); replace kA := zRb kA.out hb; replace cA := zRb cA.out hb; replace OA := zRb OA.out hb; replace aA := zbl aA.out hb; replace HB := zbs2 HB.out eA.out hb; (try clear hb)) | ((with_reducible refine gate_builtin (b := .append) (xs := #[.tmp 48, .tmp 51]) rfl ?_); at_builtin; refine Kd.R_append k147 (w0 := w) w.heap.size rfl (.tmp 48) (.tmp 51) 145 147 (.agg #[(.int .i64 0), (.int .i64 0)]) 16 rfl Try.underlying145 info147 rfl (by decide) (by omega) u11 sA (⟨gB, fB⟩ : S147) [.int .i64 gB, .int .i64 fB] (fun k_ => (w.heap.size ≤ k_) ∧ some k_ ≠ (pC : Value).ownBlock) (fun _ => False) rfl rfl ?aP (fun _ hk => hk.elim) ?aF ?aO ?aB ?aS ?aL ?_; (case aP => exact k147_mkM _ _ _ (⟨gB, fB⟩ : S147)); (case aB => exact (zB2 HB.out eA.out)); (case aF => exact (fun k_ hk => ⟨(Nat.le_trans (below_size (zB2 HB.out eA.out)) hk), Kd.fresh' (Kd.R_lt (zR OA.out)) k_ hk⟩)); (case aO => exact (zR kA.out)); (case aS => exact (below_size (zB2 HB.out eA.out))); (case aL => have := LC.out; omega); intro HD eE ho hb hg hat; rw [← GC.out] at ho; have OC := zQ (ho); replace lA := zQ (Kd.S_after (ok := (fun k_ => (w.heap.size ≤ k_) ∧ some k_ ≠ (.slice (some rA) bA.length vA : Value).ownBlock ∧ some k_ ≠ (pC : Value).ownBlock ∧ k_ ≠ nA)) (by (with_reducible repeat (first | apply Kd.S_alloc | apply Kd.S_drewN | apply Kd.S_drew)); exact Kd.S_mono lA.out (fun _ hk => ⟨⟨hk.1.1, ⟨hk.1.2.2.1, ⟨hk.2, hk.1.2.2.2⟩⟩⟩, hk.1.2.1⟩)) hg hat); replace cA := zQ (Kd.R_over' (zR cA.out) (Kd.R_typed (zR kA.out)) (by decide) hg); replace aA := zQ (blk_grown (g := nA) (o := .cells #[.slice A0_0 l0_0.length c0_0, .slice (some zA) l0_1.length c0_1] 27 (0, 0)) (zb aA.out) hg (Kd.R_ne kA.out aA.out (by decide))); replace OA := zQ (Kd.R_after (ok := (fun k_ => (w.heap.size ≤ k_))) (zR OA.out) hg hat); replace HB := zQ (hb); clear kA ho hb hg hat))
               go_roundg k2
               case measure => have := dD.out; have := HK2.out; omega
               case rel => exact ⟨(WB), (lC), (wrap64 (mA + 1)), (zF), H', ⟨by have := dD.out; have := HK2.out; omega⟩, ⟨by (with_reducible repeat (first | apply Kd.S_alloc | apply Kd.S_drewN | apply Kd.S_drew)); exact Kd.S_mono lA.out (fun _ hk => ⟨hk.1.1, ⟨hk.1.2.2.1, ⟨hk.2, ⟨hk.1.2.1, hk.1.2.2.2⟩⟩⟩⟩)⟩, ⟨zR OA.out⟩, ⟨zR OC.out⟩, ⟨zR cA.out⟩, ⟨zb aA.out⟩, ⟨zB2 HB.out eA.out⟩⟩
              ·rw [if_neg XC] at H
               exact absurd H (by simp)
             ·rw [if_neg YC] at H
              exact absurd H (by simp)
            ·rw [if_neg ZC] at H
             exact absurd H (by simp)
           ·rw [if_neg aD] at H
            exact absurd H (by simp)
          ·rw [if_neg bD] at H
           exact absurd H (by simp)
         ·rw [if_neg cD] at H
          exact absurd H (by simp)
        ·rw [if_neg jC] at H
         have wC := decide_eq_false jC; clear jC
         by_cases WC : 0 ≤ (rd bA dA)
         ·rw [if_pos WC] at H
          have vD := decide_eq_true WC; clear WC
          by_cases VC : (rd bA dA) < (l1.length : Int)
          ·rw [if_pos VC] at H
           have uD := decide_eq_true VC; clear VC; replace H := zob H; obtain ⟨⟨eB, dB⟩, UD, H⟩ := H
           by_cases UC : yA.length < 8796093022208
           ·rw [if_pos UC] at H
            have KC := zQ UC; clear UC; obtain ⟨AA, zB⟩ : ∃ y_ : List (S147), y_ = (yA ++ [(⟨eB, dB⟩ : S147)]) := ⟨_, rfl⟩; replace H : ((impl_fraction.f k2 (wrap64 (-((rd_T113 l1 (rd bA dA)).f1))) 1).bind fun RA => (if sA.length < 8796093022208 then ((some (([AA, (sA ++ [(⟨RA.1, RA.2⟩ : S147)])] : List (List (S147))) : List (List (S147)))).bind fun wA => (if uA.length + wA.length < 5864062014805 then (impl_barRows.l0 k2 l1 l2 (uA ++ wA) bA (bA.length : Int) (wrap64 (dA + 1)) l0_0 l0_1) else (none))) else (none))) = some r := zh H; have FC := zQ zB; clear zB; replace H := zob H; obtain ⟨⟨cB, bB⟩, TD, H⟩ := H
            by_cases TC : sA.length < 8796093022208
            ·rw [if_pos TC] at H
             have JC := zQ TC; clear TC; obtain ⟨BA, yB⟩ : ∃ y_ : List (S147), y_ = (sA ++ [(⟨cB, bB⟩ : S147)]) := ⟨_, rfl⟩; replace H : ((some (([AA, BA] : List (List (S147))) : List (List (S147)))).bind fun wA => (if uA.length + wA.length < 5864062014805 then (impl_barRows.l0 k2 l1 l2 (uA ++ wA) bA (bA.length : Int) (wrap64 (dA + 1)) l0_0 l0_1) else (none))) = some r := zh H; have EC := zQ yB; clear yB; obtain ⟨wA, xB⟩ : ∃ y_ : List (List (S147)), y_ = (([AA, BA] : List (List (S147)))) := ⟨_, rfl⟩; replace H : (if uA.length + wA.length < 5864062014805 then (impl_barRows.l0 k2 l1 l2 (uA ++ wA) bA (bA.length : Int) (wrap64 (dA + 1)) l0_0 l0_1) else (none)) = some r := zh H; have OB := zQ xB; clear xB
             by_cases SC : uA.length + wA.length < 5864062014805
             ·rw [if_pos SC] at H
              have IC := zQ SC; clear SC; obtain ⟨kC, wB⟩ : ∃ y_ : List (List (S147)), y_ = (uA ++ wA) := ⟨_, rfl⟩; replace H : (impl_barRows.l0 k2 l1 l2 kC bA (bA.length : Int) (wrap64 (dA + 1)) l0_0 l0_1) = some r := zh H; have DC := zQ wB; clear wB; have H' := zQ H; clear H
              try go_wp2
              have n0_ := zQ (Kd.S_drew lA.out); have n1_ := zQ (Kd.R_drew oA.out); have n2_ := zQ (Kd.R_drew kA.out); have n3_ := zQ (Kd.R_drew cA.out); have n4_ := zQ (blk_drew aA.out); have n5_ := zQ (below_drew1 HB.out); clear lA; clear oA; clear kA; clear cA; clear aA; clear HB; have lA := n0_; have oA := n1_; have kA := n2_; have cA := n3_; have aA := n4_; have HB := n5_; clear n0_ n1_ n2_ n3_ n4_ n5_; have eC : 0 ≤ ((rd bA dA) : Int) := zD; have aC : (rd bA dA) < (l1.length : Int) := zD; obtain ⟨NA, lD, FA, EA⟩ := at_T113 CD.out (rd bA dA) eC aC; have iA := EA; have jA := FA
              cases lD
              replace FA := zw HB.out FA; replace EA := zw HB.out EA; replace eC := eq_true eC; replace aC := eq_true aC; have dC : 0 ≤ ((rd bA dA) : Int) := zD; have ZB : (rd bA dA) < (l1.length : Int) := zD; obtain ⟨CC, kD, DA, CA⟩ := at_T113 CD.out (rd bA dA) dC ZB; have fA := CA; have gA := DA; obtain rfl : NA = CC := (by injection kD); replace DA := zw HB.out DA; replace CA := zw HB.out CA; replace dC := eq_true dC; replace ZB := eq_true ZB
              refine zs (fun w' => w'.cell? (NA.add (((rd bA dA)).toNat * 2)) = some (.int .i64 ((rd_T113 l1 (rd bA dA)).f0)) ∧ w'.cell? ⟨(NA.add (((rd bA dA)).toNat * 2)).block, (NA.add (((rd bA dA)).toNat * 2)).off + 1, none⟩ = some (.int .i64 ((rd_T113 l1 (rd bA dA)).f1)) ∧ w'.cell? (NA.add (((rd bA dA)).toNat * 2)) = some (.int .i64 ((rd_T113 l1 (rd bA dA)).f0)) ∧ w'.cell? ⟨(NA.add (((rd bA dA)).toNat * 2)).block, (NA.add (((rd bA dA)).toNat * 2)).off + 1, none⟩ = some (.int .i64 ((rd_T113 l1 (rd bA dA)).f1))) [] 24 ⟨((HB.out.cell (World.block_lt_of_cell? w _ jA)).trans jA), ((HB.out.cell (World.block_lt_of_cell? w _ iA)).trans iA), ((HB.out.cell (World.block_lt_of_cell? w _ gA)).trans gA), ((HB.out.cell (World.block_lt_of_cell? w _ fA)).trans fA)⟩ (fun pA => ?_); refine with_tabW impl_barRows.tab13 impl_barRows.bits13 (fun HT_ HW_ => ?_)
              generalize wr.drew = dE at lA oA kA cA aA HB FA EA DA CA pA ⊢
              refine zp 0 54 ?_
              refine zp 1 55 ?_
              refine zp 2 56 ?_
              refine zp 3 57 ?_
              refine zp 4 58 ?_
              refine zp 5 59 ?_
              refine zp 11 65 ?_
              refine zp 12 66 ?_
              refine zp 13 67 ?_
              refine zp 14 68 ?_
              refine zp 15 69 ?_
              refine zt 6 60 pA ?_
              refine zp 7 61 ?_
              refine zt 16 70 pA ?_
              refine zp 17 71 ?_
              refine zo 8 (some 62) (fun K hK => ?_)
              refine goes_ Try.func136 (by kernel_rfl) rfl #[.int .i64 (wrap64 (-((rd_T113 l1 (rd bA dA)).f0))), .int .i64 1] (by rfl) rfl rfl zM ?_
              with_reducible refine (impl_fraction.calls k2 (wrap64 (-((rd_T113 l1 (rd bA dA)).f0))) 1 eB dB _ UD.out).mono ?_
              rintro e cE ⟨rfl, hb⟩
              refine ⟨_, rfl, ?_⟩
              have n0_ := zQ (Kd.S_below (zS lA.out) hb); have n1_ := zRb oA.out hb; have n2_ := zRb kA.out hb; have n3_ := zRb cA.out hb; have n4_ := zbl aA.out hb; have n5_ := zbs2 HB.out eA.out hb; clear lA; clear oA; clear kA; clear cA; clear aA; clear HB; have lA := n0_; have oA := n1_; have kA := n2_; have cA := n3_; have aA := n4_; have HB := n5_; clear n0_ n1_ n2_ n3_ n4_ n5_
              (try clear hb)
              (try clear tD)
              (try clear hk)
              (try clear hi)
              refine hK.out _ _ ⟨((HB.out.cell (World.block_lt_of_cell? w _ jA)).trans jA), ((HB.out.cell (World.block_lt_of_cell? w _ iA)).trans iA), ((HB.out.cell (World.block_lt_of_cell? w _ gA)).trans gA), ((HB.out.cell (World.block_lt_of_cell? w _ fA)).trans fA)⟩ (fun pA => ?_)
              clear hK K
              refine zn 62 ?_
              refine zo 9 (some 63) (fun K hK => ?_)
              refine value_ (w1 := ?_) (v := ?_) (by rfl) rfl ?_ ?_
              rotate_left 2
              ·go_simp
               constructor
               ·rfl
               ·rfl
              refine hK.out _ _ ⟨(World.cell?_alloc_lt _ _ _ (World.block_lt_of_cell? _ _ (((HB.out.cell (World.block_lt_of_cell? w _ jA)).trans jA)))).trans (((HB.out.cell (World.block_lt_of_cell? w _ jA)).trans jA)), (World.cell?_alloc_lt _ _ _ (World.block_lt_of_cell? _ _ (((HB.out.cell (World.block_lt_of_cell? w _ iA)).trans iA)))).trans (((HB.out.cell (World.block_lt_of_cell? w _ iA)).trans iA)), (World.cell?_alloc_lt _ _ _ (World.block_lt_of_cell? _ _ (((HB.out.cell (World.block_lt_of_cell? w _ gA)).trans gA)))).trans (((HB.out.cell (World.block_lt_of_cell? w _ gA)).trans gA)), (World.cell?_alloc_lt _ _ _ (World.block_lt_of_cell? _ _ (((HB.out.cell (World.block_lt_of_cell? w _ fA)).trans fA)))).trans (((HB.out.cell (World.block_lt_of_cell? w _ fA)).trans fA))⟩ (fun pA => ?_)
              clear hK K
              refine zn 63 ?_
              refine zo 10 (some 64) (fun K hK => ?_)
              refine Kd.R_append_step k147 (w0 := w) w.heap.size (by rfl) (.tmp 55) (.tmp 63) 145 147 (.agg #[(.int .i64 0), (.int .i64 0)]) 16 rfl Try.underlying145 info147 rfl (by decide) (by omega) u10 yA (⟨eB, dB⟩ : S147) [.int .i64 eB, .int .i64 dB] (fun k_ => (w.heap.size ≤ k_) ∧ some k_ ≠ (u11 : Value).ownBlock) (fun _ => False) rfl rfl ?aP (fun _ hk => hk.elim) ?aF ?aO ?aB ?aS ?aL ?_
              (case aP => exact k147_mkM _ _ _ (⟨eB, dB⟩ : S147))
              (case aB => exact (zB2 HB.out eA.out))
              (case aF => exact (fun k_ hk => ⟨(Nat.le_trans (below_size (zB2 HB.out eA.out)) hk), Kd.fresh' (Kd.R_lt (zR kA.out)) k_ hk⟩))
              (case aO => exact (zR oA.out))
              (case aS => exact (below_size (zB2 HB.out eA.out)))
              (case aL => have := KC.out; omega)
              intro oC bE ho hb hg hat
              rw [← FC.out] at ho; have n0_ := zQ (Kd.S_after (ok := (fun k_ => (w.heap.size ≤ k_) ∧ some k_ ≠ (u11 : Value).ownBlock ∧ some k_ ≠ (.slice (some rA) bA.length vA : Value).ownBlock ∧ k_ ≠ nA)) (by (with_reducible repeat (first | apply Kd.S_alloc | apply Kd.S_drewN | apply Kd.S_drew)); exact Kd.S_mono lA.out (fun _ hk => ⟨⟨hk.1, ⟨hk.2.2.1, ⟨hk.2.2.2.1, hk.2.2.2.2⟩⟩⟩, hk.2.1⟩)) hg hat); have n1_ := zQ (Kd.R_after (ok := (fun k_ => (w.heap.size ≤ k_))) (zR kA.out) hg hat); have n2_ := zQ (Kd.R_over' (zR cA.out) (Kd.R_typed (zR oA.out)) (by decide) hg); have n3_ := zQ (blk_grown (g := nA) (o := .cells #[.slice A0_0 l0_0.length c0_0, .slice A0_1 l0_1.length c0_1] 27 (0, 0)) (zb aA.out) hg (Kd.R_ne oA.out aA.out (by decide))); have n4_ := zQ (hb); have n5_ := zQ (ho); clear lA; clear kA; clear cA; clear aA; clear HB; clear oA; have lA := n0_; have kA := n1_; have cA := n2_; have aA := n3_; have HB := n4_; have tA := n5_; clear n0_ n1_ n2_ n3_ n4_ n5_; clear ho hb hg hat
              refine hK.out _ _ ⟨((HB.out.cell (World.block_lt_of_cell? w _ jA)).trans jA), ((HB.out.cell (World.block_lt_of_cell? w _ iA)).trans iA), ((HB.out.cell (World.block_lt_of_cell? w _ gA)).trans gA), ((HB.out.cell (World.block_lt_of_cell? w _ fA)).trans fA)⟩ (fun pA => ?_)
              clear hK K
              refine zn 64 ?_
              refine zo 18 (some 72) (fun K hK => ?_)
              refine goes_ Try.func136 (by kernel_rfl) rfl #[.int .i64 (wrap64 (-((rd_T113 l1 (rd bA dA)).f1))), .int .i64 1] (by rfl) rfl rfl zM ?_
              with_reducible refine (impl_fraction.calls k2 (wrap64 (-((rd_T113 l1 (rd bA dA)).f1))) 1 cB bB _ TD.out).mono ?_
              rintro e aE ⟨rfl, hb⟩
              refine ⟨_, rfl, ?_⟩
              have n0_ := zQ (Kd.S_below (zS lA.out) hb); have n1_ := zRb kA.out hb; have n2_ := zRb cA.out hb; have n3_ := zRb tA.out hb; have n4_ := zbl aA.out hb; have n5_ := zbs2 HB.out eA.out hb; clear lA; clear kA; clear cA; clear tA; clear aA; clear HB; have lA := n0_; have kA := n1_; have cA := n2_; have tA := n3_; have aA := n4_; have HB := n5_; clear n0_ n1_ n2_ n3_ n4_ n5_
              (try clear hb)
              (try clear tD)
              (try clear hk)
              (try clear hi)
              refine hK.out _ _ ⟨((HB.out.cell (World.block_lt_of_cell? w _ jA)).trans jA), ((HB.out.cell (World.block_lt_of_cell? w _ iA)).trans iA), ((HB.out.cell (World.block_lt_of_cell? w _ gA)).trans gA), ((HB.out.cell (World.block_lt_of_cell? w _ fA)).trans fA)⟩ (fun pA => ?_)
              clear hK K
              refine zn 72 ?_
              refine zo 19 (some 73) (fun K hK => ?_)
              refine value_ (w1 := ?_) (v := ?_) (by rfl) rfl ?_ ?_
              rotate_left 2
              ·go_simp
               constructor
               ·rfl
               ·rfl
              refine hK.out _ _ ⟨(World.cell?_alloc_lt _ _ _ (World.block_lt_of_cell? _ _ (((HB.out.cell (World.block_lt_of_cell? w _ jA)).trans jA)))).trans (((HB.out.cell (World.block_lt_of_cell? w _ jA)).trans jA)), (World.cell?_alloc_lt _ _ _ (World.block_lt_of_cell? _ _ (((HB.out.cell (World.block_lt_of_cell? w _ iA)).trans iA)))).trans (((HB.out.cell (World.block_lt_of_cell? w _ iA)).trans iA)), (World.cell?_alloc_lt _ _ _ (World.block_lt_of_cell? _ _ (((HB.out.cell (World.block_lt_of_cell? w _ gA)).trans gA)))).trans (((HB.out.cell (World.block_lt_of_cell? w _ gA)).trans gA)), (World.cell?_alloc_lt _ _ _ (World.block_lt_of_cell? _ _ (((HB.out.cell (World.block_lt_of_cell? w _ fA)).trans fA)))).trans (((HB.out.cell (World.block_lt_of_cell? w _ fA)).trans fA))⟩ (fun pA => ?_)
              clear hK K
              refine zn 73 ?_
              refine zo 20 (some 74) (fun K hK => ?_)
              refine Kd.R_append_step k147 (w0 := w) w.heap.size (by rfl) (.tmp 65) (.tmp 73) 145 147 (.agg #[(.int .i64 0), (.int .i64 0)]) 16 rfl Try.underlying145 info147 rfl (by decide) (by omega) u11 sA (⟨cB, bB⟩ : S147) [.int .i64 cB, .int .i64 bB] (fun k_ => (w.heap.size ≤ k_) ∧ some k_ ≠ (oC : Value).ownBlock) (fun _ => False) rfl rfl ?aP (fun _ hk => hk.elim) ?aF ?aO ?aB ?aS ?aL ?_
              (case aP => exact k147_mkM _ _ _ (⟨cB, bB⟩ : S147))
              (case aB => exact (zB2 HB.out eA.out))
              (case aF => exact (fun k_ hk => ⟨(Nat.le_trans (below_size (zB2 HB.out eA.out)) hk), Kd.fresh' (Kd.R_lt (zR tA.out)) k_ hk⟩))
              (case aO => exact (zR kA.out))
              (case aS => exact (below_size (zB2 HB.out eA.out)))
              (case aL => have := JC.out; omega)
              intro GD iC ho hb hg hat
              rw [← EC.out] at ho; have n0_ := zQ (Kd.S_after (ok := (fun k_ => (w.heap.size ≤ k_) ∧ some k_ ≠ (.slice (some rA) bA.length vA : Value).ownBlock ∧ some k_ ≠ (oC : Value).ownBlock ∧ k_ ≠ nA)) (by (with_reducible repeat (first | apply Kd.S_alloc | apply Kd.S_drewN | apply Kd.S_drew)); exact Kd.S_mono lA.out (fun _ hk => ⟨⟨hk.1.1, ⟨hk.1.2.2.1, ⟨hk.2, hk.1.2.2.2⟩⟩⟩, hk.1.2.1⟩)) hg hat); have n1_ := zQ (Kd.R_over' (zR cA.out) (Kd.R_typed (zR kA.out)) (by decide) hg); have n2_ := zQ (blk_grown (g := nA) (o := .cells #[.slice A0_0 l0_0.length c0_0, .slice A0_1 l0_1.length c0_1] 27 (0, 0)) (zb aA.out) hg (Kd.R_ne kA.out aA.out (by decide))); have n3_ := zQ (Kd.R_after (ok := (fun k_ => (w.heap.size ≤ k_))) (zR tA.out) hg hat); have n4_ := zQ (hb); have n5_ := zQ (ho); clear lA; clear cA; clear aA; clear tA; clear HB; clear kA; have lA := n0_; have cA := n1_; have aA := n2_; have tA := n3_; have HB := n4_; have TA := n5_; clear n0_ n1_ n2_ n3_ n4_ n5_; clear ho hb hg hat; obtain ⟨VA, QA, vC⟩ := Kd.R_slice tA.out
              (first | subst vC | (injection vC with f1_ f2_ f3_; have f4_ := f1_.symm; have f5_ := f3_.symm; clear f1_ f2_ f3_; subst f4_; subst f5_))
              obtain ⟨UA, PA, uC⟩ := Kd.R_slice TA.out
              (first | subst uC | (injection uC with f1_ f2_ f3_; have f4_ := f1_.symm; have f5_ := f3_.symm; clear f1_ f2_ f3_; subst f4_; subst f5_))
              refine hK.out _ _ ⟨((HB.out.cell (World.block_lt_of_cell? w _ jA)).trans jA), ((HB.out.cell (World.block_lt_of_cell? w _ iA)).trans iA), ((HB.out.cell (World.block_lt_of_cell? w _ gA)).trans gA), ((HB.out.cell (World.block_lt_of_cell? w _ fA)).trans fA)⟩ (fun pA => ?_)
              clear hK K
              refine zn 74 ?_
              refine zo 21 (some 75) (fun K hK => ?_)
              have hX_ := R_one147 tA.out; have hY_ := R_one147 TA.out
              have pX_ : ∀ k_, some k_ = (Value.slice VA AA.length QA).ownBlock → (fun k_ => (w.heap.size ≤ k_) ∧ some k_ ≠ (u7 : Value).ownBlock ∧ some k_ ≠ (.slice (some rA) bA.length vA : Value).ownBlock ∧ k_ ≠ nA) k_ := fun k_ hk_ => (Kd.R_mono (ok' := (fun k_ => (w.heap.size ≤ k_) ∧ some k_ ≠ (u7 : Value).ownBlock ∧ some k_ ≠ (.slice (some rA) bA.length vA : Value).ownBlock ∧ k_ ≠ nA)) (Kd.R_types (Kd.R_apart' (Kd.R_apart' (tA.out) (Kd.S_typed lA.out) (by decide)) (Kd.R_typed cA.out) (by decide)) aA.out (by decide)) (fun k_ hk => ⟨hk.1.1.1.1, ⟨hk.1.1.2, ⟨hk.1.2, hk.2⟩⟩⟩)).1 k_ hk_.symm
              have pY_ : ∀ k_, some k_ = (Value.slice UA BA.length PA).ownBlock → (fun k_ => (w.heap.size ≤ k_) ∧ some k_ ≠ (u7 : Value).ownBlock ∧ some k_ ≠ (.slice (some rA) bA.length vA : Value).ownBlock ∧ k_ ≠ nA) k_ := fun k_ hk_ => (Kd.R_mono (ok' := (fun k_ => (w.heap.size ≤ k_) ∧ some k_ ≠ (u7 : Value).ownBlock ∧ some k_ ≠ (.slice (some rA) bA.length vA : Value).ownBlock ∧ k_ ≠ nA)) (Kd.R_types (Kd.R_apart' (Kd.R_apart' (TA.out) (Kd.S_typed lA.out) (by decide)) (Kd.R_typed cA.out) (by decide)) aA.out (by decide)) (fun k_ hk => ⟨hk.1.1.1.1, ⟨hk.1.1.2, ⟨hk.1.2, hk.2⟩⟩⟩)).1 k_ hk_.symm
              have nXY_ : ∀ k_, some k_ = (Value.slice UA BA.length PA).ownBlock → some k_ ≠ (Value.slice VA AA.length QA).ownBlock := fun k_ hk_ => by first | exact (TA.out.1 k_ hk_.symm).2 | exact fun e_ => (tA.out.1 k_ e_.symm).2 hk_
              have fr_ : ∀ k_, iC.heap.size ≤ k_ → (fun k_ => (w.heap.size ≤ k_) ∧ some k_ ≠ (u7 : Value).ownBlock ∧ some k_ ≠ (.slice (some rA) bA.length vA : Value).ownBlock ∧ k_ ≠ nA) k_ := fun k_ hk => ⟨(Nat.le_trans (below_size (zB2 HB.out eA.out)) hk), Kd.fresh' (Kd.S_lt (zS lA.out)) k_ hk, Kd.fresh' (Kd.R_lt (zR cA.out)) k_ hk, Kd.freshB (g := nA) (o := .cells #[.slice A0_0 l0_0.length c0_0, .slice A0_1 l0_1.length c0_1] 27 (0, 0)) (zb aA.out) k_ hk⟩
              have pL_ := zQ (show ∀ k_, (fun k_ => (some k_ = (Value.slice VA AA.length QA).ownBlock ∨ some k_ = (Value.slice UA BA.length PA).ownBlock) ∨ iC.heap.size ≤ k_) k_ → (fun k_ => (w.heap.size ≤ k_) ∧ some k_ ≠ (u7 : Value).ownBlock ∧ some k_ ≠ (.slice (some rA) bA.length vA : Value).ownBlock ∧ k_ ≠ nA) k_ from fun k_ hk_ => hk_.elim (fun h_ => h_.elim (pX_ k_) (pY_ k_)) (fr_ k_))
              refine Kd.S_lits_step (Kd.slice 147 k147) (w0 := w) w.heap.size 145 (by rfl) (N := 75) ?hd (xs := ([AA, BA] : List (List (S147)))) (inner := [.slice VA AA.length QA, .slice UA BA.length PA]) (ok := (fun k_ => (some k_ = (Value.slice VA AA.length QA).ownBlock ∨ some k_ = (Value.slice UA BA.length PA).ownBlock) ∨ iC.heap.size ≤ k_)) (fun j_ k_ => (j_ = 0 ∧ some k_ = (Value.slice VA AA.length QA).ownBlock) ∨ (j_ = 1 ∧ some k_ = (Value.slice UA BA.length PA).ownBlock)) ?hr (by rfl) ?hp ?hap ?hok ?hfr ?hB ?hS (by simp) ?_; (case hd => rfl); (case hr => first | (go_simp; done) | (go_simp; rfl)); (case hB => exact (zB2 HB.out eA.out)); (case hS => exact below_size (zB2 HB.out eA.out)); (case hfr => exact Or.inr (Nat.le_refl _)); (case hok => exact fun j_ k_ hk_ => Or.inl (hk_.elim (fun h_ => Or.inl h_.2) (fun h_ => Or.inr h_.2))); (case hap => exact fun i_ j_ k_ h1_ h2_ => by rcases h1_ with h1_ | h1_ <;> rcases h2_ with h2_ | h2_ <;> first | omega | exact absurd h1_.2 (nXY_ k_ h2_.2) | exact absurd h2_.2 (nXY_ k_ h1_.2))
              case hp =>
               intro j_ x_ hx_
               match j_, hx_ with
               | 0, hx_ =>
                obtain rfl : AA = x_ := Option.some.inj hx_
                exact ⟨_, rfl, Kd.R_mono hX_ (fun _ hk_ => Or.inl ⟨rfl, hk_⟩)⟩
               | 1, hx_ =>
                obtain rfl : BA = x_ := Option.some.inj hx_
                exact ⟨_, rfl, Kd.R_mono hY_ (fun _ hk_ => Or.inr ⟨rfl, hk_⟩)⟩
               | j_ + 2, hx_ => exact absurd hx_ (by simp)
              intro FD ZD kB hb0_ hg_ hnew_
              have hb := pw_below_grown (Below.refl iC.heap.size iC) none (Nat.le_refl _) hg_ (by simp); clear hg_ hnew_ hb0_
              (first | rw [← OB.out] at kB | (simp only [Int.reduceToNat] at kB; rw [← OB.out] at kB))
              have n0_ := zQ (Kd.S_old (Kd.S_mono (ok' := fun k_ => ((w.heap.size ≤ k_) ∧ some k_ ≠ (.slice (some rA) bA.length vA : Value).ownBlock ∧ k_ ≠ nA) ∧ (some k_ ≠ (Value.slice VA AA.length QA).ownBlock ∧ some k_ ≠ (Value.slice UA BA.length PA).ownBlock)) lA.out (fun k_ hk => ⟨⟨hk.1.1, ⟨hk.1.2.1, hk.1.2.2.2⟩⟩, ⟨hk.1.2.2.1, hk.2⟩⟩)) hb); have n1_ := zRb cA.out hb; have n2_ := zQ kB; have n3_ := zbl aA.out hb; have n4_ := zbs2 HB.out eA.out hb; clear lA; clear cA; clear aA; clear HB; clear tA; clear TA; have lA := n0_; have cA := n1_; have qB := n2_; have aA := n3_; have HB := n4_; clear n0_ n1_ n2_ n3_ n4_; clear hb kB; obtain ⟨SD, QD, tC⟩ := Kd.S_slice qB.out
              (first | subst tC | (injection tC with f1_ f2_ f3_; have f4_ := f1_.symm; have f5_ := f3_.symm; clear f1_ f2_ f3_; subst f4_; subst f5_))
              refine hK.out _ _ ⟨((HB.out.cell (World.block_lt_of_cell? w _ jA)).trans jA), ((HB.out.cell (World.block_lt_of_cell? w _ iA)).trans iA), ((HB.out.cell (World.block_lt_of_cell? w _ gA)).trans gA), ((HB.out.cell (World.block_lt_of_cell? w _ fA)).trans fA)⟩ (fun pA => ?_)
              clear hK K
              refine zn 75 ?_
              refine zo 22 (some 76) (fun K hK => ?_)
              refine S_append_rows_step (Kd.slice 147 k147) (w0 := w) w.heap.size (by rfl) (.tmp 54) (.tmp 75) 140 145 145 (.slice none 0 0) 24 rfl Try.underlying140 info145 rfl (by decide) (by omega) u7 uA wA _ _ _ (fun k_ => (w.heap.size ≤ k_) ∧ some k_ ≠ (.slice (some rA) bA.length vA : Value).ownBlock ∧ k_ ≠ nA) (fun k_ => (some k_ = (Value.slice VA AA.length QA).ownBlock ∨ some k_ = (Value.slice UA BA.length PA).ownBlock) ∨ iC.heap.size ≤ k_) rfl rfl ?aO qB.out (fun k_ hk_ => ⟨⟨(pL_.out k_ hk_).1, (pL_.out k_ hk_).2.2⟩, (pL_.out k_ hk_).2.1⟩) ?aF ?aB ?aS ?aL ?_
              (case aB => exact (zB2 HB.out eA.out))
              (case aF => exact (fun k_ hk => ⟨(Nat.le_trans (below_size (zB2 HB.out eA.out)) hk), Kd.fresh' (Kd.R_lt (zR cA.out)) k_ hk, Kd.freshB (g := nA) (o := .cells #[.slice A0_0 l0_0.length c0_0, .slice A0_1 l0_1.length c0_1] 27 (0, 0)) (zb aA.out) k_ hk⟩))
              (case aO => exact Kd.S_mono lA.out (fun k_ hk => ⟨hk.1.1, fun h_ => h_.elim (fun h2_ => h2_.elim hk.1.2.1 hk.1.2.2) (fun h2_ => Nat.lt_irrefl _ (Nat.lt_of_lt_of_le hk.2 h2_))⟩))
              (case aS => exact (below_size (zB2 HB.out eA.out)))
              (case aL => have := IC.out; omega)
              intro eD YD ho hb hg hat
              rw [← DC.out] at ho; have n0_ := zQ (Kd.R_over' (zR cA.out) (Kd.S_typed (zS lA.out)) (by decide) hg); have n1_ := zQ (blk_grown (g := nA) (o := .cells #[.slice A0_0 l0_0.length c0_0, .slice A0_1 l0_1.length c0_1] 27 (0, 0)) (zb aA.out) hg (Kd.S_ne lA.out aA.out (by decide))); have n2_ := zQ (show eD.ownBlock ≠ none from hat.elim (fun e_ => by rw [e_]; exact HN7.out) (fun ⟨b_, e_, _⟩ => by rw [e_]; exact Option.some_ne_none _)); have n3_ := zQ (hb); have n4_ := zQ (ho); clear cA; clear aA; clear qB; clear HB; clear lA; have cA := n0_; have aA := n1_; have HN8 := n2_; have HB := n3_; have NC := n4_; clear n0_ n1_ n2_ n3_ n4_; clear ho hb hg hat
              refine hK.out _ _ ⟨((HB.out.cell (World.block_lt_of_cell? w _ jA)).trans jA), ((HB.out.cell (World.block_lt_of_cell? w _ iA)).trans iA), ((HB.out.cell (World.block_lt_of_cell? w _ gA)).trans gA), ((HB.out.cell (World.block_lt_of_cell? w _ fA)).trans fA)⟩ (fun pA => ?_)
              clear hK K
              refine zn 76 ?_
              refine zp 23 7 ?_
              refine done_ (done_of HT_.out (by kernel_rfl)) ?_
              try go_wp2
              go_roundg k2
              case measure => have := dD.out; have := HK2.out; omega
              case rel => exact ⟨(kC), (wrap64 (dA + 1)), (zF), H', ⟨by have := dD.out; have := HK2.out; omega⟩, ⟨zS NC.out⟩, ⟨zR cA.out⟩, ⟨zb aA.out⟩, ⟨zB2 HB.out eA.out⟩, HN8⟩
             ·rw [if_neg SC] at H
              exact absurd H (by simp)
            ·rw [if_neg TC] at H
             exact absurd H (by simp)
           ·rw [if_neg UC] at H
            exact absurd H (by simp)
          ·rw [if_neg VC] at H
           exact absurd H (by simp)
         ·rw [if_neg WC] at H
          exact absurd H (by simp)
     ·rw [if_neg yC] at H
      exact absurd H (by simp)
    ·rw [if_neg BC] at H
     exact absurd H (by simp)
   ·rw [if_neg hC] at H
    have KB := decide_eq_false hC; clear hC; obtain rfl := Option.some.inj H
    go_wp2
    go_ret
    exact ⟨_, zE, HN7.out, by (with_reducible repeat (first | apply Kd.S_alloc | apply Kd.S_drewN | apply Kd.S_drew)); exact Kd.S_mono lA.out (fun _ hk => hk.1), zB2 HB.out eA.out⟩

end
end Go.Proofs.Ytimjblgepbhoaaa.PStays

