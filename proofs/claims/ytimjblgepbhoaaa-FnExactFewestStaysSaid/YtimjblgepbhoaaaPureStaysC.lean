import Derived.Test.YtimjblgepbhoaaaHStays0
import Derived.Test.YtimjblgepbhoaaaPlain
import Derived.Test.YtimjblgepbhoaaaHStaysn
import Derived.Test.YtimjblgepbhoaaaPureStaysA
namespace Go.Proofs.Ytimjblgepbhoaaa.Pure
open Go.RowKit Go.Proofs.Ytimjblgepbhoaaa.PStays Go.Proofs.Ytimjblgepbhoaaa.Plain Go.Proofs.YtimjblgepbhoaaaW.PrintWords Go.Proofs.YtimjblgepbhoaaaW.PrintMore
set_option linter.unusedVariables false
set_option linter.unusedSimpArgs false
theorem holdE {kn : List S164} {br : List S115} {ld : List S113} {bs : List Int} (f : FrOk kn br) (l : LdOk kn ld) (b : BsOk br bs) (hb : bs.length ≤ 8) :
  ∃ (ri rs : List Int × Int × Bool), Ev (fun k => impl_holdsAlone.f k kn br ld bs) ri ∧ Ev (fun k => spec_l11Holds.f k kn br ld bs) rs ∧ ri.2.2 = rs.2.2 ∧ (ri.2.2 = true → ri = rs ∧ ri.1.length = br.length) := by
 obtain ⟨r, h1, h2, h3, h4⟩ := solveE f l b hb
 have hb8 := f.b8
 unfold impl_holdsAlone.f spec_l11Holds.f
 cases hr : r.2.2 with
 | false =>
  have e := h4 hr
  refine ⟨(r.1, r.2.1, false), ([], 0, false), ?_, ?_, rfl, fun h => (Bool.false_ne_true h).elim⟩
  ·exact ev_bind h1 (ev_if_neg (by rw [hr]; exact Bool.false_ne_true) (ev_now fun _ => rfl))
  ·exact ev_bind h2 (ev_if_neg (by rw [hr]; exact Bool.false_ne_true) (ev_now fun _ => rfl))
 | true =>
  have hl := (h3 hr).1
  have p1 := pushI kn r.2.1 (br := br) (nums := r.1) (by omega) hl
  have p2 := pushS kn r.2.1 (br := br) (nums := r.1) (by omega) hl
  by_cases hp : (puU br r.1 br.length).length = 0
  ·refine ⟨(r.1, r.2.1, true), (r.1, r.2.1, true), ?_, ?_, rfl, fun _ => ⟨rfl, hl⟩⟩
   ·refine ev_bind h1 (ev_if_pos hr (ev_bind p1 (ev_now fun _ => ?_)))
    rw [hp]; rfl
   ·exact ev_bind h2 (ev_if_pos hr (ev_bind p2 (ev_if_neg (by omega) (ev_now fun _ => rfl))))
  ·refine ⟨(r.1, r.2.1, false), ([], 0, false), ?_, ?_, rfl, fun h => (Bool.false_ne_true h).elim⟩
   ·refine ev_bind h1 (ev_if_pos hr (ev_bind p1 (ev_now fun _ => ?_)))
    rw [beq_eq_false_iff_ne.mpr (show ((puU br r.1 br.length).length : Int) ≠ 0 by omega)]
   ·exact ev_bind h2 (ev_if_pos hr (ev_bind p2 (ev_if_pos (by omega) (ev_now fun _ => rfl))))
def Holds (kn : List S164) (br : List S115) (ld : List S113) (bs : List Int) : Prop := ∃ r, Ev (fun k => spec_l11Holds.f k kn br ld bs) r ∧ r.2.2 = true
theorem ev_uniq {α : Type} {g : Nat → Option α} {r r' : α} (h : Ev g r) (h' : Ev g r') : r = r' := by
 obtain ⟨a, ha⟩ := h
 obtain ⟨b, hb⟩ := h'
 have h1 := ha (max a b) (by omega)
 have h2 := hb (max a b) (by omega)
 rw [h1] at h2
 exact Option.some.inj h2
def sel : List Int → Nat → List Int
 | [], _ => []
 | x :: l, t => if t % 2 = 1 then x :: sel l (t / 2) else sel l (t / 2)
theorem sel_sub : ∀ (l : List Int) (t : Nat), (sel l t).Sublist l
 | [], _ => List.Sublist.refl _
 | x :: l, t => by
  unfold sel
  split
  ·exact (sel_sub l (t / 2)).cons_cons x
  ·exact (sel_sub l (t / 2)).cons x
theorem sub_sel {u l : List Int} (h : u.Sublist l) : ∃ t, t < 2 ^ l.length ∧ sel l t = u := by
 induction h with
 | slnil => exact ⟨0, by decide, rfl⟩
 | @cons u l x _ ih =>
  obtain ⟨t, h1, h2⟩ := ih
  refine ⟨2 * t, by rw [List.length_cons, Nat.pow_succ]; omega, ?_⟩
  unfold sel
  rw [if_neg (by omega), show 2 * t / 2 = t from by omega]
  exact h2
 | @cons_cons u l x _ ih =>
  obtain ⟨t, h1, h2⟩ := ih
  refine ⟨2 * t + 1, by rw [List.length_cons, Nat.pow_succ]; omega, ?_⟩
  unfold sel
  rw [if_pos (by omega), show (2 * t + 1) / 2 = t from by omega, h2]
theorem combs_sub (bs : List Int) : ∀ (m : Nat) (list : List Int) (i : Nat) (s : List Int), s ∈ combs bs m list i → ∃ u, u.Sublist (bs.drop i) ∧ s = list ++ u
 | 0, list, i, s, h => ⟨[], List.nil_sublist _, by simp only [combs, List.mem_singleton] at h; simp [h]⟩
 | m + 1, list, i, s, h => by
  unfold combs at h
  obtain ⟨j, hj, hs⟩ := List.mem_flatMap.1 h
  obtain ⟨u, hu, rfl⟩ := combs_sub bs m _ (j + 1) s hs
  rw [List.mem_range'_1] at hj
  refine ⟨bs.getD j 0 :: u, ?_, by simp⟩
  have hjl : j < bs.length := by omega
  have e : bs.drop j = bs.getD j 0 :: bs.drop (j + 1) := by
   rw [List.drop_eq_getElem_cons hjl, List.getD_eq_getElem?_getD, List.getElem?_eq_getElem hjl]; rfl
  have h1 : (bs.getD j 0 :: u).Sublist (bs.drop j) := by rw [e]; exact hu.cons_cons _
  have h2 : (bs.drop j).Sublist (bs.drop i) := by
   rw [show j = i + (j - i) from by omega, ← List.drop_drop]
   exact List.drop_sublist _ _
  exact h1.trans h2
theorem sub_combs (bs : List Int) : ∀ (u : List Int) (list : List Int) (i : Nat), u.Sublist (bs.drop i) → list ++ u ∈ combs bs u.length list i
 | [], list, i, _ => by simp [combs]
 | x :: u, list, i, h => by
  rw [List.length_cons]
  unfold combs
  have key : ∀ q i, bs.length - i = q → (x :: u).Sublist (bs.drop i) → ∃ j, i ≤ j ∧ j < bs.length ∧ bs.getD j 0 = x ∧ u.Sublist (bs.drop (j + 1)) := by
   intro q
   induction q with
   | zero =>
    intro i hi h
    rw [List.drop_eq_nil_of_le (by omega)] at h
    exact absurd h (by simp)
   | succ q ih =>
    intro i hi h
    have hil : i < bs.length := by omega
    rw [List.drop_eq_getElem_cons hil] at h
    rcases List.sublist_cons_iff.1 h with h1 | ⟨r, h1, h2⟩
    ·obtain ⟨j, a, b, c, d⟩ := ih (i + 1) (by omega) h1
     exact ⟨j, by omega, b, c, d⟩
    ·injection h1 with h1 h3
     subst h3
     exact ⟨i, Nat.le_refl i, hil, by rw [List.getD_eq_getElem?_getD, List.getElem?_eq_getElem hil]; exact h1.symm, h2⟩
  obtain ⟨j, h1, h2, h3, h4⟩ := key _ i rfl h
  have hlen := h4.length_le
  rw [List.length_drop] at hlen
  refine List.mem_flatMap.2 ⟨j, ?_, ?_⟩
  ·rw [List.mem_range'_1]; omega
  ·rw [h3]
   have := sub_combs bs u (list ++ [x]) (j + 1) h4
   simpa using this
theorem bars_sub {bs s : List Int} : s ∈ barsOf bs ↔ s.Sublist bs := by
 unfold barsOf
 constructor
 ·intro h
  obtain ⟨n, _, hs⟩ := List.mem_flatMap.1 h
  obtain ⟨u, hu, rfl⟩ := combs_sub bs n [] 0 s hs
  simpa using hu
 ·intro h
  refine List.mem_flatMap.2 ⟨s.length, List.mem_range.2 (by have := h.length_le; omega), ?_⟩
  have := sub_combs bs s [] 0 (by simpa using h)
  simpa using this
theorem barsOf_len {bs : List Int} (h : bs.length ≤ 8) : (barsOf bs).length ≤ 1048576 := by
 unfold barsOf
 have key : ∀ n, ((List.range n).flatMap (fun m => combs bs m [] 0)).length ≤ n * 2 ^ bs.length := by
  intro n
  induction n with
  | zero => simp
  | succ n ih =>
   rw [List.range_succ, List.flatMap_append, List.length_append, Nat.succ_mul]
   have := combs_len bs n [] 0 (by omega)
   simp only [List.flatMap_cons, List.flatMap_nil, List.append_nil]
   rw [Nat.sub_zero] at this
   omega
 have h1 := key (bs.length + 1)
 have h2 : 2 ^ bs.length ≤ 2 ^ 8 := Nat.pow_le_pow_right (by omega) h
 have h3 : (bs.length + 1) * 2 ^ bs.length ≤ 9 * 2 ^ 8 := Nat.mul_le_mul (by omega) h2
 have h4 : (9 : Nat) * 2 ^ 8 = 2304 := by decide
 omega
theorem sel_snoc : ∀ (l : List Int) (x : Int) (t : Nat), sel (l ++ [x]) t = sel l t ++ (if t / 2 ^ l.length % 2 = 1 then [x] else [])
 | [], x, t => by simp [sel]
 | y :: l, x, t => by
  rw [List.cons_append]
  unfold sel
  rw [sel_snoc l x (t / 2), List.length_cons, Nat.pow_succ, Nat.mul_comm, ← Nat.div_div_eq_div_mul]
  split <;> simp
theorem bit_ok : ∀ (t : Fin 256) (i : Fin 8), (Go.bits .and .i64 (shr .i64 ((t.val : Nat) : Int) (IntKind.u64.wrap ((i.val : Nat) : Int))) 1 = 1) ↔ t.val / 2 ^ i.val % 2 = 1 := by decide +kernel
theorem bit_is {t i : Nat} (ht : t < 256) (hi : i < 8) : (Go.bits .and .i64 (shr .i64 (t : Int) (IntKind.u64.wrap (i : Int))) 1 = 1) ↔ t / 2 ^ i % 2 = 1 := bit_ok ⟨t, ht⟩ ⟨i, hi⟩
theorem u64_ok : ∀ i : Fin 9, 0 ≤ IntKind.u64.wrap ((i.val : Nat) : Int) ∧ shl .i64 1 (IntKind.u64.wrap ((i.val : Nat) : Int)) = ((2 ^ i.val : Nat) : Int) := by decide +kernel
theorem u64_is {n : Nat} (h : n ≤ 8) : 0 ≤ IntKind.u64.wrap (n : Int) ∧ shl .i64 1 (IntKind.u64.wrap (n : Int)) = ((2 ^ n : Nat) : Int) := u64_ok ⟨n, by omega⟩
theorem pow8 {n : Nat} (h : n ≤ 8) : 2 ^ n ≤ 256 := Nat.le_trans (Nat.pow_le_pow_right (by omega) h) (by decide)
theorem partE {bs : List Int} {t : Nat} (hb : bs.length ≤ 8) (ht : t < 2 ^ bs.length) : Ev (fun k => spec_l11Part.f k bs (t : Int)) (sel bs t) := by
 have h256 := pow8 hb
 unfold spec_l11Part.f
 refine loop_up' (fun k i => spec_l11Part.l0 k bs (t : Int) (sel (bs.take i) t) (i : Int)) bs.length _ (fun _ => True) (fun i hi _ => .inl ⟨trivial, fun hn => ?_⟩) (fun _ => ?_) bs.length 0 (by omega) (by omega) trivial
 ·refine ev_succ ?_
  simp only [spec_l11Part.l0]
  have hl : (sel (bs.take i) t).length ≤ 8 := by
   have := (sel_sub (bs.take i) t).length_le
   rw [List.length_take] at this
   omega
  have e : sel (bs.take (i + 1)) t = sel (bs.take i) t ++ (if t / 2 ^ i % 2 = 1 then [bs.getD i 0] else []) := by
   rw [List.take_succ_eq_append_getElem hi, sel_snoc, List.length_take, Nat.min_eq_left (by omega), List.getD_eq_getElem?_getD, List.getElem?_eq_getElem hi]
   rfl
  rw [e] at hn
  rw [succ_cast i (by omega), rd_nat]
  refine ev_if_pos (by omega) (ev_if_pos (u64_is (by omega)).1 ?_)
  by_cases h1 : t / 2 ^ i % 2 = 1
  ·rw [if_pos h1] at hn
   exact ev_if_pos ((bit_is (by omega) (by omega)).2 h1) (ev_if_pos (by omega) (ev_if_pos (by omega) hn))
  ·rw [if_neg h1, List.append_nil] at hn
   exact ev_if_neg (fun h => h1 ((bit_is (by omega) (by omega)).1 h)) hn
 ·refine ev_succ ?_
  simp only [spec_l11Part.l0]
  rw [List.take_length]
  exact ev_if_neg (by omega) (ev_now fun _ => rfl)
end Go.Proofs.Ytimjblgepbhoaaa.Pure

