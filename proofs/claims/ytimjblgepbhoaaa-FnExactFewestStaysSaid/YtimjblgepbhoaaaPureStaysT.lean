import Derived.Test.YtimjblgepbhoaaaHStays0
import Derived.Test.YtimjblgepbhoaaaPlain
import Derived.Test.YtimjblgepbhoaaaHStayszt
import Derived.Test.YtimjblgepbhoaaaPureStaysA
import Derived.Test.YtimjblgepbhoaaaPureStaysC
import Derived.Test.YtimjblgepbhoaaaPureStaysE
import Derived.Test.YtimjblgepbhoaaaPureStaysF
import Derived.Test.YtimjblgepbhoaaaPureStaysW
namespace Go.Proofs.Ytimjblgepbhoaaa.Pure
open Go.RowKit Go.Proofs.Ytimjblgepbhoaaa.PStays Go.Proofs.Ytimjblgepbhoaaa.Plain Go.Proofs.YtimjblgepbhoaaaW.PrintWords Go.Proofs.YtimjblgepbhoaaaW.PrintMore
set_option linter.unusedVariables false
set_option linter.unusedSimpArgs false
def tb (N : Nat) (f : Nat → Bool) : List Bool := (List.range N).map f
theorem tb_len (N : Nat) (f : Nat → Bool) : (tb N f).length = N := by simp [tb]
theorem tb_at {N : Nat} {f : Nat → Bool} {t : Nat} (h : t < N) : rdOf false (tb N f) (t : Int) = f t := by
 show (tb N f).getD (Int.toNat (t : Int)) false = _
 rw [Int.toNat_natCast, List.getD_eq_getElem?_getD, List.getElem?_eq_getElem (by rw [tb_len]; exact h)]
 simp [tb]
theorem tb_congr {N : Nat} {f g : Nat → Bool} (h : ∀ u, u < N → f u = g u) : tb N f = tb N g := List.map_congr_left (fun u hu => h u (List.mem_range.1 hu))
theorem tb_set (N : Nat) (f : Nat → Bool) (t : Nat) (v : Bool) : (tb N f).set t v = tb N (fun u => if u = t then v else f u) := by
 apply List.ext_getElem
 ·simp [tb]
 ·intro i h1 h2
  simp only [tb, List.getElem_set, List.getElem_map, List.getElem_range]
  by_cases e : t = i
  ·rw [if_pos e, if_pos e.symm]
  ·rw [if_neg e, if_neg (fun h => e h.symm)]
theorem bit_le {t k : Nat} (h : t / 2 ^ k % 2 = 1) : 2 ^ k ≤ t := by
 rcases Nat.lt_or_ge t (2 ^ k) with h1 | h1
 ·rw [Nat.div_eq_of_lt h1] at h; omega
 ·exact h1
theorem bit_half {t k : Nat} (h : t / 2 ^ (k + 1) % 2 = 1) : t / 2 / 2 ^ k % 2 = 1 ∧ (t - 2 ^ (k + 1)) % 2 = t % 2 ∧ (t - 2 ^ (k + 1)) / 2 = t / 2 - 2 ^ k := by
 have h1 := bit_le h
 rw [Nat.pow_succ] at h h1 ⊢
 refine ⟨?_, by omega, by omega⟩
 rw [Nat.mul_comm, ← Nat.div_div_eq_div_mul] at h
 exact h
theorem selsub : ∀ (l : List Int) (t k : Nat), t / 2 ^ k % 2 = 1 → (sel l (t - 2 ^ k)).Sublist (sel l t)
 | [], _, _, _ => List.Sublist.refl _
 | x :: l, t, 0, h => by
  have h1 : t % 2 = 1 := by simpa using h
  simp only [sel]
  rw [if_pos h1, if_neg (by simp; omega), show (t - 2 ^ 0) / 2 = t / 2 from by simp; omega]
  exact List.sublist_cons_self _ _
 | x :: l, t, k + 1, h => by
  obtain ⟨h1, h2, h3⟩ := bit_half h
  have ih := selsub l (t / 2) k h1
  simp only [sel]
  rw [h2, h3]
  by_cases e : t % 2 = 1
  ·rw [if_pos e, if_pos e]; exact ih.cons_cons x
  ·rw [if_neg e, if_neg e]; exact ih
theorem subsel : ∀ (l : List Int) (t : Nat) (s : List Int), s.Sublist (sel l t) → s = sel l t ∨ ∃ k, k < l.length ∧ t / 2 ^ k % 2 = 1 ∧ s.Sublist (sel l (t - 2 ^ k))
 | [], t, s, h => .inl (by simpa [sel] using h)
 | x :: l, t, s, h => by
  have up : ∀ (s' : List Int), (∃ k, k < l.length ∧ t / 2 / 2 ^ k % 2 = 1 ∧ s'.Sublist (sel l (t / 2 - 2 ^ k))) → ∃ k, k < l.length ∧ t / 2 ^ (k + 1) % 2 = 1 ∧ s'.Sublist (sel l ((t - 2 ^ (k + 1)) / 2)) ∧ (t - 2 ^ (k + 1)) % 2 = t % 2 := fun s' ⟨k, h1, h2, h3⟩ => by
   have h4 : t / 2 ^ (k + 1) % 2 = 1 := by rw [Nat.pow_succ, Nat.mul_comm, ← Nat.div_div_eq_div_mul]; exact h2
   obtain ⟨_, h5, h6⟩ := bit_half h4
   exact ⟨k, h1, h4, by rw [h6]; exact h3, h5⟩
  simp only [sel] at h ⊢
  by_cases e : t % 2 = 1
  ·rw [if_pos e] at h ⊢
   rcases List.sublist_cons_iff.1 h with h1 | ⟨r, h1, h2⟩
   ·refine .inr ⟨0, by simp, by simpa using e, ?_⟩
    rw [if_neg (by simp; omega), show (t - 2 ^ 0) / 2 = t / 2 from by simp; omega]
    exact h1
   ·subst h1
    rcases subsel l (t / 2) r h2 with h3 | h3
    ·exact .inl (by rw [h3])
    ·obtain ⟨k, k1, k2, k3, k4⟩ := up r h3
     refine .inr ⟨k + 1, by simp; omega, k2, ?_⟩
     rw [if_pos (k4.trans e)]
     exact k3.cons_cons x
  ·rw [if_neg e] at h ⊢
   rcases subsel l (t / 2) s h with h3 | h3
   ·exact .inl h3
   ·obtain ⟨k, k1, k2, k3, k4⟩ := up s h3
    refine .inr ⟨k + 1, by simp; omega, k2, ?_⟩
    rw [if_neg (by rw [k4]; exact e)]
    exact k3
open Classical in
theorem canB_iff {kn : List S164} {br : List S115} {ld : List S113} {bs : List Int} : canB kn br ld bs = true ↔ ∃ s, s.Sublist bs ∧ Holds kn br ld s := by
 unfold canB
 exact decide_eq_true_iff
theorem cb_dp (kn : List S164) (br : List S115) (ld : List S113) (al : List Int) (t : Nat) (h : Bool) (hh : h = true ↔ Holds kn br ld (sel al t)) :
  canB kn br ld (sel al t) = (h || (List.range al.length).any (fun k => decide (t / 2 ^ k % 2 = 1) && canB kn br ld (sel al (t - 2 ^ k)))) := by
 rw [Bool.eq_iff_iff, Bool.or_eq_true, List.any_eq_true, canB_iff]
 constructor
 ·rintro ⟨s, h1, h2⟩
  rcases subsel al t s h1 with e | ⟨k, k1, k2, k3⟩
  ·exact .inl (hh.2 (e ▸ h2))
  ·exact .inr ⟨k, List.mem_range.2 k1, by rw [Bool.and_eq_true]; exact ⟨decide_eq_true k2, canB_iff.2 ⟨s, k3, h2⟩⟩⟩
 ·rintro (h1 | ⟨k, _, k2⟩)
  ·exact ⟨_, List.Sublist.refl _, hh.1 h1⟩
  ·rw [Bool.and_eq_true] at k2
   obtain ⟨s, s1, s2⟩ := canB_iff.1 k2.2
   exact ⟨s, s1.trans (selsub al t k (of_decide_eq_true k2.1)), s2⟩
theorem tabL3 {kn : List S164} {br : List S115} {w : List (List S113)} {al : List Int} {N j t : Nat} {o g cb : Nat → Bool} {h : Bool} {R : List Bool} (hN : N ≤ 256) (hal : al.length ≤ 8) (ht : t < N) (hg : ∀ u, u < t → g u = cb u)
  (hcb : cb t = (h || (List.range al.length).any (fun k => decide (t / 2 ^ k % 2 = 1) && cb (t - 2 ^ k))))
  (next : Ev (fun k => spec_l11Table.l2 k w al (N : Int) (if cb t = true then tb N o else (tb N o).set t false) (j : Int) (tb N (fun u => if u = t then cb t else g u)) ((t + 1 : Nat) : Int) kn br) R) :
  ∀ m q, q + m = al.length → Ev (fun k => spec_l11Table.l3 k w al (N : Int) (tb N o) (j : Int) (tb N (fun u => if u = t then (h || (List.range q).any (fun k => decide (t / 2 ^ k % 2 = 1) && cb (t - 2 ^ k))) else g u)) (t : Int) (q : Int) kn br) R := by
 intro m
 induction m with
 | zero =>
  intro q hq
  have hq : q = al.length := by omega
  subst hq
  rw [← hcb]
  refine ev_succ ?_
  simp only [spec_l11Table.l3]
  rw [tb_len, tb_len, tb_at ht, Int.toNat_natCast, succ_cast t (by omega)]
  refine ev_if_neg (by omega) (ev_if_pos (by omega) (ev_if_pos (by omega) ?_))
  rw [if_pos rfl]
  by_cases c : cb t = true
  ·rw [if_pos c] at next
   exact ev_if_pos c next
  ·rw [if_neg c] at next
   exact ev_if_neg c (ev_if_pos (by omega) next)
 | succ m ih =>
  intro q hq
  have hn := ih (q + 1) (by omega)
  have hu := u64_is (n := q) (by omega)
  have hv : (List.range (q + 1)).any (fun k => decide (t / 2 ^ k % 2 = 1) && cb (t - 2 ^ k)) = ((List.range q).any (fun k => decide (t / 2 ^ k % 2 = 1) && cb (t - 2 ^ k)) || (decide (t / 2 ^ q % 2 = 1) && cb (t - 2 ^ q))) := by
   rw [List.range_succ, List.any_append]; simp
  rw [hv] at hn
  generalize (List.range q).any (fun k => decide (t / 2 ^ k % 2 = 1) && cb (t - 2 ^ k)) = V at hn ⊢
  have hq8 : q < 8 := by omega
  have hbit := bit_is (t := t) (i := q) (by omega) hq8
  refine ev_succ ?_
  simp only [spec_l11Table.l3]
  rw [succ_cast q (by omega), hu.2]
  refine ev_if_pos (by omega) (ev_if_pos hu.1 ?_)
  by_cases c1 : t / 2 ^ q % 2 = 1
  ·have hle := bit_le c1
   have hpos : 0 < 2 ^ q := Nat.two_pow_pos q
   rw [decide_eq_true c1, Bool.true_and] at hn
   generalize 2 ^ q = p at hle hpos hn
   have hw : wrap64 ((t : Int) - (p : Int)) = ((t - p : Nat) : Int) := by rw [wrap_self (by omega)]; omega
   rw [hw, tb_len, tb_at (show t - p < N from by omega), if_neg (show ¬ t - p = t from by omega), hg _ (by omega)]
   refine ev_if_pos (hbit.2 c1) (ev_if_pos (by omega) (ev_if_pos (by omega) ?_))
   by_cases c2 : cb (t - p) = true
   ·rw [c2, Bool.or_true, Bool.or_true] at hn
    have e1 : (tb N (fun u => if u = t then (h || V) else g u)).set t true = tb N (fun u => if u = t then true else g u) := by
     rw [tb_set]
     exact tb_congr (fun u _ => by by_cases e : u = t <;> simp [e])
    rw [Int.toNat_natCast, e1]
    exact ev_if_pos c2 (ev_if_pos (by omega) (ev_if_pos (by omega) hn))
   ·rw [Bool.not_eq_true] at c2
    rw [c2, Bool.or_false] at hn
    exact ev_if_neg (by rw [c2]; exact Bool.false_ne_true) hn
  ·rw [decide_eq_false c1, Bool.false_and, Bool.or_false] at hn
   exact ev_if_neg (fun e => c1 (hbit.1 e)) hn
theorem tabL2 {kn : List S164} {br : List S115} {w : List (List S113)} {al : List Int} {N j : Nat} {o : Nat → Bool} {R : List Bool} (f : FrOk kn br) (b : BsOk br al) (hal : al.length ≤ 8) (hN : N = 2 ^ al.length) (hj : j < w.length) (l : LdOk kn w[j])
  (next : Ev (fun k => spec_l11Table.l1 k w al (N : Int) (tb N (fun u => o u && canB kn br w[j] (sel al u))) (wrap64 ((j : Int) + 1)) kn br) R) :
  ∀ m t, t + m = N → Ev (fun k => spec_l11Table.l2 k w al (N : Int) (tb N (fun u => if u < t then o u && canB kn br w[j] (sel al u) else o u)) (j : Int) (tb N (fun u => if u < t then canB kn br w[j] (sel al u) else false)) (t : Int) kn br) R := by
 have hN8 : N ≤ 256 := by rw [hN]; exact pow8 hal
 intro m
 induction m with
 | zero =>
  intro t ht
  refine ev_succ ?_
  simp only [spec_l11Table.l2]
  refine ev_if_neg (by omega) ?_
  have e1 : tb N (fun u => if u < t then o u && canB kn br w[j] (sel al u) else o u) = tb N (fun u => o u && canB kn br w[j] (sel al u)) := tb_congr (fun u hu => if_pos (by omega))
  rw [e1]
  exact next
 | succ m ih =>
  intro t ht
  have htN : t < N := by omega
  have hn := ih (t + 1) (by omega)
  have hs := sel_sub al t
  obtain ⟨ri, rs, _, h2, _, _⟩ := holdE f l (b.sub hs) (by have := hs.length_le; omega)
  have hH : rs.2.2 = true ↔ Holds kn br w[j] (sel al t) := ⟨fun h => ⟨rs, h2, h⟩, fun ⟨r, q1, q2⟩ => by rw [ev_uniq h2 q1]; exact q2⟩
  have hdp := cb_dp kn br w[j] al t rs.2.2 hH
  have hp := partE (bs := al) (t := t) hal (by rw [← hN]; exact htN)
  refine ev_succ ?_
  simp only [spec_l11Table.l2]
  rw [rd9 w j hj, tb_len]
  refine ev_if_pos (by omega) (ev_if_pos (by omega) (ev_if_pos (by omega) (ev_bind hp (ev_bind h2 (ev_if_pos (by omega) (ev_if_pos (by omega) ?_))))))
  rw [Int.toNat_natCast, tb_set]
  have key := tabL3 (kn := kn) (br := br) (w := w) (al := al) (N := N) (j := j) (t := t) (o := fun u => if u < t then o u && canB kn br w[j] (sel al u) else o u) (g := fun u => if u < t then canB kn br w[j] (sel al u) else false) (cb := fun u => canB kn br w[j] (sel al u)) (h := rs.2.2) (R := R) hN8 hal htN (fun u hu => if_pos hu) hdp ?_ al.length 0 (by omega)
  ·simpa using key
  ·have e4 : tb N (fun u => if u = t then canB kn br w[j] (sel al t) else if u < t then canB kn br w[j] (sel al u) else false) = tb N (fun u => if u < t + 1 then canB kn br w[j] (sel al u) else false) := tb_congr (fun u _ => by
    by_cases e : u = t
    ·subst e; rw [if_pos rfl, if_pos (by omega)]
    ·rw [if_neg e]
     by_cases e2 : u < t
     ·rw [if_pos e2, if_pos (by omega)]
     ·rw [if_neg e2, if_neg (by omega)])
   have e3 : (if canB kn br w[j] (sel al t) = true then tb N (fun u => if u < t then o u && canB kn br w[j] (sel al u) else o u) else (tb N (fun u => if u < t then o u && canB kn br w[j] (sel al u) else o u)).set t false) = tb N (fun u => if u < t + 1 then o u && canB kn br w[j] (sel al u) else o u) := by
    by_cases c : canB kn br w[j] (sel al t) = true
    ·rw [if_pos c]
     refine tb_congr (fun u _ => ?_)
     by_cases e : u = t
     ·subst e; rw [if_neg (by omega), if_pos (by omega), c, Bool.and_true]
     ·by_cases e2 : u < t
      ·rw [if_pos e2, if_pos (by omega)]
      ·rw [if_neg e2, if_neg (by omega)]
    ·rw [if_neg c, tb_set]
     refine tb_congr (fun u _ => ?_)
     by_cases e : u = t
     ·subst e
      rw [Bool.not_eq_true] at c
      rw [if_pos rfl, if_pos (by omega), c, Bool.and_false]
     ·rw [if_neg e]
      by_cases e2 : u < t
      ·rw [if_pos e2, if_pos (by omega)]
      ·rw [if_neg e2, if_neg (by omega)]
   show Ev (fun k => spec_l11Table.l2 k w al (N : Int) (if canB kn br w[j] (sel al t) = true then tb N (fun u => if u < t then o u && canB kn br w[j] (sel al u) else o u) else (tb N (fun u => if u < t then o u && canB kn br w[j] (sel al u) else o u)).set t false) (j : Int) (tb N (fun u => if u = t then canB kn br w[j] (sel al t) else if u < t then canB kn br w[j] (sel al u) else false)) ((t + 1 : Nat) : Int) kn br) R
   rw [e3, e4]
   exact hn
noncomputable def allW (kn : List S164) (br : List S115) (w : List (List S113)) (s : List Int) : Bool := w.all (fun ld => canB kn br ld s)
theorem tabL1 {kn : List S164} {br : List S115} {w : List (List S113)} {al : List Int} {N : Nat} (f : FrOk kn br) (b : BsOk br al) (hal : al.length ≤ 8) (hN : N = 2 ^ al.length) (hw : w.length ≤ 1048576) (l : ∀ x ∈ w, LdOk kn x) :
  ∀ m j, j + m = w.length → Ev (fun k => spec_l11Table.l1 k w al (N : Int) (tb N (fun u => allW kn br (w.take j) (sel al u))) (j : Int) kn br) (tb N (fun u => allW kn br w (sel al u))) := by
 have hN8 : N ≤ 256 := by rw [hN]; exact pow8 hal
 intro m
 induction m with
 | zero =>
  intro j hj
  refine ev_succ ?_
  simp only [spec_l11Table.l1]
  rw [show w.take j = w from List.take_of_length_le (by omega)]
  exact ev_if_neg (by omega) (ev_now fun _ => rfl)
 | succ m ih =>
  intro j hj
  have hjw : j < w.length := by omega
  have hn := ih (j + 1) (by omega)
  refine ev_succ ?_
  simp only [spec_l11Table.l1]
  refine ev_if_pos (by omega) (ev_if_pos (by omega) ?_)
  rw [Int.toNat_natCast]
  refine ev_if_pos (by omega) ?_
  have e0 : List.replicate N false = tb N (fun u => if u < 0 then canB kn br w[j] (sel al u) else false) := by
   rw [show tb N (fun u => if u < 0 then canB kn br w[j] (sel al u) else false) = tb N (fun _ => false) from tb_congr (fun u _ => if_neg (by omega))]
   apply List.ext_getElem
   ·simp [tb]
   ·intro i h1 h2; simp [tb]
  rw [e0]
  have key := tabL2 (kn := kn) (br := br) (w := w) (al := al) (N := N) (j := j) (o := fun u => allW kn br (w.take j) (sel al u)) (R := tb N (fun u => allW kn br w (sel al u))) f b hal hN hjw (l _ (List.getElem_mem hjw)) ?_ N 0 (by omega)
  ·rw [show tb N (fun u => if u < 0 then allW kn br (w.take j) (sel al u) && canB kn br w[j] (sel al u) else allW kn br (w.take j) (sel al u)) = tb N (fun u => allW kn br (w.take j) (sel al u)) from tb_congr (fun u _ => if_neg (by omega))] at key
   exact key
  ·rw [succ_cast j (by omega), show tb N (fun u => allW kn br (w.take j) (sel al u) && canB kn br w[j] (sel al u)) = tb N (fun u => allW kn br (w.take (j + 1)) (sel al u)) from tb_congr (fun u _ => by
    unfold allW
    rw [List.take_succ_eq_append_getElem hjw, List.all_append]
    simp)]
   exact hn
theorem tableE {kn : List S164} {br : List S115} {w : List (List S113)} (f : FrOk kn br) (l : ∀ x ∈ w, LdOk kn x) (hw : w.length ≤ 1048576) :
  Ev (fun k => spec_l11Table.f k kn br w) (tb (2 ^ br.length) (fun u => allW kn br w (sel (allB br.length) u))) := by
 have h8 := f.b8
 have hlen := allB_len br.length
 have hu := u64_is (n := (allB br.length).length) (by rw [hlen]; exact h8)
 have h256 := pow8 h8
 have hb := allB_ok br
 have key := tabL1 (N := 2 ^ br.length) (w := w) f hb (by rw [hlen]; exact h8) (by rw [hlen]) hw l w.length 0 (by omega)
 rw [hlen] at hu
 unfold spec_l11Table.f
 refine ev_bind (allS kn h8) ?_
 rw [hlen, hu.2]
 generalize 2 ^ br.length = N at h256 key
 refine ev_if_pos hu.1 (ev_if_pos (by omega) ?_)
 rw [Int.toNat_natCast]
 refine ev_if_pos (by omega) ?_
 have e0 : List.replicate N false = tb N (fun u => decide (u < 0)) := by
  rw [show tb N (fun u => decide (u < 0)) = tb N (fun _ => false) from tb_congr (fun u _ => decide_eq_false (by omega))]
  apply List.ext_getElem
  ·simp [tb]
  ·intro i h1 h2; simp [tb]
 rw [e0]
 refine loop_up' (fun k i => spec_l11Table.l0 k w (allB br.length) (N : Int) (tb N (fun u => decide (u < i))) (i : Int) kn br) N _ (fun _ => True) (fun i hi _ => .inl ⟨trivial, fun hn => ?_⟩) (fun _ => ?_) N 0 (by omega) (by omega) trivial
 ·refine ev_succ ?_
  simp only [spec_l11Table.l0]
  have e1 : (tb N (fun u => decide (u < i))).set i true = tb N (fun u => decide (u < i + 1)) := by
   rw [tb_set]
   refine tb_congr (fun u _ => ?_)
   by_cases e : u = i
   ·subst e; rw [if_pos rfl, decide_eq_true (by omega)]
   ·rw [if_neg e]
    by_cases e2 : u < i
    ·rw [decide_eq_true e2, decide_eq_true (by omega)]
    ·rw [decide_eq_false e2, decide_eq_false (by omega)]
  rw [succ_cast i (by omega), tb_len, Int.toNat_natCast, e1]
  exact ev_if_pos (by omega) (ev_if_pos (by omega) (ev_if_pos (by omega) hn))
 ·refine ev_succ ?_
  simp only [spec_l11Table.l0]
  rw [show tb N (fun u => decide (u < N)) = tb N (fun u => allW kn br (w.take 0) (sel (allB br.length) u)) from tb_congr (fun u hu => by rw [decide_eq_true hu]; rfl)]
  exact ev_if_neg (by omega) key
theorem loose_all (kn : List S164) (br : List S115) (s : List Int) : ∀ (w : List (List S113)) (i : Nat), looseA kn br s w i < 0 ↔ allW kn br w s = true
 | [], i => by simp [looseA, allW]
 | ld :: t, i => by
  unfold looseA allW
  rw [List.all_cons]
  cases h : canB kn br ld s with
  | true => rw [if_pos rfl, Bool.true_and]; exact loose_all kn br s t (i + 1)
  | false =>
   rw [if_neg Bool.false_ne_true, Bool.false_and]
   constructor
   ·intro h1; omega
   ·intro h1; exact absurd h1 (by decide)
end Go.Proofs.Ytimjblgepbhoaaa.Pure

