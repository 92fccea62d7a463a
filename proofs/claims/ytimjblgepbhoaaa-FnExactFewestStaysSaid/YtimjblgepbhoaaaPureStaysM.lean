import Derived.Test.YtimjblgepbhoaaaHStays0
import Derived.Test.YtimjblgepbhoaaaPlain
import Derived.Test.YtimjblgepbhoaaaHStaysu
import Derived.Test.YtimjblgepbhoaaaHStaysus
import Derived.Test.YtimjblgepbhoaaaPureStaysL
import Derived.Test.YtimjblgepbhoaaaPureStaysW
namespace Go.Proofs.Ytimjblgepbhoaaa.Pure
open Go.RowKit Go.Proofs.Ytimjblgepbhoaaa.PStays Go.Proofs.Ytimjblgepbhoaaa.Plain Go.Proofs.YtimjblgepbhoaaaW.PrintWords Go.Proofs.YtimjblgepbhoaaaW.PrintMore
set_option linter.unusedVariables false
set_option linter.unusedSimpArgs false
def mkK1 (xs : List S164) (a i : Int) : List S164 :=
 ((xs.set i.toNat ⟨a, (rd_T164 xs i).f1, (rd_T164 xs i).f2⟩).set i.toNat ⟨(rd_T164 (xs.set i.toNat ⟨a, (rd_T164 xs i).f1, (rd_T164 xs i).f2⟩) i).f0, a + 1, (rd_T164 (xs.set i.toNat ⟨a, (rd_T164 xs i).f1, (rd_T164 xs i).f2⟩) i).f2⟩).set i.toNat
  ⟨(rd_T164 ((xs.set i.toNat ⟨a, (rd_T164 xs i).f1, (rd_T164 xs i).f2⟩).set i.toNat ⟨(rd_T164 (xs.set i.toNat ⟨a, (rd_T164 xs i).f1, (rd_T164 xs i).f2⟩) i).f0, a + 1, (rd_T164 (xs.set i.toNat ⟨a, (rd_T164 xs i).f1, (rd_T164 xs i).f2⟩) i).f2⟩) i).f0,
   (rd_T164 ((xs.set i.toNat ⟨a, (rd_T164 xs i).f1, (rd_T164 xs i).f2⟩).set i.toNat ⟨(rd_T164 (xs.set i.toNat ⟨a, (rd_T164 xs i).f1, (rd_T164 xs i).f2⟩) i).f0, a + 1, (rd_T164 (xs.set i.toNat ⟨a, (rd_T164 xs i).f1, (rd_T164 xs i).f2⟩) i).f2⟩) i).f1, Int.tmod (a + 1 + 1) 3 == 0⟩
theorem marksK (l : Nat) (hl : l ≤ 1048576) : ∀ (m i : Nat) (xs : List S164) (a : Int), l - i = m → i ≤ l → xs.length = l → 0 ≤ a → a + 3 * m ≤ 4611686018427387904 →
  ∃ b ys, Ev (fun k => laws_markKnotS.l0 k xs a (i : Int)) (b, ys) ∧ a ≤ b ∧ b ≤ a + 3 * m := by
 intro m
 induction m with
 | zero =>
  intro i xs a h1 h2 h3 h4 h5
  refine ⟨a, xs, ev_end (fun k => ?_), by omega, by omega⟩
  simp only [laws_markKnotS.l0]
  rw [if_neg (by omega)]
 | succ m ih =>
  intro i xs a h1 h2 h3 h4 h5
  have key : ∀ ys : List S164, ys.length = l → ∃ b zs, Ev (fun k => laws_markKnotS.l0 k ys (a + 1 + 1 + 1) ((i + 1 : Nat) : Int)) (b, zs) ∧ a + 3 ≤ b ∧ b ≤ a + 3 * (m + 1) := fun ys hy => by
   obtain ⟨b, zs, q1, q2, q3⟩ := ih (i + 1) ys (a + 1 + 1 + 1) (by omega) (by omega) hy (by omega) (by omega)
   exact ⟨b, zs, q1, by omega, by omega⟩
  have w1 : wrap64 (a + 1) = a + 1 := wrap_in (by omega) (by omega)
  have w2 : wrap64 (a + 1 + 1) = a + 1 + 1 := wrap_in (by omega) (by omega)
  have w3 : wrap64 (a + 1 + 1 + 1) = a + 1 + 1 + 1 := wrap_in (by omega) (by omega)
  have hs : ∃ ys : List S164, ys.length = l ∧ ∀ k, laws_markKnotS.l0 (k + 1) xs a (i : Int) = laws_markKnotS.l0 k ys (a + 1 + 1 + 1) ((i + 1 : Nat) : Int) := by
   refine ⟨mkK1 xs a (i : Int), by unfold mkK1; simp only [List.length_set]; exact h3, fun k => ?_⟩
   simp only [laws_markKnotS.l0]
   rw [if_pos (by omega), if_pos (by omega), succ_cast i (by omega)]
   simp only [Option.bind_some]
   rw [w1, w2, w3]
   rfl
  obtain ⟨ys, hy, he⟩ := hs
  obtain ⟨b, zs, q1, q2, q3⟩ := key ys hy
  exact ⟨b, zs, ev_step he q1, by omega, by omega⟩
def mkB1 (xs : List S115) (a i : Int) : List S115 :=
 ((xs.set i.toNat ⟨a, (rd_T115 xs i).f1, (rd_T115 xs i).f2⟩).set i.toNat ⟨(rd_T115 (xs.set i.toNat ⟨a, (rd_T115 xs i).f1, (rd_T115 xs i).f2⟩) i).f0, a + 1, (rd_T115 (xs.set i.toNat ⟨a, (rd_T115 xs i).f1, (rd_T115 xs i).f2⟩) i).f2⟩).set i.toNat
  ⟨(rd_T115 ((xs.set i.toNat ⟨a, (rd_T115 xs i).f1, (rd_T115 xs i).f2⟩).set i.toNat ⟨(rd_T115 (xs.set i.toNat ⟨a, (rd_T115 xs i).f1, (rd_T115 xs i).f2⟩) i).f0, a + 1, (rd_T115 (xs.set i.toNat ⟨a, (rd_T115 xs i).f1, (rd_T115 xs i).f2⟩) i).f2⟩) i).f0,
   (rd_T115 ((xs.set i.toNat ⟨a, (rd_T115 xs i).f1, (rd_T115 xs i).f2⟩).set i.toNat ⟨(rd_T115 (xs.set i.toNat ⟨a, (rd_T115 xs i).f1, (rd_T115 xs i).f2⟩) i).f0, a + 1, (rd_T115 (xs.set i.toNat ⟨a, (rd_T115 xs i).f1, (rd_T115 xs i).f2⟩) i).f2⟩) i).f1, Int.tmod (a + 1 + 1) 3 == 0⟩
theorem marksB (l : Nat) (hl : l ≤ 1048576) : ∀ (m i : Nat) (xs : List S115) (a : Int), l - i = m → i ≤ l → xs.length = l → 0 ≤ a → a + 3 * m ≤ 4611686018427387904 →
  ∃ b ys, Ev (fun k => laws_markBarS.l0 k xs a (i : Int)) (b, ys) ∧ a ≤ b ∧ b ≤ a + 3 * m := by
 intro m
 induction m with
 | zero =>
  intro i xs a h1 h2 h3 h4 h5
  refine ⟨a, xs, ev_end (fun k => ?_), by omega, by omega⟩
  simp only [laws_markBarS.l0]
  rw [if_neg (by omega)]
 | succ m ih =>
  intro i xs a h1 h2 h3 h4 h5
  have key : ∀ ys : List S115, ys.length = l → ∃ b zs, Ev (fun k => laws_markBarS.l0 k ys (a + 1 + 1 + 1) ((i + 1 : Nat) : Int)) (b, zs) ∧ a + 3 ≤ b ∧ b ≤ a + 3 * (m + 1) := fun ys hy => by
   obtain ⟨b, zs, q1, q2, q3⟩ := ih (i + 1) ys (a + 1 + 1 + 1) (by omega) (by omega) hy (by omega) (by omega)
   exact ⟨b, zs, q1, by omega, by omega⟩
  have w1 : wrap64 (a + 1) = a + 1 := wrap_in (by omega) (by omega)
  have w2 : wrap64 (a + 1 + 1) = a + 1 + 1 := wrap_in (by omega) (by omega)
  have w3 : wrap64 (a + 1 + 1 + 1) = a + 1 + 1 + 1 := wrap_in (by omega) (by omega)
  have hs : ∃ ys : List S115, ys.length = l ∧ ∀ k, laws_markBarS.l0 (k + 1) xs a (i : Int) = laws_markBarS.l0 k ys (a + 1 + 1 + 1) ((i + 1 : Nat) : Int) := by
   refine ⟨mkB1 xs a (i : Int), by unfold mkB1; simp only [List.length_set]; exact h3, fun k => ?_⟩
   simp only [laws_markBarS.l0]
   rw [if_pos (by omega), if_pos (by omega), succ_cast i (by omega)]
   simp only [Option.bind_some]
   rw [w1, w2, w3]
   rfl
  obtain ⟨ys, hy, he⟩ := hs
  obtain ⟨b, zs, q1, q2, q3⟩ := key ys hy
  exact ⟨b, zs, ev_step he q1, by omega, by omega⟩
theorem marksFr (kn : List S164) (br : List S115) (h1 : kn.length ≤ 1048576) (h2 : br.length ≤ 1048576) : ∃ r, Ev (fun k => laws_markFrame.f k kn br 1) r ∧ 0 ≤ r.1 ∧ r.1 ≤ 6291457 := by
 obtain ⟨b, ys, e1, q1, q2⟩ := marksK kn.length h1 kn.length 0 kn 1 (by omega) (by omega) rfl (by omega) (by omega)
 obtain ⟨c, zs, e2, q3, q4⟩ := marksB br.length h2 br.length 0 br b (by omega) (by omega) rfl (by omega) (by omega)
 refine ⟨(c, ys, zs), ?_, by show (0 : Int) ≤ c; omega, by show c ≤ (6291457 : Int); omega⟩
 unfold laws_markFrame.f
 refine ev_bind (a := (b, ys)) ?_ (ev_bind (a := (c, zs)) ?_ (ev_now fun _ => rfl))
 ·unfold laws_markKnotS.f; exact e1
 ·unfold laws_markBarS.f; exact e2
def mkI (a : Int) (n : Nat) : List Int := (List.range n).map (fun i : Nat => a + (i : Int))
theorem mkI_len (a : Int) (n : Nat) : (mkI a n).length = n := by simp [mkI]
theorem mkI_succ (a : Int) (n : Nat) : mkI a (n + 1) = mkI a n ++ [a + (n : Int)] := by simp [mkI, List.range_succ]
theorem set_mid {α : Type} (a b : List α) (y x : α) (i : Nat) (h : a.length = i) : (a ++ y :: b).set i x = (a ++ [x]) ++ b := by
 subst h
 rw [List.set_append_right _ _ (Nat.le_refl _)]
 simp
theorem marksI (l : List Int) (a : Int) (h0 : 0 ≤ a) (h : a + l.length ≤ 4611686018427387904) : Ev (fun k => laws_markInt64S.f k l a) (a + l.length, mkI a l.length) := by
 unfold laws_markInt64S.f
 have key := loop_all (fun k i => laws_markInt64S.l0 k (mkI a i ++ l.drop i) (a + (i : Int)) (i : Int)) l.length (a + (l.length : Int), mkI a l.length) (fun i hi k => ?_) (ev_end fun k => ?_)
 ·simpa [mkI] using key
 ·show laws_markInt64S.l0 (k + 1) _ _ _ = laws_markInt64S.l0 k _ _ _
  have hlen : (mkI a i ++ l.drop i).length = l.length := by simp [mkI_len]; omega
  simp only [laws_markInt64S.l0]
  have e : l.drop i = l[i] :: l.drop (i + 1) := List.drop_eq_getElem_cons hi
  rw [hlen, if_pos (by omega), if_pos (by omega), Int.toNat_natCast, e, set_mid _ _ _ _ _ (mkI_len a i), ← mkI_succ, wrap_in (x := a + (i : Int) + 1) (by omega) (by omega), succ_cast i (by omega)]
  have e2 : a + (i : Int) + 1 = a + ((i + 1 : Nat) : Int) := by omega
  rw [e2]
 ·show laws_markInt64S.l0 (k + 1) _ _ _ = _
  simp only [laws_markInt64S.l0]
  have hlen : (mkI a l.length ++ l.drop l.length).length = l.length := by simp [mkI_len]
  rw [hlen, if_neg (by omega)]
  simp
theorem heldI (n : Nat) (a : Int) (h0 : 0 ≤ a) (h : a + n ≤ 4611686018427387904) : Ev (fun k => laws_heldInt64S.f k (mkI a n) a) (a + n) := by
 unfold laws_heldInt64S.f
 have key := loop_all (fun k i => laws_heldInt64S.l0 k (mkI a n) (a + (i : Int)) (i : Int)) n (a + (n : Int)) (fun i hi k => ?_) (ev_end fun k => ?_)
 ·simpa using key
 ·show laws_heldInt64S.l0 (k + 1) _ _ _ = laws_heldInt64S.l0 k _ _ _
  have e : rd (mkI a n) (i : Int) = a + (i : Int) := by
   unfold rd
   rw [Int.toNat_natCast, List.getD_eq_getElem?_getD, List.getElem?_eq_getElem (by rw [mkI_len]; exact hi)]
   simp [mkI]
  simp only [laws_heldInt64S.l0, e]
  rw [mkI_len, if_pos (by omega), if_pos (by omega), if_pos trivial, wrap_in (x := a + (i : Int) + 1) (by omega) (by omega), succ_cast i (by omega)]
  have e2 : a + (i : Int) + 1 = a + ((i + 1 : Nat) : Int) := by omega
  rw [e2]
 ·show laws_heldInt64S.l0 (k + 1) _ _ _ = _
  simp only [laws_heldInt64S.l0]
  rw [mkI_len, if_neg (by omega)]
theorem marksP0 (l : Nat) (hl : l ≤ 1048576) : ∀ (m i : Nat) (xs : List S113) (a : Int), l - i = m → i ≤ l → xs.length = l → 0 ≤ a → a + 2 * m ≤ 4611686018427387904 →
  ∃ b ys, Ev (fun k => laws_markPullS.l0 k xs a (i : Int)) (b, ys) ∧ a ≤ b ∧ b ≤ a + 2 * m := by
 intro m
 induction m with
 | zero =>
  intro i xs a h1 h2 h3 h4 h5
  refine ⟨a, xs, ev_end (fun k => ?_), by omega, by omega⟩
  simp only [laws_markPullS.l0]
  rw [if_neg (by omega)]
 | succ m ih =>
  intro i xs a h1 h2 h3 h4 h5
  have key : ∀ ys : List S113, ys.length = l → ∃ b zs, Ev (fun k => laws_markPullS.l0 k ys (a + 1 + 1) ((i + 1 : Nat) : Int)) (b, zs) ∧ a + 2 ≤ b ∧ b ≤ a + 2 * (m + 1) := fun ys hy => by
   obtain ⟨b, zs, q1, q2, q3⟩ := ih (i + 1) ys (a + 1 + 1) (by omega) (by omega) hy (by omega) (by omega)
   exact ⟨b, zs, q1, by omega, by omega⟩
  have w1 : wrap64 (a + 1) = a + 1 := wrap_in (by omega) (by omega)
  have w2 : wrap64 (a + 1 + 1) = a + 1 + 1 := wrap_in (by omega) (by omega)
  have hs : ∃ ys : List S113, ys.length = l ∧ ∀ k, laws_markPullS.l0 (k + 1) xs a (i : Int) = laws_markPullS.l0 k ys (a + 1 + 1) ((i + 1 : Nat) : Int) := by
   refine ⟨(xs.set (i : Int).toNat ⟨a, (rd_T113 xs (i : Int)).f1⟩).set (i : Int).toNat ⟨(rd_T113 (xs.set (i : Int).toNat ⟨a, (rd_T113 xs (i : Int)).f1⟩) (i : Int)).f0, a + 1⟩, by simp only [List.length_set]; exact h3, fun k => ?_⟩
   simp only [laws_markPullS.l0]
   rw [if_pos (by omega), if_pos (by omega), succ_cast i (by omega)]
   simp only [Option.bind_some]
   rw [w1, w2]
  obtain ⟨ys, hy, he⟩ := hs
  obtain ⟨b, zs, q1, q2, q3⟩ := key ys hy
  exact ⟨b, zs, ev_step he q1, by omega, by omega⟩
theorem marksP (l : List S113) (a : Int) (h : l.length ≤ 1048576) (h0 : 0 ≤ a) (h1 : a ≤ 1152921504606846976) : ∃ r, Ev (fun k => laws_markPullS.f k l a) r ∧ a ≤ r.1 ∧ r.1 ≤ a + 2097152 := by
 obtain ⟨b, ys, e1, q1, q2⟩ := marksP0 l.length h l.length 0 l a (by omega) (by omega) rfl (by omega) (by omega)
 refine ⟨(b, ys), ?_, q1, by show b ≤ a + 2097152; omega⟩
 unfold laws_markPullS.f
 exact e1
theorem marksPS0 (n : Nat) (hn : n ≤ 1048576) : ∀ (m i : Nat) (es : List (List S113)) (a : Int), n - i = m → i ≤ n → es.length = n → (∀ j, i ≤ j → j < n → (es.getD j []).length ≤ 1048576) → 0 ≤ a → a + 2097152 * m ≤ 1152921504606846976 →
  ∃ b es', Ev (fun k => laws_markPullSS.l0 k es a (i : Int)) (b, es') ∧ a ≤ b ∧ b ≤ a + 2097152 * m := by
 intro m
 induction m with
 | zero =>
  intro i es a h1 h2 h3 h4 h5 h6
  refine ⟨a, es, ev_end (fun k => ?_), by omega, by omega⟩
  simp only [laws_markPullSS.l0]
  rw [if_neg (by omega)]
 | succ m ih =>
  intro i es a h1 h2 h3 h4 h5 h6
  have hi : i < es.length := by omega
  have hrow := h4 i (Nat.le_refl i) (by omega)
  obtain ⟨r, hm, hm1, hm2⟩ := marksP (es.getD i []) a hrow h5 (by omega)
  obtain ⟨b, es', h7, h8, h9⟩ := ih (i + 1) (es.set i r.2) r.1 (by omega) (by omega) (by rw [List.length_set]; exact h3) (fun j hj hjn => by
   rw [List.getD_eq_getElem?_getD, List.getElem?_set_ne (by omega), ← List.getD_eq_getElem?_getD]
   exact h4 j (by omega) hjn) (by omega) (by omega)
  refine ⟨b, es', ev_step (f := fun k => (laws_markPullS.f k (es.getD i []) a).bind fun c => laws_markPullSS.l0 k (es.set i c.2) c.1 ((i + 1 : Nat) : Int)) (fun k => ?_) (ev_bind hm h7), by omega, by omega⟩
  simp only [laws_markPullSS.l0]
  rw [if_pos (by omega), if_pos (by omega), succ_cast i (by omega), Int.toNat_natCast]
theorem marksPS (es : List (List S113)) (a : Int) (hs : Short es) (h0 : 0 ≤ a) (h1 : a ≤ 4611686018) : ∃ r, Ev (fun k => laws_markPullSS.f k es a) r ∧ a ≤ r.1 ∧ r.1 ≤ a + 2199023255552 := by
 have h2 := hs.1
 obtain ⟨b, es', h7, h8, h9⟩ := marksPS0 es.length h2 es.length 0 es a (by omega) (by omega) rfl (fun j _ hj => hs.2 _ (mem_getD es [] j hj)) h0 (by omega)
 refine ⟨(b, es'), ?_, h8, by show b ≤ _; omega⟩
 unfold laws_markPullSS.f
 exact h7
end Go.Proofs.Ytimjblgepbhoaaa.Pure

