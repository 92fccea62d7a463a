import Derived.Test.YtimjblgepbhoaaaHStays0
import Derived.Test.YtimjblgepbhoaaaPlain
import Derived.Test.YtimjblgepbhoaaaHStaysbt
import Derived.Test.YtimjblgepbhoaaaHStaysc
import Derived.Test.YtimjblgepbhoaaaHStaysj
import Derived.Test.YtimjblgepbhoaaaHStaysn
import Derived.Test.YtimjblgepbhoaaaPureStaysA
import Derived.Test.YtimjblgepbhoaaaPureStaysC
import Derived.Test.YtimjblgepbhoaaaPureStaysE
import Derived.Test.YtimjblgepbhoaaaPureStaysW
namespace Go.Proofs.Ytimjblgepbhoaaa.Pure
open Go.RowKit Go.Proofs.Ytimjblgepbhoaaa.PStays Go.Proofs.Ytimjblgepbhoaaa.Plain Go.Proofs.YtimjblgepbhoaaaW.PrintWords Go.Proofs.YtimjblgepbhoaaaW.PrintMore
set_option linter.unusedVariables false
set_option linter.unusedSimpArgs false
open Classical in
theorem canS {kn : List S164} {br : List S115} {ld : List S113} {bs : List Int} (f : FrOk kn br) (l : LdOk kn ld) (b : BsOk br bs) (hb : bs.length ≤ 8) : Ev (fun k => spec_l11Can.f k kn br ld bs) (canB kn br ld bs) := by
 unfold spec_l11Can.f
 have h256 := pow8 hb
 have hu := u64_is hb
 have hpart : ∀ t : Nat, t < 2 ^ bs.length → Ev (fun k => spec_l11Part.f k bs (t : Int)) (sel bs t) := fun t ht => partE hb ht
 have hsel : ∀ s : List Int, s.Sublist bs → ∃ t : Nat, t < 2 ^ bs.length ∧ sel bs t = s := fun s hs => sub_sel hs
 generalize 2 ^ bs.length = N at h256 hu hpart hsel
 refine loop_up' (fun k t => spec_l11Can.l0 k ld bs (t : Int) kn br) N _ (fun t => ∀ u, u < t → ¬ Holds kn br ld (sel bs u)) (fun t ht hI => ?_) (fun hI => ?_) N 0 (Nat.sub_zero N) (Nat.zero_le N) (fun j hj => absurd hj (Nat.not_lt_zero j))
 ·have hs := sel_sub bs t
  obtain ⟨ri, rs, _, h2, _, _⟩ := holdE f l (b.sub hs) (by have := hs.length_le; omega)
  cases hr : rs.2.2 with
  | true =>
   right
   have hc : canB kn br ld bs = true := by unfold canB; exact decide_eq_true ⟨_, hs, rs, h2, hr⟩
   rw [hc]
   refine ev_succ ?_
   simp only [spec_l11Can.l0]
   rw [hu.2]
   exact ev_if_pos hu.1 (ev_if_pos (by omega) (ev_bind (hpart t ht) (ev_bind h2 (ev_if_pos hr (ev_now fun _ => rfl)))))
  | false =>
   left
   refine ⟨upto_next hI (fun ⟨r, hr1, hr2⟩ => ?_), fun hn => ?_⟩
   ·rw [ev_uniq hr1 h2, hr] at hr2
    exact Bool.false_ne_true hr2
   ·refine ev_succ ?_
    simp only [spec_l11Can.l0]
    rw [hu.2, succ_cast t (by omega)]
    exact ev_if_pos hu.1 (ev_if_pos (by omega) (ev_bind (hpart t ht) (ev_bind h2 (ev_if_neg (by rw [hr]; exact Bool.false_ne_true) hn))))
 ·refine ev_succ ?_
  simp only [spec_l11Can.l0]
  have hc : canB kn br ld bs = false := by
   unfold canB
   refine decide_eq_false (fun ⟨s, hs, hh⟩ => ?_)
   obtain ⟨t, h1, h2⟩ := hsel s hs
   rw [← h2] at hh
   exact hI t h1 hh
  rw [hu.2, hc]
  exact ev_if_pos hu.1 (ev_if_neg (by omega) (ev_now fun _ => rfl))
theorem looseS0 {kn : List S164} {br : List S115} {w : List (List S113)} {bs : List Int} (f : FrOk kn br) (l : ∀ x ∈ w, LdOk kn x) (b : BsOk br bs) (hb : bs.length ≤ 8) (hwl : w.length ≤ 1048576) : ∀ (n i : Nat), i + n = w.length → Ev (fun k => spec_l11Loose.l0 k w bs (i : Int) kn br) (looseA kn br bs (w.drop i) i) := by
 intro n
 induction n with
 | zero =>
  intro i hi
  refine ev_succ ?_
  simp only [spec_l11Loose.l0]
  rw [List.drop_eq_nil_of_le (by omega)]
  exact ev_if_neg (by omega) (ev_now fun _ => rfl)
 | succ n ih =>
  intro i hi
  have hil : i < w.length := by omega
  refine ev_succ ?_
  simp only [spec_l11Loose.l0]
  rw [List.drop_eq_getElem_cons hil, rd9 w i hil, succ_cast i (by omega)]
  unfold looseA
  refine ev_if_pos (by omega) (ev_if_pos (by omega) (ev_bind (canS f (l _ (List.getElem_mem hil)) b hb) ?_))
  cases hd : canB kn br w[i] bs with
  | true => rw [if_pos rfl]; exact ev_if_pos rfl (ih (i + 1) (by omega))
  | false => rw [if_neg Bool.false_ne_true]; exact ev_if_neg Bool.false_ne_true (ev_now fun _ => rfl)
theorem looseS {kn : List S164} {br : List S115} {w : List (List S113)} {bs : List Int} (f : FrOk kn br) (l : ∀ x ∈ w, LdOk kn x) (b : BsOk br bs) (hb : bs.length ≤ 8) (hwl : w.length ≤ 1048576) : Ev (fun k => spec_l11Loose.f k kn br w bs) (looseA kn br bs w 0) := looseS0 f l b hb hwl w.length 0 (by omega)
theorem toI (l : List Int) (h : l.length ≤ 1048576) : Ev (fun k => laws_toInt64S.f k l) l := by
 unfold laws_toInt64S.f
 refine ev_if_pos (by omega) (ev_if_pos (by omega) ?_)
 have := copy_loop (0 : Int) (0 : Int) (fun x => x) (fun k x3 x4 => laws_toInt64S.l0 k l x3 x4) l (by omega) (fun _ _ _ => rfl)
 simpa using this
end Go.Proofs.Ytimjblgepbhoaaa.Pure

