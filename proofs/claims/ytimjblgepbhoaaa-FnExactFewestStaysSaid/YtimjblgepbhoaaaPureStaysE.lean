import Derived.Test.YtimjblgepbhoaaaHStays0
import Derived.Test.YtimjblgepbhoaaaPlain
import Derived.Test.YtimjblgepbhoaaaHStaysc
import Derived.Test.YtimjblgepbhoaaaHStaysn
import Derived.Test.YtimjblgepbhoaaaHStayss
import Derived.Test.YtimjblgepbhoaaaPureStaysA
import Derived.Test.YtimjblgepbhoaaaPureStaysC
namespace Go.Proofs.Ytimjblgepbhoaaa.Pure
open Go.RowKit Go.Proofs.Ytimjblgepbhoaaa.PStays Go.Proofs.Ytimjblgepbhoaaa.Plain Go.Proofs.YtimjblgepbhoaaaW.PrintWords Go.Proofs.YtimjblgepbhoaaaW.PrintMore
set_option linter.unusedVariables false
set_option linter.unusedSimpArgs false
open Classical in
noncomputable def canB (kn : List S164) (br : List S115) (ld : List S113) (bs : List Int) : Bool := decide (∃ s, s.Sublist bs ∧ Holds kn br ld s)
open Classical in
theorem canI {kn : List S164} {br : List S115} {ld : List S113} {bs : List Int} (f : FrOk kn br) (l : LdOk kn ld) (b : BsOk br bs) (hb : bs.length ≤ 8) : Ev (fun k => impl_canHold.f k kn br ld bs) (canB kn br ld bs) := by
 unfold impl_canHold.f
 have hbl := barsOf_len hb
 have hlist : Ev (fun k => impl_barLists.f k bs) (barsOf bs) := by
  unfold impl_barLists.f
  exact ev_if_pos ⟨by omega, hbl⟩ (ev_now fun _ => rfl)
 refine ev_bind hlist ?_
 refine loop_up' (fun k p => impl_canHold.l0 k ld (barsOf bs) ((barsOf bs).length : Int) (p : Int) kn br) (barsOf bs).length _ (fun p => ∀ u, u < p → ¬ Holds kn br ld ((barsOf bs).getD u [])) (fun p hp hI => ?_) (fun hI => ?_) (barsOf bs).length 0 (by omega) (by omega) (fun j hj => by omega)
 ·have hg : (barsOf bs).getD p [] = (barsOf bs)[p] := by rw [List.getD_eq_getElem?_getD, List.getElem?_eq_getElem hp]; rfl
  have hs : ((barsOf bs).getD p []).Sublist bs := by rw [hg]; exact bars_sub.1 (List.getElem_mem hp)
  have hrd : rd_L10 (barsOf bs) (p : Int) = (barsOf bs).getD p [] := by show (barsOf bs).getD (Int.toNat (p : Int)) [] = _; rw [Int.toNat_natCast]
  obtain ⟨ri, rs, h1, h2, h3, _⟩ := holdE f l (b.sub hs) (by have := hs.length_le; omega)
  cases hr : rs.2.2 with
  | true =>
   right
   have hc : canB kn br ld bs = true := by unfold canB; exact decide_eq_true ⟨_, hs, rs, h2, hr⟩
   rw [hc]
   refine ev_succ ?_
   simp only [impl_canHold.l0]
   rw [hrd]
   exact ev_if_pos (by omega) (ev_if_pos (by omega) (ev_if_pos (by omega) (ev_bind h1 (ev_if_pos (h3.trans hr) (ev_now fun _ => rfl)))))
  | false =>
   left
   refine ⟨upto_next hI (fun ⟨r, hr1, hr2⟩ => ?_), fun hn => ?_⟩
   ·rw [ev_uniq hr1 h2, hr] at hr2
    exact Bool.false_ne_true hr2
   ·refine ev_succ ?_
    simp only [impl_canHold.l0]
    rw [hrd, succ_cast p (by omega)]
    exact ev_if_pos (by omega) (ev_if_pos (by omega) (ev_if_pos (by omega) (ev_bind h1 (ev_if_neg (by rw [h3, hr]; exact Bool.false_ne_true) hn))))
 ·refine ev_succ ?_
  simp only [impl_canHold.l0]
  have hc : canB kn br ld bs = false := by
   unfold canB
   refine decide_eq_false (fun ⟨s, hs, hh⟩ => ?_)
   obtain ⟨u, hu, e⟩ := List.getElem_of_mem (bars_sub.2 hs)
   refine hI u hu ?_
   rw [List.getD_eq_getElem?_getD, List.getElem?_eq_getElem hu]
   show Holds kn br ld ((barsOf bs)[u])
   rw [e]; exact hh
  rw [hc]
  exact ev_if_neg (by omega) (ev_now fun _ => rfl)
end Go.Proofs.Ytimjblgepbhoaaa.Pure

