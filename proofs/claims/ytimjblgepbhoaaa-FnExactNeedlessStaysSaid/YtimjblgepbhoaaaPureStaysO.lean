import Derived.Test.YtimjblgepbhoaaaHStays0
import Derived.Test.YtimjblgepbhoaaaPlain
import Derived.Test.YtimjblgepbhoaaaHStaysz
import Derived.Test.YtimjblgepbhoaaaPureStaysA
namespace Go.Proofs.Ytimjblgepbhoaaa.Pure
open Go.RowKit Go.Proofs.Ytimjblgepbhoaaa.PStays Go.Proofs.Ytimjblgepbhoaaa.Plain Go.Proofs.YtimjblgepbhoaaaW.PrintWords Go.Proofs.YtimjblgepbhoaaaW.PrintMore
set_option linter.unusedVariables false
set_option linter.unusedSimpArgs false
def woB (bs : List Int) (x : Int) : List Int := bs.filter (fun b => !decide (b = x))
theorem woB_sub (bs : List Int) (x : Int) : (woB bs x).Sublist bs := List.filter_sublist
theorem woB_next (bs : List Int) (x : Int) (i : Nat) (hi : i < bs.length) : woB (bs.take (i + 1)) x = if bs.getD i 0 = x then woB (bs.take i) x else woB (bs.take i) x ++ [bs.getD i 0] := by
 unfold woB
 rw [List.take_succ_eq_append_getElem hi, List.filter_append, List.getD_eq_getElem?_getD, List.getElem?_eq_getElem hi]
 show _ = if bs[i] = x then _ else _
 by_cases h : bs[i] = x
 ·rw [if_pos h]; simp [h]
 ·rw [if_neg h]; simp [h]
theorem woB_len (bs : List Int) (x : Int) (i : Nat) : (woB (bs.take i) x).length ≤ bs.length := by
 have h1 := (woB_sub (bs.take i) x).length_le
 rw [List.length_take] at h1
 omega
theorem withoutE (bs : List Int) (x : Int) (hb : bs.length ≤ 1048576) : Ev (fun k => impl_withoutBar.f k bs x) (woB bs x) := by
 unfold impl_withoutBar.f
 refine loop_up' (fun k i => impl_withoutBar.l0 k x (woB (bs.take i) x) bs (bs.length : Int) (i : Int)) bs.length _ (fun _ => True) (fun i hi _ => .inl ⟨trivial, fun hn => ?_⟩) (fun _ => ?_) bs.length 0 (by omega) (by omega) trivial
 ·refine ev_succ ?_
  simp only [impl_withoutBar.l0]
  have hl := woB_len bs x i
  rw [woB_next bs x i hi] at hn
  rw [succ_cast i (by omega), rd_nat]
  refine ev_if_pos (by omega) (ev_if_pos (by omega) (ev_if_pos (by omega) ?_))
  by_cases h : bs.getD i 0 = x
  ·rw [if_pos h] at hn
   exact ev_if_pos h hn
  ·rw [if_neg h] at hn
   exact ev_if_neg h (ev_if_pos (by omega) hn)
 ·refine ev_succ ?_
  simp only [impl_withoutBar.l0]
  rw [List.take_length]
  exact ev_if_neg (by omega) (ev_now fun _ => rfl)
end Go.Proofs.Ytimjblgepbhoaaa.Pure

