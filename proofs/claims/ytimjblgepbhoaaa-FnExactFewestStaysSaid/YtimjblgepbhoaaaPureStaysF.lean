import Derived.Test.YtimjblgepbhoaaaHStays0
import Derived.Test.YtimjblgepbhoaaaPlain
import Derived.Test.YtimjblgepbhoaaaHStaysw
import Derived.Test.YtimjblgepbhoaaaPureStaysA
namespace Go.Proofs.Ytimjblgepbhoaaa.Pure
open Go.RowKit Go.Proofs.Ytimjblgepbhoaaa.PStays Go.Proofs.Ytimjblgepbhoaaa.Plain Go.Proofs.YtimjblgepbhoaaaW.PrintWords Go.Proofs.YtimjblgepbhoaaaW.PrintMore
set_option linter.unusedVariables false
set_option linter.unusedSimpArgs false
def allB (n : Nat) : List Int := (List.range n).map (fun i : Nat => (i : Int))
theorem allB_len (n : Nat) : (allB n).length = n := by simp [allB]
theorem allB_succ (n : Nat) : allB (n + 1) = allB n ++ [(n : Int)] := by simp [allB, List.range_succ]
theorem allB_at {n i : Nat} (h : i < n) : (allB n).getD i 0 = (i : Int) := by
 rw [List.getD_eq_getElem?_getD, List.getElem?_eq_getElem (by rw [allB_len]; exact h)]
 simp [allB]
theorem allB_ok (br : List S115) : BsOk br (allB br.length) := by
 refine ⟨fun i j hi hj e => ?_, fun q hq => ?_⟩
 ·rw [allB_len] at hi hj
  rw [allB_at hi, allB_at hj] at e
  omega
 ·rw [allB_len] at hq
  rw [allB_at hq]
  omega
theorem allI (kn : List S164) {br : List S115} (h : br.length ≤ 8) : Ev (fun k => impl_allBars.f k kn br) (allB br.length) := by
 unfold impl_allBars.f
 refine loop_up' (fun k i => impl_allBars.l0 k (allB i) (br.length : Int) (i : Int)) br.length _ (fun _ => True) (fun i hi _ => .inl ⟨trivial, fun hn => ?_⟩) (fun _ => ?_) br.length 0 (by omega) (by omega) trivial
 ·refine ev_succ ?_
  simp only [impl_allBars.l0]
  rw [allB_succ] at hn
  rw [succ_cast i (by omega)]
  exact ev_if_pos (by omega) (ev_if_pos (by rw [allB_len]; omega) hn)
 ·refine ev_succ ?_
  simp only [impl_allBars.l0]
  exact ev_if_neg (by omega) (ev_now fun _ => rfl)
theorem allS (kn : List S164) {br : List S115} (h : br.length ≤ 8) : Ev (fun k => spec_l11All.f k kn br) (allB br.length) := by
 unfold spec_l11All.f
 refine loop_up' (fun k i => spec_l11All.l0 k (allB i) (i : Int) kn br) br.length _ (fun _ => True) (fun i hi _ => .inl ⟨trivial, fun hn => ?_⟩) (fun _ => ?_) br.length 0 (by omega) (by omega) trivial
 ·refine ev_succ ?_
  simp only [spec_l11All.l0]
  rw [allB_succ] at hn
  rw [succ_cast i (by omega)]
  exact ev_if_pos (by omega) (ev_if_pos (by rw [allB_len]; omega) hn)
 ·refine ev_succ ?_
  simp only [spec_l11All.l0]
  exact ev_if_neg (by omega) (ev_now fun _ => rfl)
end Go.Proofs.Ytimjblgepbhoaaa.Pure

