import Derived.Test.YtimjblgepbhoaaaHStays0
import Derived.Test.YtimjblgepbhoaaaPlain
import Derived.Test.YtimjblgepbhoaaaHStaysc
import Derived.Test.YtimjblgepbhoaaaHStaysv
import Derived.Test.YtimjblgepbhoaaaPureStaysA
namespace Go.Proofs.Ytimjblgepbhoaaa.Pure
open Go.RowKit Go.Proofs.Ytimjblgepbhoaaa.PStays Go.Proofs.Ytimjblgepbhoaaa.Plain Go.Proofs.YtimjblgepbhoaaaW.PrintWords Go.Proofs.YtimjblgepbhoaaaW.PrintMore
set_option linter.unusedVariables false
set_option linter.unusedSimpArgs false
theorem codeE (kn : List S164) (br : List S115) (ld : List S113) (bs : List Int) (hl : ld.length ≤ 1048576) (hb : bs.length ≤ 1048576) : Ev (fun k => spec_l11Code.f k kn br ld bs) (if (frB kn br && ldB kn ld) = true then (if bsB br bs = true then 0 else 2) else 1) := by
 unfold spec_l11Code.f
 have hok : Ev (fun k => spec_l09Ok.f k kn br) (frB kn br) := ev_now fun _ => rfl
 have jt : Ev (fun k => spec_l11Code.j0 k bs true kn br) 1 := by
  refine ev_succ ?_
  simp only [spec_l11Code.j0]
  exact ev_if_pos trivial (ev_now fun _ => rfl)
 refine ev_bind hok ?_
 cases hf : frB kn br with
 | false => exact ev_if_neg Bool.false_ne_true (by simpa using jt)
 | true =>
  refine ev_if_pos rfl (ev_bind (loadsS kn br ld hl) ?_)
  rw [Bool.true_and]
  cases hd : ldB kn ld with
  | false => simpa using jt
  | true =>
   have h8 := (frB_is hf).2.1
   refine ev_succ ?_
   simp only [spec_l11Code.j0]
   refine ev_if_neg (by decide) (ev_bind (barsS kn bs h8 hb) ?_)
   rw [if_pos trivial]
   cases hs : bsB br bs with
   | true => exact ev_if_pos rfl (ev_now fun _ => rfl)
   | false => exact ev_if_neg Bool.false_ne_true (ev_now fun _ => rfl)
end Go.Proofs.Ytimjblgepbhoaaa.Pure

