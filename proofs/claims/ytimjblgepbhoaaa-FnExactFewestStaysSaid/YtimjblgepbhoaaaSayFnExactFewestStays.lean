import Derived.Test.YtimjblgepbhoaaaHFnExactFewestStaysx0
namespace Go.Proofs.Ytimjblgepbhoaaa.Say
open Go.RowKit Go.Proofs.Ytimjblgepbhoaaa.PStays Go.Proofs.YtimjblgepbhoaaaW.PrintWords Go.Proofs.YtimjblgepbhoaaaW.PrintLast Go.Proofs.YtimjblgepbhoaaaW.PrintMore
/-- What is left to prove: numbers and lists alone. -/
def FnExactFewestStays : Prop := ∀ (l0_0 : List S166) (l0_1 : List S168) (l1 : List (List S122)), (List.length l0_0 ≤ maxLen ∧ ∀ yl0_0 ∈ l0_0, ((Lit.int .i64 yl0_0.f0).wf = true ∧ (Lit.int .i64 yl0_0.f1).wf = true ∧ True)) → (List.length l0_1 ≤ maxLen ∧ ∀ yl0_1 ∈ l0_1, ((Lit.int .i64 yl0_1.f0).wf = true ∧ (Lit.int .i64 yl0_1.f1).wf = true ∧ True)) → (List.length l1 ≤ maxLen ∧ ∀ yl1 ∈ l1, (List.length yl1 ≤ maxLen ∧ ∀ yyl1 ∈ yl1, ((Lit.int .i64 yyl1.f0).wf = true ∧ (Lit.int .i64 yyl1.f1).wf = true))) → ∃ k, laws_FnExactFewestStays.f k l0_0 l0_1 l1 = some true
end Go.Proofs.Ytimjblgepbhoaaa.Say
