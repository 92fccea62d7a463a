import Derived.Test.YtcomncokgkeniaaHFnExactWidthAtx0
namespace Go.Proofs.Ytcomncokgkeniaa.Say
open Go.RowKit Go.Proofs.Ytcomncokgkeniaa.PSailw Go.Proofs.YtcomncokgkeniaaW.PrintWords Go.Proofs.YtcomncokgkeniaaW.PrintLast Go.Proofs.YtcomncokgkeniaaW.PrintMore
/-- What is left to prove: numbers and lists alone. -/
def FnExactWidthAt : Prop := ∀ (l0 : List S51) (a1 : Int), (List.length l0 ≤ maxLen ∧ ∀ yl0 ∈ l0, ((Lit.int .i64 yl0.f0).wf = true ∧ (Lit.int .i64 yl0.f1).wf = true)) → (Lit.int .i64 a1).wf = true → ∃ k, laws_FnExactWidthAt.f k l0 a1 = some true
end Go.Proofs.Ytcomncokgkeniaa.Say
