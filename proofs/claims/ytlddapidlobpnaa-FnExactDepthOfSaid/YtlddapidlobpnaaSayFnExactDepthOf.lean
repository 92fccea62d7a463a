import Derived.Test.YtlddapidlobpnaaPFnExactDepthOfx2
namespace Go.Proofs.Ytlddapidlobpnaa.Say
open Go.RowKit Go.Proofs.Ytlddapidlobpnaa.PFnExactDepthOf Go.Proofs.YtlddapidlobpnaaW.PrintWords Go.Proofs.YtlddapidlobpnaaW.PrintLast Go.Proofs.YtlddapidlobpnaaW.PrintMore
/-- What is left to prove: numbers and lists alone. -/
def FnExactDepthOf : Prop := ∀ (l0 : List Int), (List.length l0 ≤ maxLen ∧ ∀ yl0 ∈ l0, (Lit.int .i64 yl0).wf = true) → ∃ k, laws_FnExactDepthOf.f k l0 = some true
end Go.Proofs.Ytlddapidlobpnaa.Say
