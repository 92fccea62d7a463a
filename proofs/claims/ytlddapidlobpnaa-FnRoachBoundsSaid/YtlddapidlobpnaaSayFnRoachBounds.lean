import Derived.Test.YtlddapidlobpnaaHFnRoachBoundsx2
namespace Go.Proofs.Ytlddapidlobpnaa.Say
open Go.RowKit Go.Proofs.Ytlddapidlobpnaa.PFnRoachBounds Go.Proofs.YtlddapidlobpnaaW.PrintWords Go.Proofs.YtlddapidlobpnaaW.PrintLast Go.Proofs.YtlddapidlobpnaaW.PrintMore
/-- What is left to prove: numbers and lists alone. -/
def FnRoachBounds : Prop := ∀ (l0 : List Int) (l1 : List Int), (List.length l0 ≤ maxLen ∧ ∀ yl0 ∈ l0, (Lit.int .u8 yl0).wf = true) → (List.length l1 ≤ maxLen ∧ ∀ yl1 ∈ l1, (Lit.int .u8 yl1).wf = true) → ∃ k, laws_FnRoachBounds.f k l0 l1 = some true
end Go.Proofs.Ytlddapidlobpnaa.Say
