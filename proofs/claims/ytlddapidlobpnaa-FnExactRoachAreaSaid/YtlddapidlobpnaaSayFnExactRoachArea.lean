import Derived.Test.YtlddapidlobpnaaPFnExactRoachAreax2
namespace Go.Proofs.Ytlddapidlobpnaa.Say
open Go.RowKit Go.Proofs.Ytlddapidlobpnaa.PFnExactRoachArea Go.Proofs.YtlddapidlobpnaaW.PrintWords Go.Proofs.YtlddapidlobpnaaW.PrintLast Go.Proofs.YtlddapidlobpnaaW.PrintMore
/-- What is left to prove: numbers and lists alone. -/
def FnExactRoachArea : Prop := ∀ (a0_0 : Int) (a0_1 : Int), (Lit.int .i64 a0_0).wf = true → (Lit.int .i64 a0_1).wf = true → ∃ k, laws_FnExactRoachArea.f k a0_0 a0_1 = some true
end Go.Proofs.Ytlddapidlobpnaa.Say
