import Derived.Test.YtlddapidlobpnaaHFnExactRoachHeightx2
namespace Go.Proofs.Ytlddapidlobpnaa.Say
open Go.RowKit Go.Proofs.Ytlddapidlobpnaa.PFnExactRoachHeight Go.Proofs.YtlddapidlobpnaaW.PrintWords Go.Proofs.YtlddapidlobpnaaW.PrintLast Go.Proofs.YtlddapidlobpnaaW.PrintMore
/-- What is left to prove: numbers and lists alone. -/
def FnExactRoachHeight : Prop := ∀ (a0_0 : Int) (a0_1 : Int) (a1 : Int), (Lit.int .i64 a0_0).wf = true → (Lit.int .i64 a0_1).wf = true → (Lit.int .i64 a1).wf = true → ∃ k, laws_FnExactRoachHeight.f k a0_0 a0_1 a1 = some true
end Go.Proofs.Ytlddapidlobpnaa.Say
