import Derived.Test.YtlddapidlobpnaaPFnExactValidWeavex1
namespace Go.Proofs.Ytlddapidlobpnaa.Say
open Go.RowKit Go.Proofs.Ytlddapidlobpnaa.PFnExactValidWeave Go.Proofs.YtlddapidlobpnaaW.PrintWords Go.Proofs.YtlddapidlobpnaaW.PrintLast Go.Proofs.YtlddapidlobpnaaW.PrintMore
/-- What is left to prove: numbers and lists alone. -/
def FnExactValidWeave : Prop := ∀ (a0_0 : Int) (a0_1 : Int) (a0_2 : Int), (Lit.int .i64 a0_0).wf = true → (Lit.int .i64 a0_1).wf = true → (Lit.int .i64 a0_2).wf = true → laws_FnExactValidWeave.f a0_0 a0_1 a0_2 = some true
end Go.Proofs.Ytlddapidlobpnaa.Say
