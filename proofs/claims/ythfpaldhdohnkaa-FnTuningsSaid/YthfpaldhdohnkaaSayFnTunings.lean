import Derived.Test.YthfpaldhdohnkaaHFnTuningsx0
namespace Go.Proofs.Ythfpaldhdohnkaa.Say
open Go.RowKit Go.Proofs.Ythfpaldhdohnkaa.PTune Go.Proofs.YthfpaldhdohnkaaW.PrintWords Go.Proofs.YthfpaldhdohnkaaW.PrintLast Go.Proofs.YthfpaldhdohnkaaW.PrintMore
/-- What is left to prove: numbers and lists alone. -/
def FnTunings : Prop := ∀ (l0 : List Int) (l1 : List Int), (List.length l0 ≤ maxLen ∧ ∀ yl0 ∈ l0, (Lit.int .u8 yl0).wf = true) → (List.length l1 ≤ maxLen ∧ ∀ yl1 ∈ l1, (Lit.int .u8 yl1).wf = true) → ∃ k, laws_FnTunings.f k l0 l1 = some true
end Go.Proofs.Ythfpaldhdohnkaa.Say
