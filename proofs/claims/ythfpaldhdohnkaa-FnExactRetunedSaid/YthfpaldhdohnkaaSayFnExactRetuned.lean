import Derived.Test.YthfpaldhdohnkaaHFnExactRetunedx8
namespace Go.Proofs.Ythfpaldhdohnkaa.Say
open Go.RowKit Go.Proofs.Ythfpaldhdohnkaa.PFnExactRetuned Go.Proofs.YthfpaldhdohnkaaW.PrintWords Go.Proofs.YthfpaldhdohnkaaW.PrintLast Go.Proofs.YthfpaldhdohnkaaW.PrintMore
/-- What is left to prove: numbers and lists alone. -/
def FnExactRetuned : Prop := ∀ (l0_0 : List Int) (l0_1 : List (List Int)) (l1 : List Int), (List.length l0_0 ≤ maxLen ∧ ∀ yl0_0 ∈ l0_0, (Lit.int .i64 yl0_0).wf = true) → (List.length l0_1 ≤ maxLen ∧ ∀ yl0_1 ∈ l0_1, (List.length yl0_1 ≤ maxLen ∧ ∀ yyl0_1 ∈ yl0_1, (Lit.int .i64 yyl0_1).wf = true)) → (List.length l1 ≤ maxLen ∧ ∀ yl1 ∈ l1, (Lit.int .i64 yl1).wf = true) → ∃ k, laws_FnExactRetuned.f k l0_0 l0_1 l1 = some true
end Go.Proofs.Ythfpaldhdohnkaa.Say
