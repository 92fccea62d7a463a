import Derived.Test.YthfpaldhdohnkaaHFnExactTurnsNeededx7
namespace Go.Proofs.Ythfpaldhdohnkaa.Say
open Go.RowKit Go.Proofs.Ythfpaldhdohnkaa.PFnExactTurnsNeeded Go.Proofs.YthfpaldhdohnkaaW.PrintWords Go.Proofs.YthfpaldhdohnkaaW.PrintLast Go.Proofs.YthfpaldhdohnkaaW.PrintMore
/-- What is left to prove: numbers and lists alone. -/
def FnExactTurnsNeeded : Prop := ∀ (l0_0 : List Int) (l0_1 : List (List Int)) (l1 : List Int) (l2 : List Int), (List.length l0_0 ≤ maxLen ∧ ∀ yl0_0 ∈ l0_0, (Lit.int .i64 yl0_0).wf = true) → (List.length l0_1 ≤ maxLen ∧ ∀ yl0_1 ∈ l0_1, (List.length yl0_1 ≤ maxLen ∧ ∀ yyl0_1 ∈ yl0_1, (Lit.int .i64 yyl0_1).wf = true)) → (List.length l1 ≤ maxLen ∧ ∀ yl1 ∈ l1, (Lit.int .i64 yl1).wf = true) → (List.length l2 ≤ maxLen ∧ ∀ yl2 ∈ l2, (Lit.int .i64 yl2).wf = true) → ∃ k, laws_FnExactTurnsNeeded.f k l0_0 l0_1 l1 l2 = some true
end Go.Proofs.Ythfpaldhdohnkaa.Say
