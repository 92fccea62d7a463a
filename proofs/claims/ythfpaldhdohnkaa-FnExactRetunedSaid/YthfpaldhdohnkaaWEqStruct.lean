/- Words that the walks use, laid by the print; those that nothing here names are left out. -/
import Derived.Test.YthfpaldhdohnkaaWWords
import Derived.Laws.StructEq
namespace Go.Proofs.YthfpaldhdohnkaaW.PrintWords
open Go.RowKit
section
variable {P : Program} {d : Nat} {xs ys : Array Value} {f : Field} {fs : List Field} {a b : Value} {r s : Bool} {w : World}
end
end Go.Proofs.YthfpaldhdohnkaaW.PrintWords

