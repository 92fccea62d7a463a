/- Words that the walks use, laid by the print; those that nothing here names are left out. -/
import Derived.Test.YthbfpkagjobgiaaWWords
import Derived.Laws.StructEq
namespace Go.Proofs.YthbfpkagjobgiaaW.PrintWords
open Go.RowKit
section
variable {P : Program} {d : Nat} {xs ys : Array Value} {f : Field} {fs : List Field} {a b : Value} {r s : Bool} {w : World}
end
end Go.Proofs.YthbfpkagjobgiaaW.PrintWords

