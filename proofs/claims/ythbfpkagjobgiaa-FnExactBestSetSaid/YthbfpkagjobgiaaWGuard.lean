/- Words that the walks use, laid by the print; those that nothing here names are left out. -/
import Derived.Test.YthbfpkagjobgiaaWWords
namespace Go.Proofs.YthbfpkagjobgiaaW.PrintWords
open Go.RowKit
section
variable {P : Program} {ops : Array Oper} {rest : List Oper} {o : Oper} {a : Act} {Q : Exit → Act → World → Prop} {W : World}
end
end Go.Proofs.YthbfpkagjobgiaaW.PrintWords

