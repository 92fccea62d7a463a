/- Words that the walks use, laid by the print; those that nothing here names are left out. -/
import Derived.Test.YtchngbjpjbahiaaGreatDoorWTab
namespace Go.Proofs.YtchngbjpjbahiaaGreatDoorW.PrintLast
section
variable {P : Program} {ops : Array Oper} {Q : Exit → Act → World → Prop} {md : Region.Mode} {S : World → Prop} {ds : List Nat} {T : Bool × List (List Nat × List Nat)}
end
end Go.Proofs.YtchngbjpjbahiaaGreatDoorW.PrintLast

