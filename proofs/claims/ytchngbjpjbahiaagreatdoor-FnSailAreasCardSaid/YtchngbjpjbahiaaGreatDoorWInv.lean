/- Words that the walks use, laid by the print; those that nothing here names are left out. -/
import Derived.Test.YtchngbjpjbahiaaGreatDoorWTab
namespace Go.Proofs.YtchngbjpjbahiaaGreatDoorW.PrintLast
def up (b : Nat → Bool) (i : Nat) : Nat → Bool := fun j => if j = i then true else b j
section
variable {P : Program} {ops : Array Oper} {Q : Exit → Act → World → Prop} {md : Region.Mode} {T : Bool × List (List Nat × List Nat)} {B : List Nat} {O : List Nat} {b : Nat → Bool} {i j n : Nat}
end
end Go.Proofs.YtchngbjpjbahiaaGreatDoorW.PrintLast

