/- Words that the walks use, laid by the print; those that nothing here names are left out. -/
import Derived.Test.YtchngbjpjbahiaaGreatDoorWApart
import Derived.Test.YtchngbjpjbahiaaGreatDoorWArr
namespace Go.Proofs.YtchngbjpjbahiaaGreatDoorW.PrintWords
open Go.RowKit
section
variable {P : Program}
end
namespace Kd
section
variable {P : Program} {ops : Array Oper} {rest : List Oper} {o : Oper} {a : Act} {Q : Exit → Act → World → Prop} {Kc : Act → World → Prop} {α : Type}
end
section
variable {α : Type} {d : Kd α} {e : Nat} {w : World} {base : Nat} {ok : Nat → Prop} {v : Value} {xs : List α}
end
section
variable {P : Program} {ops : Array Oper} {rest : List Oper} {o : Oper} {a : Act} {Q : Exit → Act → World → Prop} {Kc : Act → World → Prop} {α : Type}
end
end Kd
end Go.Proofs.YtchngbjpjbahiaaGreatDoorW.PrintWords

