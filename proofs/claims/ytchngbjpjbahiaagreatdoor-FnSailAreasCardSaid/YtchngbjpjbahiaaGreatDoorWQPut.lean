/- Words that the walks use, laid by the print; those that nothing here names are left out. -/
import Derived.Test.YtchngbjpjbahiaaGreatDoorWWords
import Derived.Test.YtchngbjpjbahiaaGreatDoorWLast
namespace Go.Proofs.YtchngbjpjbahiaaGreatDoorW.PrintWords
open Go.RowKit
namespace Kd
section
variable {α : Type} {d : Kd α} {e base g o n cap : Nat} {ok okp : Nat → Prop} {w W : World} {v : Value} {xs : List α}
end
section
variable {α : Type} {enc : α → Value} {h1 : ∀ x, (enc x).oneCell' = true} {e base g o n cap : Nat} {ok : Nat → Prop} {W : World} {xs : List α}
end
end Kd
end Go.Proofs.YtchngbjpjbahiaaGreatDoorW.PrintWords

