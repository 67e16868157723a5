import Derived.Test.YtfkieckkmcibbaaGreatDoorVInv
import Derived.Test.YtfkieckkmcibbaaGreatDoorVFootNe
namespace Go.Proofs.YtfkieckkmcibbaaGreatDoorW.PrintWords
open Go.RowKit
end Go.Proofs.YtfkieckkmcibbaaGreatDoorW.PrintWords
namespace Go.Proofs.YtfkieckkmcibbaaGreatDoorW.PrintLast
section
variable {ops : Array Oper} {a : Act} {o og : Oper} {g : Nat} {t : Tmp} {u : Bool}
end
end Go.Proofs.YtfkieckkmcibbaaGreatDoorW.PrintLast
