import Derived.Test.YtajlcomankjcjadGreatDoorVInv
import Derived.Test.YtajlcomankjcjadGreatDoorVFootNe
namespace Go.Proofs.YtajlcomankjcjadGreatDoorW.PrintWords
open Go.RowKit
end Go.Proofs.YtajlcomankjcjadGreatDoorW.PrintWords
namespace Go.Proofs.YtajlcomankjcjadGreatDoorW.PrintLast
section
variable {ops : Array Oper} {a : Act} {o og : Oper} {g : Nat} {t : Tmp} {u : Bool}
end
end Go.Proofs.YtajlcomankjcjadGreatDoorW.PrintLast
