import Derived.Test.YtajlcomankjcjabGreatDoorVInv
import Derived.Test.YtajlcomankjcjabGreatDoorVFootNe
namespace Go.Proofs.YtajlcomankjcjabGreatDoorW.PrintWords
open Go.RowKit
end Go.Proofs.YtajlcomankjcjabGreatDoorW.PrintWords
namespace Go.Proofs.YtajlcomankjcjabGreatDoorW.PrintLast
section
variable {ops : Array Oper} {a : Act} {o og : Oper} {g : Nat} {t : Tmp} {u : Bool}
end
end Go.Proofs.YtajlcomankjcjabGreatDoorW.PrintLast
