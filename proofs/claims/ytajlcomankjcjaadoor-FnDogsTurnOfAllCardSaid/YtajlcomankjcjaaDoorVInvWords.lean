import Derived.Test.YtajlcomankjcjaaDoorVInv
import Derived.Test.YtajlcomankjcjaaDoorVFootNe
namespace Go.Proofs.YtajlcomankjcjaaDoorW.PrintWords
open Go.RowKit
end Go.Proofs.YtajlcomankjcjaaDoorW.PrintWords
namespace Go.Proofs.YtajlcomankjcjaaDoorW.PrintLast
section
variable {ops : Array Oper} {a : Act} {o og : Oper} {g : Nat} {t : Tmp} {u : Bool}
end
end Go.Proofs.YtajlcomankjcjaaDoorW.PrintLast
