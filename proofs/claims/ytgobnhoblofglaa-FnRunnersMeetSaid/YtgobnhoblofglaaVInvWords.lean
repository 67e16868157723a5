import Derived.Test.YtgobnhoblofglaaVInv
import Derived.Test.YtgobnhoblofglaaVFootNe
namespace Go.Proofs.YtgobnhoblofglaaW.PrintWords
open Go.RowKit
end Go.Proofs.YtgobnhoblofglaaW.PrintWords
namespace Go.Proofs.YtgobnhoblofglaaW.PrintLast
section
variable {ops : Array Oper} {a : Act} {o og : Oper} {g : Nat} {t : Tmp} {u : Bool}
end
end Go.Proofs.YtgobnhoblofglaaW.PrintLast
