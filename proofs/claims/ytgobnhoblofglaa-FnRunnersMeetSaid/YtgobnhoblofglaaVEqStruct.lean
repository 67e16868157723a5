import Derived.Test.YtgobnhoblofglaaVWords
import Derived.Laws.StructEq
namespace Go.Proofs.YtgobnhoblofglaaW.PrintWords
open Go.RowKit
section
variable {P : Program} {d : Nat} {xs ys : Array Value} {f : Field} {fs : List Field} {a b : Value} {r s : Bool} {w : World}
end
end Go.Proofs.YtgobnhoblofglaaW.PrintWords
