-- PRINTED BY print.sh 35421559b90ae4d0a3588c463048766b98c2df88dd9212a6774a882060cdf62d: not written by this session
import Derived.Test.YtbklgehlapcejaaProg
import Derived.Below
import Derived.Deep.Draws
import Derived.Deep.AppendLies
import Derived.Maps.AppendAt
import Derived.OwnWalk
import Derived.Laws.BytesArg
import Derived.Laws.MakeOwn
import Derived.Laws.OwnMore
import Derived.Deep.OwnRows
import Derived.Tactics
import Derived.Lib.ConvBytes
import Derived.Laws.Slices
import Derived.WalkKit
import Derived.KernelRfl
import Derived.RowKit3
import Derived.Deep.LoopGhost
import Derived.Deep.QuietTactic
import Derived.BigQuiet
import Derived.WideLaws
import Derived.Deep.DeepCutAuto
import Derived.Deep.CutBlock
import Derived.Deep.RegionHeld3
import Derived.Laws.Rows
import Derived.Lib.AppendStr
import Derived.ArgAppend
import Derived.Laws.IdiomCopy
import Derived.OrdersHeld
import Derived.Laws.BitsLemmas
import Derived.RowKit
import Derived.Test.YtbklgehlapcejaaWWords
import Derived.Test.YtbklgehlapcejaaWLast
import Derived.Test.YtbklgehlapcejaaWTab
import Derived.Test.YtbklgehlapcejaaWFour
import Derived.Test.YtbklgehlapcejaaWQPut
import Derived.Test.YtbklgehlapcejaaWApart
import Derived.Test.YtbklgehlapcejaaWArr
import Derived.Test.YtbklgehlapcejaaWZeros
import Derived.Test.YtbklgehlapcejaaWFoot
import Derived.Test.YtbklgehlapcejaaWKept
import Derived.Test.YtbklgehlapcejaaWShare
import Derived.Test.YtbklgehlapcejaaWN
import Derived.Test.YtbklgehlapcejaaWFootNe
import Derived.Test.YtbklgehlapcejaaWAt
import Derived.Test.YtbklgehlapcejaaWEqStruct
import Derived.Test.YtbklgehlapcejaaWRepsOne
import Derived.Test.YtbklgehlapcejaaWInv
import Derived.Test.YtbklgehlapcejaaWInvWords
import Derived.Test.YtbklgehlapcejaaWGuard
import Derived.Test.YtbklgehlapcejaaWNEv
import Derived.Test.YtbklgehlapcejaaWMore
namespace Go.Proofs.Ytbklgehlapcejaa.PFnExactCatchLeaps
open Go.RowKit Go.Proofs.YtbklgehlapcejaaW.PrintWords Go.Proofs.YtbklgehlapcejaaW.PrintLast Go.Proofs.YtbklgehlapcejaaW.PrintMore
attribute [local go_sem] max2_int min2_int max_two min_two max_three min_three max_four min_four   -- for this text's walks alone
set_option linter.unusedVariables false
set_option linter.unusedSimpArgs false



def errW : Option Int → Value
  | none => .nilIface
  | some c => .iface 0 (.int .i64 c)
theorem errW_none : errW none = .nilIface := rfl
theorem errW_some (c : Int) : errW (some c) = .iface 0 (.int .i64 c) := rfl

theorem info3 : (Try.prog.info? 3).map (fun i => (i.zero, i.size, i.bytes)) = some (some (.int .i64 0), 1, 8) := by kernel_rfl
-- the values' own types

end Go.Proofs.Ytbklgehlapcejaa.PFnExactCatchLeaps
