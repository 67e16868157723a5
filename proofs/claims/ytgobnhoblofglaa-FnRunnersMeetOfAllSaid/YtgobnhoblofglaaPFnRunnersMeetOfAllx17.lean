-- Laid by a program of this session's (wip/gen/printp.sh): the functions that the law reaches, each with its walk.
import Derived.Test.YtgobnhoblofglaaPFnRunnersMeetOfAllx0
import Derived.Test.YtgobnhoblofglaaPFnRunnersMeetOfAllx1
import Derived.Test.YtgobnhoblofglaaPFnRunnersMeetOfAllx2
import Derived.Test.YtgobnhoblofglaaPFnRunnersMeetOfAllx3
import Derived.Test.YtgobnhoblofglaaPFnRunnersMeetOfAllx4
import Derived.Test.YtgobnhoblofglaaPFnRunnersMeetOfAllx5
import Derived.Test.YtgobnhoblofglaaPFnRunnersMeetOfAllx6
import Derived.Test.YtgobnhoblofglaaPFnRunnersMeetOfAllx7
import Derived.Test.YtgobnhoblofglaaPFnRunnersMeetOfAllx8
import Derived.Test.YtgobnhoblofglaaPFnRunnersMeetOfAllx9
import Derived.Test.YtgobnhoblofglaaPFnRunnersMeetOfAllx10
import Derived.Test.YtgobnhoblofglaaPFnRunnersMeetOfAllx11
import Derived.Test.YtgobnhoblofglaaPFnRunnersMeetOfAllx12
import Derived.Test.YtgobnhoblofglaaPFnRunnersMeetOfAllx13
import Derived.Test.YtgobnhoblofglaaPFnRunnersMeetOfAllx14
import Derived.Test.YtgobnhoblofglaaPFnRunnersMeetOfAllx15
import Derived.Test.YtgobnhoblofglaaPFnRunnersMeetOfAllx16
namespace Go.Proofs.Ytgobnhoblofglaa.PFnRunnersMeetOfAll
open Go.RowKit Go.Proofs.YtgobnhoblofglaaW.PrintWords Go.Proofs.YtgobnhoblofglaaW.PrintLast Go.Proofs.YtgobnhoblofglaaW.PrintMore
attribute [local go_sem] max2_int min2_int max_two min_two max_three min_three max_four min_four   -- for this text's walks alone
set_option linter.unusedVariables false
set_option linter.unusedSimpArgs false
theorem laws_FnRunnersMeetOfAll.calls (k : Nat) (a0 : Int) (a1_0 : Int) (a1_1 : Int) (a2_0 : Int) (a2_1 : Int) (a3 : Int) (a4 : Int) (A5 : Option Addr) (c5 : Nat) (l5 : List (S45)) (r : Bool) (w : World) (hr5 : Kd.C k45 w A5 l5.length l5) (hc5 : l5.length ≤ c5) (h : laws_FnRunnersMeetOfAll.f k a0 a1_0 a1_1 a2_0 a2_1 a3 a4 l5 = some r) (hrt : r = true) :
  Calls Try.prog 5 #[.int .i64 a0, .agg #[.int .i64 a1_0, .int .i64 a1_1], .agg #[.int .i64 a2_0, .int .i64 a2_1], .int .i64 a3, .int .i64 a4, .slice A5 l5.length c5] w fun e w' => e = .returned (.bool r) ∧ Below w.heap.size w w' := (laws_FnRunnersMeetOfAll.part k a0 a1_0 a1_1 a2_0 a2_1 a3 a4 A5 c5 l5 r w).2.2.2.2.2.2 ⟨laws_FnRunnersMeetOfAll.case1 k a0 a1_0 a1_1 a2_0 a2_1 a3 a4 A5 c5 l5 r w⟩ ⟨laws_FnRunnersMeetOfAll.case2 k a0 a1_0 a1_1 a2_0 a2_1 a3 a4 A5 c5 l5 r w⟩ ⟨laws_FnRunnersMeetOfAll.case3 k a0 a1_0 a1_1 a2_0 a2_1 a3 a4 A5 c5 l5 r w⟩ ⟨laws_FnRunnersMeetOfAll.case4 k a0 a1_0 a1_1 a2_0 a2_1 a3 a4 A5 c5 l5 r w⟩ ⟨laws_FnRunnersMeetOfAll.case5 k a0 a1_0 a1_1 a2_0 a2_1 a3 a4 A5 c5 l5 r w⟩ ⟨laws_FnRunnersMeetOfAll.case6 k a0 a1_0 a1_1 a2_0 a2_1 a3 a4 A5 c5 l5 r w⟩ hr5 hc5 h hrt
end Go.Proofs.Ytgobnhoblofglaa.PFnRunnersMeetOfAll
