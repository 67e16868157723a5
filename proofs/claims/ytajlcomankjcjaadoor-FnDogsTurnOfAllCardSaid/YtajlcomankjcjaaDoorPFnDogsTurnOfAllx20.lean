-- Laid by a program of this session's (wip/gen/printp.sh): the functions that the law reaches, each with its walk.
import Derived.Test.YtajlcomankjcjaaDoorPFnDogsTurnOfAllx0
import Derived.Test.YtajlcomankjcjaaDoorPFnDogsTurnOfAllx1
import Derived.Test.YtajlcomankjcjaaDoorPFnDogsTurnOfAllx2
import Derived.Test.YtajlcomankjcjaaDoorPFnDogsTurnOfAllx5
import Derived.Test.YtajlcomankjcjaaDoorPFnDogsTurnOfAllx6
import Derived.Test.YtajlcomankjcjaaDoorPFnDogsTurnOfAllx7
import Derived.Test.YtajlcomankjcjaaDoorPFnDogsTurnOfAllx8
import Derived.Test.YtajlcomankjcjaaDoorPFnDogsTurnOfAllx9
import Derived.Test.YtajlcomankjcjaaDoorPFnDogsTurnOfAllx10
import Derived.Test.YtajlcomankjcjaaDoorPFnDogsTurnOfAllx11
import Derived.Test.YtajlcomankjcjaaDoorPFnDogsTurnOfAllx12
import Derived.Test.YtajlcomankjcjaaDoorPFnDogsTurnOfAllx13
import Derived.Test.YtajlcomankjcjaaDoorPFnDogsTurnOfAllx14
import Derived.Test.YtajlcomankjcjaaDoorPFnDogsTurnOfAllx15
import Derived.Test.YtajlcomankjcjaaDoorPFnDogsTurnOfAllx16
import Derived.Test.YtajlcomankjcjaaDoorPFnDogsTurnOfAllx17
import Derived.Test.YtajlcomankjcjaaDoorPFnDogsTurnOfAllx18
import Derived.Test.YtajlcomankjcjaaDoorPFnDogsTurnOfAllx19
namespace Go.Proofs.YtajlcomankjcjaaDoor.PFnDogsTurnOfAll
open Go.RowKit Go.Proofs.YtajlcomankjcjaaDoorW.PrintWords Go.Proofs.YtajlcomankjcjaaDoorW.PrintLast Go.Proofs.YtajlcomankjcjaaDoorW.PrintMore
attribute [local go_sem] max2_int min2_int max_two min_two max_three min_three max_four min_four   -- for this text's walks alone
set_option linter.unusedVariables false
set_option linter.unusedSimpArgs false

attribute [local go_sem high] eqA23
theorem laws_FnDogsTurnOfAll.calls (k : Nat) (a0_0 : Int) (a0_1 : Int) (a0_2 : Int) (a0_3 : Int) (a1 : Int) (a2_0 : Int) (a2_1 : Int) (a2_2 : Int) (a2_3 : Int) (r : Bool) (w : World) (h : laws_FnDogsTurnOfAll.f k a0_0 a0_1 a0_2 a0_3 a1 a2_0 a2_1 a2_2 a2_3 = some r) (hrt : r = true) (hL0 : LaidA w := by first | (with_reducible exact hL0) | exact LaidA.below hL0 (by repeat (first | (with_reducible first | exact HB.out | apply below_alloc | apply pw_below_drewN | apply below_drew1 | refine below_set ?_ (Nat.le_refl _) | refine below_set ?_ (Aside0.out (by assumption))) | exact HB.out | exact Below.refl _ _))) :
  Calls Tryd.prog 3 #[.agg #[.int .i64 a0_0, .int .i64 a0_1, .int .i64 a0_2, .int .i64 a0_3], .int .i64 a1, .agg #[.int .i64 a2_0, .int .i64 a2_1, .int .i64 a2_2, .int .i64 a2_3]] w fun e w' => e = .returned (.bool r) ∧ Below w.heap.size w w' := (laws_FnDogsTurnOfAll.part k a0_0 a0_1 a0_2 a0_3 a1 a2_0 a2_1 a2_2 a2_3 r w).2.2.2.2.2.2.2 ⟨laws_FnDogsTurnOfAll.case1 k a0_0 a0_1 a0_2 a0_3 a1 a2_0 a2_1 a2_2 a2_3 r w⟩ ⟨laws_FnDogsTurnOfAll.case2 k a0_0 a0_1 a0_2 a0_3 a1 a2_0 a2_1 a2_2 a2_3 r w⟩ ⟨laws_FnDogsTurnOfAll.case3 k a0_0 a0_1 a0_2 a0_3 a1 a2_0 a2_1 a2_2 a2_3 r w⟩ ⟨laws_FnDogsTurnOfAll.case4 k a0_0 a0_1 a0_2 a0_3 a1 a2_0 a2_1 a2_2 a2_3 r w⟩ ⟨laws_FnDogsTurnOfAll.case5 k a0_0 a0_1 a0_2 a0_3 a1 a2_0 a2_1 a2_2 a2_3 r w⟩ ⟨laws_FnDogsTurnOfAll.case6 k a0_0 a0_1 a0_2 a0_3 a1 a2_0 a2_1 a2_2 a2_3 r w⟩ ⟨laws_FnDogsTurnOfAll.case7 k a0_0 a0_1 a0_2 a0_3 a1 a2_0 a2_1 a2_2 a2_3 r w⟩ h hrt hL0
end Go.Proofs.YtajlcomankjcjaaDoor.PFnDogsTurnOfAll
