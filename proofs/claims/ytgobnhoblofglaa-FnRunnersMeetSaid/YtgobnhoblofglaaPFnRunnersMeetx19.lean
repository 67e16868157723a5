-- Laid by a program of this session's (wip/gen/printp.sh): the functions that the law reaches, each with its walk.
import Derived.Test.YtgobnhoblofglaaPFnRunnersMeetx0
import Derived.Test.YtgobnhoblofglaaPFnRunnersMeetx1
import Derived.Test.YtgobnhoblofglaaPFnRunnersMeetx2
import Derived.Test.YtgobnhoblofglaaPFnRunnersMeetx3
import Derived.Test.YtgobnhoblofglaaPFnRunnersMeetx4
import Derived.Test.YtgobnhoblofglaaPFnRunnersMeetx5
import Derived.Test.YtgobnhoblofglaaPFnRunnersMeetx6
import Derived.Test.YtgobnhoblofglaaPFnRunnersMeetx7
import Derived.Test.YtgobnhoblofglaaPFnRunnersMeetx8
import Derived.Test.YtgobnhoblofglaaPFnRunnersMeetx9
import Derived.Test.YtgobnhoblofglaaPFnRunnersMeetx10
import Derived.Test.YtgobnhoblofglaaPFnRunnersMeetx11
import Derived.Test.YtgobnhoblofglaaPFnRunnersMeetx12
import Derived.Test.YtgobnhoblofglaaPFnRunnersMeetx13
import Derived.Test.YtgobnhoblofglaaPFnRunnersMeetx14
import Derived.Test.YtgobnhoblofglaaPFnRunnersMeetx15
import Derived.Test.YtgobnhoblofglaaPFnRunnersMeetx16
import Derived.Test.YtgobnhoblofglaaPFnRunnersMeetx17
import Derived.Test.YtgobnhoblofglaaPFnRunnersMeetx18
namespace Go.Proofs.Ytgobnhoblofglaa.PFnRunnersMeet
open Go.RowKit Go.Proofs.YtgobnhoblofglaaW.PrintWords Go.Proofs.YtgobnhoblofglaaW.PrintLast Go.Proofs.YtgobnhoblofglaaW.PrintMore
attribute [local go_sem] max2_int min2_int max_two min_two max_three min_three max_four min_four   -- for this text's walks alone
set_option linter.unusedVariables false
set_option linter.unusedSimpArgs false
theorem laws_FnRunnersMeet.calls (k : Nat) (A0 : Option Addr) (c0 : Nat) (l0 : List Int) (A1 : Option Addr) (c1 : Nat) (l1 : List Int) (r : Bool) (w : World) (hr0 : Kd.C (Kd.int .u8) w A0 l0.length l0) (hc0 : l0.length ≤ c0) (hr1 : Kd.C (Kd.int .u8) w A1 l1.length l1) (hc1 : l1.length ≤ c1) (h : laws_FnRunnersMeet.f k l0 l1 = some r) (hrt : r = true) :
  Calls Try.prog 6 #[.slice A0 l0.length c0, .slice A1 l1.length c1] w fun e w' => e = .returned (.bool r) ∧ Below w.heap.size w w' := (laws_FnRunnersMeet.part k A0 c0 l0 A1 c1 l1 r w).2.2.2.2.2.2 ⟨laws_FnRunnersMeet.case1 k A0 c0 l0 A1 c1 l1 r w⟩ ⟨laws_FnRunnersMeet.case2 k A0 c0 l0 A1 c1 l1 r w⟩ ⟨laws_FnRunnersMeet.case3 k A0 c0 l0 A1 c1 l1 r w⟩ ⟨laws_FnRunnersMeet.case4 k A0 c0 l0 A1 c1 l1 r w⟩ ⟨laws_FnRunnersMeet.case5 k A0 c0 l0 A1 c1 l1 r w⟩ ⟨laws_FnRunnersMeet.case6 k A0 c0 l0 A1 c1 l1 r w⟩ hr0 hc0 hr1 hc1 h hrt
/-- THE ONE PURE STATEMENT of laws_FnRunnersMeet: yours. -/
def laws_FnRunnersMeet.Pure : Prop := ∀ (l0 : List Int) (l1 : List Int), l0.length ≤ maxLen → l0.length * 1 ≤ 140737488351232 → (∀ x ∈ l0, (Lit.int .u8 x).wf = true) → l1.length ≤ maxLen → l1.length * 1 ≤ 140737488351232 → (∀ x ∈ l1, (Lit.int .u8 x).wf = true) → ∃ k, laws_FnRunnersMeet.f k l0 l1 = some true
theorem laws_FnRunnersMeet.walk (P : laws_FnRunnersMeet.Pure) (a0 : Option Addr) (len0 cap0 : Nat) (z0 : List Int) (a1 : Option Addr) (len1 cap1 : Nat) (z1 : List Int) (w : World) (w0 : (a0 = none ∧ len0 = 0 ∧ cap0 = 0 ∧ z0 = []) ∨ ∃ x, a0 = some x ∧ len0 ≤ cap0 ∧ cap0 ≤ maxLen ∧ z0.length = cap0 ∧ (∀ i, i < z0.length → w.cell? (x.add i) = some (.int .u8 (z0.getD i 0))) ∧ ∀ n ∈ z0, (Lit.int .u8 n).wf = true) (y0 : len0 * 1 ≤ 140737488351232) (w1 : (a1 = none ∧ len1 = 0 ∧ cap1 = 0 ∧ z1 = []) ∨ ∃ x, a1 = some x ∧ len1 ≤ cap1 ∧ cap1 ≤ maxLen ∧ z1.length = cap1 ∧ (∀ i, i < z1.length → w.cell? (x.add i) = some (.int .u8 (z1.getD i 0))) ∧ ∀ n ∈ z1, (Lit.int .u8 n).wf = true) (y1 : len1 * 1 ≤ 140737488351232) :
  Calls Try.prog 6 #[.slice a0 len0 cap0, .slice a1 len1 cap1] w fun e w' => e = .returned (.bool true) ∧ Below w.heap.size w w' := by
 obtain ⟨l0, rfl, hr0, hm0, hw0, hc0⟩ := ReadsInt.ofRowC w0
 obtain ⟨l1, rfl, hr1, hm1, hw1, hc1⟩ := ReadsInt.ofRowC w1
 obtain ⟨k, h⟩ := P l0 l1 hm0 y0 hw0 hm1 y1 hw1
 refine (laws_FnRunnersMeet.calls k _ _ l0 _ _ l1 true w (Kd.C_of_reads (d := (0 : Int)) (h1 := fun _ => rfl) hr0) hc0 (Kd.C_of_reads (d := (0 : Int)) (h1 := fun _ => rfl) hr1) hc1 h rfl).mono ?_
 rintro e w' ⟨rfl, hd⟩
 exact ⟨rfl, hd⟩

end Go.Proofs.Ytgobnhoblofglaa.PFnRunnersMeet
