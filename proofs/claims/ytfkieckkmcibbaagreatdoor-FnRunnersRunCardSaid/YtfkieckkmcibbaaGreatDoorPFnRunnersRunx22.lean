-- Laid by a program of this session's (wip/gen/printp.sh): the functions that the law reaches, each with its walk.
import Derived.Test.YtfkieckkmcibbaaGreatDoorPFnRunnersRunx0
import Derived.Test.YtfkieckkmcibbaaGreatDoorPFnRunnersRunx2
import Derived.Test.YtfkieckkmcibbaaGreatDoorPFnRunnersRunx3
import Derived.Test.YtfkieckkmcibbaaGreatDoorPFnRunnersRunx5
import Derived.Test.YtfkieckkmcibbaaGreatDoorPFnRunnersRunx6
import Derived.Test.YtfkieckkmcibbaaGreatDoorPFnRunnersRunx7
import Derived.Test.YtfkieckkmcibbaaGreatDoorPFnRunnersRunx8
import Derived.Test.YtfkieckkmcibbaaGreatDoorPFnRunnersRunx9
import Derived.Test.YtfkieckkmcibbaaGreatDoorPFnRunnersRunx10
import Derived.Test.YtfkieckkmcibbaaGreatDoorPFnRunnersRunx11
import Derived.Test.YtfkieckkmcibbaaGreatDoorPFnRunnersRunx12
import Derived.Test.YtfkieckkmcibbaaGreatDoorPFnRunnersRunx13
import Derived.Test.YtfkieckkmcibbaaGreatDoorPFnRunnersRunx14
import Derived.Test.YtfkieckkmcibbaaGreatDoorPFnRunnersRunx15
import Derived.Test.YtfkieckkmcibbaaGreatDoorPFnRunnersRunx16
import Derived.Test.YtfkieckkmcibbaaGreatDoorPFnRunnersRunx17
import Derived.Test.YtfkieckkmcibbaaGreatDoorPFnRunnersRunx18
import Derived.Test.YtfkieckkmcibbaaGreatDoorPFnRunnersRunx19
import Derived.Test.YtfkieckkmcibbaaGreatDoorPFnRunnersRunx20
import Derived.Test.YtfkieckkmcibbaaGreatDoorPFnRunnersRunx21
namespace Go.Proofs.YtfkieckkmcibbaaGreatDoor.PFnRunnersRun
open Go.RowKit Go.Proofs.YtfkieckkmcibbaaGreatDoorW.PrintWords Go.Proofs.YtfkieckkmcibbaaGreatDoorW.PrintLast Go.Proofs.YtfkieckkmcibbaaGreatDoorW.PrintMore
attribute [local go_sem] max2_int min2_int max_two min_two max_three min_three max_four min_four   -- for this text's walks alone
set_option linter.unusedVariables false
set_option linter.unusedSimpArgs false
theorem laws_FnRunnersRun.calls (k : Nat) (A0 : Option Addr) (c0 : Nat) (l0 : List Int) (A1 : Option Addr) (c1 : Nat) (l1 : List Int) (r : Bool) (w : World) (hr0 : Kd.C (Kd.int .u8) w A0 l0.length l0) (hc0 : l0.length ≤ c0) (hr1 : Kd.C (Kd.int .u8) w A1 l1.length l1) (hc1 : l1.length ≤ c1) (h : laws_FnRunnersRun.f k l0 l1 = some r) (hrt : r = true) (hL0 : LaidA w := by first | (with_reducible exact hL0) | exact LaidA.below hL0 (by repeat (first | (with_reducible first | exact HB.out | apply below_alloc | apply pw_below_drewN | apply below_drew1 | refine below_set ?_ (Nat.le_refl _) | refine below_set ?_ (Aside0.out (by assumption))) | exact HB.out | exact Below.refl _ _))) :
  Calls Tryz.prog 3 #[.slice A0 l0.length c0, .slice A1 l1.length c1] w fun e w' => e = .returned (.bool r) ∧ Below w.heap.size w w' := (laws_FnRunnersRun.part k A0 c0 l0 A1 c1 l1 r w).2.2.2 ⟨laws_FnRunnersRun.case1 k A0 c0 l0 A1 c1 l1 r w⟩ ⟨laws_FnRunnersRun.case2 k A0 c0 l0 A1 c1 l1 r w⟩ ⟨laws_FnRunnersRun.case3 k A0 c0 l0 A1 c1 l1 r w⟩ hr0 hc0 hr1 hc1 h hrt hL0
/-- THE ONE PURE STATEMENT of laws_FnRunnersRun: yours. -/
def laws_FnRunnersRun.Pure : Prop := ∀ (l0 : List Int) (l1 : List Int), l0.length ≤ maxLen → l0.length * 1 ≤ 140737488351232 → (∀ x ∈ l0, (Lit.int .u8 x).wf = true) → l1.length ≤ maxLen → l1.length * 1 ≤ 140737488351232 → (∀ x ∈ l1, (Lit.int .u8 x).wf = true) → ∃ k, laws_FnRunnersRun.f k l0 l1 = some true
theorem laws_FnRunnersRun.walk (P : laws_FnRunnersRun.Pure) (a0 : Option Addr) (len0 cap0 : Nat) (z0 : List Int) (a1 : Option Addr) (len1 cap1 : Nat) (z1 : List Int) (w : World) (w0 : (a0 = none ∧ len0 = 0 ∧ cap0 = 0 ∧ z0 = []) ∨ ∃ x, a0 = some x ∧ len0 ≤ cap0 ∧ cap0 ≤ maxLen ∧ z0.length = cap0 ∧ (∀ i, i < z0.length → w.cell? (x.add i) = some (.int .u8 (z0.getD i 0))) ∧ ∀ n ∈ z0, (Lit.int .u8 n).wf = true) (y0 : len0 * 1 ≤ 140737488351232) (w1 : (a1 = none ∧ len1 = 0 ∧ cap1 = 0 ∧ z1 = []) ∨ ∃ x, a1 = some x ∧ len1 ≤ cap1 ∧ cap1 ≤ maxLen ∧ z1.length = cap1 ∧ (∀ i, i < z1.length → w.cell? (x.add i) = some (.int .u8 (z1.getD i 0))) ∧ ∀ n ∈ z1, (Lit.int .u8 n).wf = true) (y1 : len1 * 1 ≤ 140737488351232) (hL0 : LaidA w := by first | (with_reducible exact hL0) | exact LaidA.below hL0 (by repeat (first | (with_reducible first | exact HB.out | apply below_alloc | apply pw_below_drewN | apply below_drew1 | refine below_set ?_ (Nat.le_refl _) | refine below_set ?_ (Aside0.out (by assumption))) | exact HB.out | exact Below.refl _ _))) :
  Calls Tryz.prog 3 #[.slice a0 len0 cap0, .slice a1 len1 cap1] w fun e w' => e = .returned (.bool true) ∧ Below w.heap.size w w' := by
 obtain ⟨l0, rfl, hr0, hm0, hw0, hc0⟩ := ReadsInt.ofRowC w0
 obtain ⟨l1, rfl, hr1, hm1, hw1, hc1⟩ := ReadsInt.ofRowC w1
 obtain ⟨k, h⟩ := P l0 l1 hm0 y0 hw0 hm1 y1 hw1
 refine (laws_FnRunnersRun.calls k _ _ l0 _ _ l1 true w (Kd.C_of_reads (d := (0 : Int)) (h1 := fun _ => rfl) hr0) hc0 (Kd.C_of_reads (d := (0 : Int)) (h1 := fun _ => rfl) hr1) hc1 h rfl).mono ?_
 rintro e w' ⟨rfl, hd⟩
 exact ⟨rfl, hd⟩

end Go.Proofs.YtfkieckkmcibbaaGreatDoor.PFnRunnersRun
