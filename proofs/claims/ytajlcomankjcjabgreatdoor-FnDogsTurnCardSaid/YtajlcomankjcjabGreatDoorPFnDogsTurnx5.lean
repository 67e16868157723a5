-- Laid by a program of this session's (wip/gen/printp.sh): the functions that the law reaches, each with its walk.
import Derived.Test.YtajlcomankjcjabGreatDoorPFnDogsTurnx0
import Derived.Test.YtajlcomankjcjabGreatDoorPFnDogsTurnx2
import Derived.Test.YtajlcomankjcjabGreatDoorPFnDogsTurnx3
import Derived.Test.YtajlcomankjcjabGreatDoorPFnDogsTurnx4
namespace Go.Proofs.YtajlcomankjcjabGreatDoor.PFnDogsTurn
open Go.RowKit Go.Proofs.YtajlcomankjcjabGreatDoorW.PrintWords Go.Proofs.YtajlcomankjcjabGreatDoorW.PrintLast Go.Proofs.YtajlcomankjcjabGreatDoorW.PrintMore
attribute [local go_sem] max2_int min2_int max_two min_two max_three min_three max_four min_four   -- for this text's walks alone
set_option linter.unusedVariables false
set_option linter.unusedSimpArgs false

/-! ### spec_doRun: function 37 -/
def spec_doRun.l0 : Nat → Int → List (S60) → Int → Int → Int → Int → Int → Int → Int → Int → Int → Int → Option ((List (S60)))
  | 0, _, _, _, _, _, _, _, _, _, _, _, _ => none
  | k + 1, x1, x6, x7, x220000, x220001, x220002, x220003, x221000, x221001, x221002, x221003, x221004 => if x7 ≤ x1 then (if (Int.tmod x7 2) = 0 then ((spec_l1Most.f 0 (wrap64 (-x220003))).bind fun t225 => (if x6.length < 3518437208883 then (spec_doRun.l0 k x1 (x6 ++ [(⟨wrap64 ((wrap64 (x221000 * (wrap64 (x220003 + x220001)))) + x221002), wrap64 ((wrap64 (x221001 * (wrap64 (x220003 + x220001)))) + (wrap64 ((wrap64 (-x220003)) * x221002))), wrap64 (x221002 * (wrap64 ((wrap64 ((wrap64 (x220003 + x220001)) - x220001)) - x220002))), wrap64 ((wrap64 (x221003 * (wrap64 (x220003 + x220001)))) + (wrap64 (t225 * x221002))), wrap64 (x221004 * (wrap64 (x220003 + x220001)))⟩ : S60)]) (wrap64 (x7 + 1)) x220000 x220001 x220002 x220003 (wrap64 ((wrap64 (x221000 * (wrap64 (x220003 + x220001)))) + x221002)) (wrap64 ((wrap64 (x221001 * (wrap64 (x220003 + x220001)))) + (wrap64 ((wrap64 (-x220003)) * x221002)))) (wrap64 (x221002 * (wrap64 ((wrap64 ((wrap64 (x220003 + x220001)) - x220001)) - x220002)))) (wrap64 ((wrap64 (x221003 * (wrap64 (x220003 + x220001)))) + (wrap64 (t225 * x221002)))) (wrap64 (x221004 * (wrap64 (x220003 + x220001))))) else (none))) else ((spec_l1Most.f 0 x220003).bind fun t230 => (if x6.length < 3518437208883 then (spec_doRun.l0 k x1 (x6 ++ [(⟨wrap64 ((wrap64 (x221000 * (wrap64 (x220003 + x220002)))) + x221002), wrap64 ((wrap64 (x221001 * (wrap64 (x220003 + x220002)))) + (wrap64 (x220003 * x221002))), wrap64 (x221002 * (wrap64 ((wrap64 ((wrap64 (x220003 + x220002)) - x220001)) - x220002))), wrap64 ((wrap64 (x221003 * (wrap64 (x220003 + x220002)))) + (wrap64 (t230 * x221002))), wrap64 (x221004 * (wrap64 (x220003 + x220002)))⟩ : S60)]) (wrap64 (x7 + 1)) x220000 x220001 x220002 x220003 (wrap64 ((wrap64 (x221000 * (wrap64 (x220003 + x220002)))) + x221002)) (wrap64 ((wrap64 (x221001 * (wrap64 (x220003 + x220002)))) + (wrap64 (x220003 * x221002)))) (wrap64 (x221002 * (wrap64 ((wrap64 ((wrap64 (x220003 + x220002)) - x220001)) - x220002)))) (wrap64 ((wrap64 (x221003 * (wrap64 (x220003 + x220002)))) + (wrap64 (t230 * x221002)))) (wrap64 (x221004 * (wrap64 (x220003 + x220002))))) else (none)))) else (some x6)
def spec_doRun.f (k : Nat) (a0_0 : Int) (a0_1 : Int) (a0_2 : Int) (a0_3 : Int) (a1 : Int) : Option ((List (S60))) := spec_doRun.l0 k a1 (([(⟨0, 0, a0_0, 0, 1⟩ : S60)] : List (S60))) 1 a0_0 a0_1 a0_2 a0_3 0 0 a0_0 0 1


def spec_doRun.T15 : Bool × List (List Nat × List Nat) := (true, [([], []), ([0], [0]), ([], []), ([1, 2], [1, 2]), ([], []), ([4], [4]), ([], []), ([6], [6]), ([5, 7], [5, 7]), ([3, 8], [3, 8]), ([0, 1, 2, 3, 4, 5, 6, 7, 8, 9], []), ([10, 9, 5, 0, 1, 2, 3, 4, 5, 6, 7, 8, 9], [9, 10])])
def spec_doRun.B15 : List Nat := [0, 1, 0, 7, 0, 16, 0, 64, 240, 511, 1023, 2047]
theorem spec_doRun.tab15 : rtab .any (opsOf Tryz.f37 15) = spec_doRun.T15 := by kernel_rfl
theorem spec_doRun.bits15 : waitsOk spec_doRun.T15.2 spec_doRun.B15 = true := by kernel_rfl
set_option maxHeartbeats 8000000 in
set_option maxRecDepth 100000 in
theorem spec_doRun.calls (k : Nat) (a0_0 : Int) (a0_1 : Int) (a0_2 : Int) (a0_3 : Int) (a1 : Int) (r : List (S60)) (w : World) (h : spec_doRun.f k a0_0 a0_1 a0_2 a0_3 a1 = some r) :
  Calls Tryz.prog 37 #[.agg #[.int .i64 a0_0, .int .i64 a0_1, .int .i64 a0_2, .int .i64 a0_3], .int .i64 a1] w fun e w' => ∃ v0_ : Value, e = .returned (v0_) ∧ Kd.R k60 60 w' w.heap.size (fun _ => True) v0_ r ∧ Below w.heap.size w w' := by
 have hu25 := Tryz.underlying25
 have hu60 := Tryz.underlying60
 have HB := Aside0.mk (Below.refl w.heap.size w)
 have H : (spec_doRun.l0 k a1 (([(⟨0, 0, a0_0, 0, 1⟩ : S60)] : List (S60))) 1 a0_0 a0_1 a0_2 a0_3 0 0 a0_0 0 1) = some r := h
 clear h
 obtain ⟨y221, hy221⟩ : ∃ y_ : List (S60), y_ = (([(⟨0, 0, a0_0, 0, 1⟩ : S60)] : List (S60))) := ⟨_, rfl⟩
 replace H : (spec_doRun.l0 k a1 y221 1 a0_0 a0_1 a0_2 a0_3 0 0 a0_0 0 1) = some r := by first | (rw [hy221]; with_reducible exact H) | (have H2_ := (Option.bind_some _ _).symm.trans H; rw [hy221]; with_reducible exact H2_) | (have H2_ := (Option.bind_some _ _).symm.trans H; with_reducible exact H2_) | with_reducible exact H | (rw [hy221]; exact H) | exact H
 have Ny221 := Aside0.mk hy221
 clear hy221
 have H' := Aside0.mk H
 clear H
 go_enter Tryz.func37, Tryz.ntmps37
 go_wp2_with (first | ((with_reducible refine gate_dst (N := 2) rfl ?_); refine box_event ?hg (N := 2) ?hd (cs := #[.int .i64 a0_0, .int .i64 a0_1, .int .i64 a0_2, .int .i64 a0_3]) (t := 25) ?hr ?_; (case hd => rfl); (case hg => rfl); (case hr => first | (go_simp; done) | (go_simp; rfl)); intro gb219 hg w3 hbox hb; have n0_ := Aside0.mk (below_step bw_ hb); have n1_ := Aside0.mk (hbox); have n2_ := Aside0.mk ((by rw [hg]; exact (below_size bw_) : w.heap.size ≤ gb219)); have n3_ := Aside0.mk ((by rw [hg]; exact (below_size bw_) : w.heap.size ≤ gb219)); clear HB; have HB := n0_; have BK219 := n1_; have GW219 := n2_; have GE219 := n3_; clear n0_ n1_ n2_ n3_; clear hb hbox hg; have hcz4_0 : w3.cell? ⟨gb219, 0, none⟩ = some (.int .i64 a0_0) := (blk_cell BK219.out 0).trans rfl; have hcz4_1 : w3.cell? ⟨gb219, 1, none⟩ = some (.int .i64 a0_1) := (blk_cell BK219.out 1).trans rfl; have hcz4_2 : w3.cell? ⟨gb219, 2, none⟩ = some (.int .i64 a0_2) := (blk_cell BK219.out 2).trans rfl; have hcz4_3 : w3.cell? ⟨gb219, 3, none⟩ = some (.int .i64 a0_3) := (blk_cell BK219.out 3).trans rfl; have hfz4_0 := blk_frozen BK219.out 0; have hfz4_1 := blk_frozen BK219.out 1; have hfz4_2 := blk_frozen BK219.out 2; have hfz4_3 := blk_frozen BK219.out 3) | ((with_reducible refine gate_dst (N := 5) rfl ?_); refine box_event ?hg (N := 5) ?hd (cs := #[.int .i64 0, .int .i64 0, .int .i64 0, .int .i64 0, .int .i64 0]) (t := 60) ?hr ?_; (case hd => rfl); (case hg => rfl); (case hr => first | (go_simp; done) | (go_simp; rfl)); intro gb220 hg w5 hbox hb; have n0_ := Aside0.mk (blk_below (g := gb219) (o := .cells #[.int .i64 a0_0, .int .i64 a0_1, .int .i64 a0_2, .int .i64 a0_3] 25 (0, 0)) bk_ hb); have n1_ := Aside0.mk (below_step bw_ hb); have n2_ := Aside0.mk (hbox); have n3_ := Aside0.mk ((by rw [hg]; exact (below_size bw_) : w.heap.size ≤ gb220)); have n4_ := Aside0.mk ((by rw [hg]; exact (below_size bw_) : w.heap.size ≤ gb220)); have n5_ := Aside0.mk ((by rw [hg]; exact Nat.ne_of_lt (blk_lt (g := gb219) (o := .cells #[.int .i64 a0_0, .int .i64 a0_1, .int .i64 a0_2, .int .i64 a0_3] 25 (0, 0)) bk_) : gb219 ≠ gb220)); have n6_ := Aside0.mk ((by rw [hg]; exact Nat.ne_of_gt (blk_lt (g := gb219) (o := .cells #[.int .i64 a0_0, .int .i64 a0_1, .int .i64 a0_2, .int .i64 a0_3] 25 (0, 0)) bk_) : gb220 ≠ gb219)); clear BK219; clear HB; have BK219 := n0_; have HB := n1_; have BK220 := n2_; have GW220 := n3_; have GE220 := n4_; have NB219_220 := n5_; have NB220_219 := n6_; clear n0_ n1_ n2_ n3_ n4_ n5_ n6_; clear hb hbox hg; have hnb6 := NB220_219.out; have hnc6 := NB219_220.out; have hcz7_0 : w5.cell? ⟨gb220, 0, none⟩ = some (.int .i64 0) := (blk_cell BK220.out 0).trans rfl; have hcz7_1 : w5.cell? ⟨gb220, 1, none⟩ = some (.int .i64 0) := (blk_cell BK220.out 1).trans rfl; have hcz7_2 : w5.cell? ⟨gb220, 2, none⟩ = some (.int .i64 0) := (blk_cell BK220.out 2).trans rfl; have hcz7_3 : w5.cell? ⟨gb220, 3, none⟩ = some (.int .i64 0) := (blk_cell BK220.out 3).trans rfl; have hcz7_4 : w5.cell? ⟨gb220, 4, none⟩ = some (.int .i64 0) := (blk_cell BK220.out 4).trans rfl; have hfz7_0 := blk_frozen BK220.out 0; have hfz7_1 := blk_frozen BK220.out 1; have hfz7_2 := blk_frozen BK220.out 2; have hfz7_3 := blk_frozen BK220.out 3; have hfz7_4 := blk_frozen BK220.out 4) | ((with_reducible refine gate_dst (N := 15) rfl ?_); refine Kd.R_lit k60 _ 60 ?hg (N := 15) ?hd (xs := ([(⟨0, 0, a0_0, 0, 1⟩ : S60)] : List (S60))) (inner := [.int .i64 0, .int .i64 0, .int .i64 a0_0, .int .i64 0, .int .i64 1]) (ok := fun _ => True) (okp := fun _ => True) ?hr ?hp (fun _ hk => hk) trivial (Below.refl _ _) (Nat.le_refl _) (by simp) ?_; (case hd => rfl); (case hg => rfl); (case hr => first | (go_simp; done) | (go_simp; rfl)); (case hp => exact (Reps.c5 (show Kd.M k60 _ _ _ (⟨0, 0, a0_0, 0, 1⟩ : S60) [.int .i64 0, .int .i64 0, .int .i64 a0_0, .int .i64 0, .int .i64 1] from (k60_mkM _ _ _ (⟨0, 0, a0_0, 0, 1⟩ : S60) )) (Reps.none _ _))); intro v222 w8 ho9 hb hg_ hnew_; clear hg_ hnew_; (first | rw [← Ny221.out] at ho9 | (simp only [Int.reduceToNat] at ho9; rw [← Ny221.out] at ho9)); have n0_ := Aside0.mk (Kd.R_lower (Kd.R_newB ho9 (g := gb220) (o := .cells #[.int .i64 0, .int .i64 0, .int .i64 a0_0, .int .i64 0, .int .i64 1] 60 (0, 0)) (by (with_reducible repeat (first | refine blk_drewN ?_ _ | refine blk_drew ?_ | refine blk_alloc ?_ _)); refine blk_put (cs := #[.int .i64 0, .int .i64 0, .int .i64 a0_0, .int .i64 0, .int .i64 0]) ?_ 4 _ rfl; (with_reducible repeat (first | refine blk_drewN ?_ _ | refine blk_drew ?_ | refine blk_alloc ?_ _)); refine blk_put (cs := #[.int .i64 0, .int .i64 0, .int .i64 a0_0, .int .i64 0, .int .i64 0]) ?_ 3 _ rfl; (with_reducible repeat (first | refine blk_drewN ?_ _ | refine blk_drew ?_ | refine blk_alloc ?_ _)); refine blk_put (cs := #[.int .i64 0, .int .i64 0, .int .i64 0, .int .i64 0, .int .i64 0]) ?_ 2 _ rfl; (with_reducible repeat (first | refine blk_drewN ?_ _ | refine blk_drew ?_ | refine blk_alloc ?_ _)); refine blk_put (cs := #[.int .i64 0, .int .i64 0, .int .i64 0, .int .i64 0, .int .i64 0]) ?_ 1 _ rfl; (with_reducible repeat (first | refine blk_drewN ?_ _ | refine blk_drew ?_ | refine blk_alloc ?_ _)); refine blk_put (cs := #[.int .i64 0, .int .i64 0, .int .i64 0, .int .i64 0, .int .i64 0]) ?_ 0 _ rfl; (with_reducible repeat (first | refine blk_drewN ?_ _ | refine blk_drew ?_ | refine blk_alloc ?_ _)); exact BK220.out)) (below_size bw_)); have n1_ := Aside0.mk (blk_below (g := gb219) (o := .cells #[.int .i64 a0_0, .int .i64 a0_1, .int .i64 a0_2, .int .i64 a0_3] 25 (0, 0)) (by (with_reducible repeat (first | refine blk_drewN ?_ _ | refine blk_drew ?_ | refine blk_alloc ?_ _)); refine blk_far ?_ NB219_220.out _; (with_reducible repeat (first | refine blk_drewN ?_ _ | refine blk_drew ?_ | refine blk_alloc ?_ _)); refine blk_far ?_ NB219_220.out _; (with_reducible repeat (first | refine blk_drewN ?_ _ | refine blk_drew ?_ | refine blk_alloc ?_ _)); refine blk_far ?_ NB219_220.out _; (with_reducible repeat (first | refine blk_drewN ?_ _ | refine blk_drew ?_ | refine blk_alloc ?_ _)); refine blk_far ?_ NB219_220.out _; (with_reducible repeat (first | refine blk_drewN ?_ _ | refine blk_drew ?_ | refine blk_alloc ?_ _)); refine blk_far ?_ NB219_220.out _; (with_reducible repeat (first | refine blk_drewN ?_ _ | refine blk_drew ?_ | refine blk_alloc ?_ _)); exact BK219.out) hb); have n2_ := Aside0.mk (blk_below (g := gb220) (o := .cells #[.int .i64 0, .int .i64 0, .int .i64 a0_0, .int .i64 0, .int .i64 1] 60 (0, 0)) (by (with_reducible repeat (first | refine blk_drewN ?_ _ | refine blk_drew ?_ | refine blk_alloc ?_ _)); refine blk_put (cs := #[.int .i64 0, .int .i64 0, .int .i64 a0_0, .int .i64 0, .int .i64 0]) ?_ 4 _ rfl; (with_reducible repeat (first | refine blk_drewN ?_ _ | refine blk_drew ?_ | refine blk_alloc ?_ _)); refine blk_put (cs := #[.int .i64 0, .int .i64 0, .int .i64 a0_0, .int .i64 0, .int .i64 0]) ?_ 3 _ rfl; (with_reducible repeat (first | refine blk_drewN ?_ _ | refine blk_drew ?_ | refine blk_alloc ?_ _)); refine blk_put (cs := #[.int .i64 0, .int .i64 0, .int .i64 0, .int .i64 0, .int .i64 0]) ?_ 2 _ rfl; (with_reducible repeat (first | refine blk_drewN ?_ _ | refine blk_drew ?_ | refine blk_alloc ?_ _)); refine blk_put (cs := #[.int .i64 0, .int .i64 0, .int .i64 0, .int .i64 0, .int .i64 0]) ?_ 1 _ rfl; (with_reducible repeat (first | refine blk_drewN ?_ _ | refine blk_drew ?_ | refine blk_alloc ?_ _)); refine blk_put (cs := #[.int .i64 0, .int .i64 0, .int .i64 0, .int .i64 0, .int .i64 0]) ?_ 0 _ rfl; (with_reducible repeat (first | refine blk_drewN ?_ _ | refine blk_drew ?_ | refine blk_alloc ?_ _)); exact BK220.out) hb); have n3_ := Aside0.mk (below_step bw_ hb); clear BK219; clear BK220; clear HB; have HO223 := n0_; have BK219 := n1_; have BK220 := n2_; have HB := n3_; clear n0_ n1_ n2_ n3_; clear hb ho9))
 go_loopg [6, 7] k (fun kq v6 v7 w' => ∃ (x6_1 : List (S60)) (x7_1 : Int) (x221000_1 : Int) (x221001_1 : Int) (x221002_1 : Int) (x221003_1 : Int) (x221004_1 : Int), v7 = .int .i64 x7_1 ∧ Aside0 (spec_doRun.l0 kq a1 x6_1 x7_1 a0_0 a0_1 a0_2 a0_3 x221000_1 x221001_1 x221002_1 x221003_1 x221004_1 = some r) ∧ Aside0 (kq ≤ k) ∧ Aside0 (Kd.R k60 60 w' w.heap.size (fun k_ => k_ ≠ gb220) v6 x6_1) ∧ Aside0 (w'.heap[gb219]? = some (.cells #[.int .i64 a0_0, .int .i64 a0_1, .int .i64 a0_2, .int .i64 a0_3] 25 (0, 0))) ∧ Aside0 (w'.heap[gb220]? = some (.cells #[.int .i64 x221000_1, .int .i64 x221001_1, .int .i64 x221002_1, .int .i64 x221003_1, .int .i64 x221004_1] 60 (0, 0))) ∧ Aside0 (Below w.heap.size w w'))
 case atStart => exact ⟨(y221), (1), (0), (0), (a0_0), (0), (1), (by first | rfl | (simp; done) | (simp [*]; done)), H', ⟨Nat.le_refl _⟩, ⟨by (with_reducible repeat (first | apply Kd.R_alloc | apply Kd.R_drewN | apply Kd.R_drew)); exact Kd.R_mono HO223.out (fun _ hk => hk.2)⟩, ⟨bk_⟩, ⟨bk_⟩, ⟨bw_⟩⟩
 case round =>
  clear H'
  try clear p2
  try clear c3
  try clear c5
  try clear c6
  try clear hcz4_0
  try clear hcz4_1
  try clear hcz4_2
  try clear hcz4_3
  try clear hcz7_0
  try clear hcz7_1
  try clear hcz7_2
  try clear hcz7_3
  try clear hcz7_4
  try clear hfz4_0
  try clear hfz4_1
  try clear hfz4_2
  try clear hfz4_3
  try clear hfz7_0
  try clear hfz7_1
  try clear hfz7_2
  try clear hfz7_3
  try clear hfz7_4
  obtain ⟨x6_1, x7_1, x221000_1, x221001_1, x221002_1, x221003_1, x221004_1, rfl, HA, HK1, HO_6, BK219, BK220, HB⟩ := hrel
  cases gk with
    | zero => exact absurd HA.out (by simp [spec_doRun.l0])
    | succ k1 =>
   have H := HA.out
   clear HA
   simp only [spec_doRun.l0] at H
   by_cases c10 : x7_1 ≤ a1
   ·
    rw [if_pos c10] at H
    have c10b0 : decide (x7_1 ≤ a1) = true := decide_eq_true c10
    clear c10
    by_cases c11 : (Int.tmod x7_1 2) = 0
    ·
     rw [if_pos c11] at H
     have c11b0 : ((Int.tmod x7_1 2) == 0) = true := beq_iff_eq.mpr c11
     have c11b1 : ((Int.tmod x7_1 2) != 0) = false := bne_eq_false_iff_eq.mpr c11
     clear c11
     replace H := Option.bind_eq_some_iff.mp H
     obtain ⟨t225, A120, H⟩ := H
     (try dsimp only at H)
     have A12 := Aside0.mk A120
     clear A120
     by_cases c13 : x6_1.length < 3518437208883
     ·
      rw [if_pos c13] at H
      have LMc13 := Aside0.mk c13
      clear c13
      obtain ⟨y226, hy226⟩ : ∃ y_ : List (S60), y_ = (x6_1 ++ [(⟨wrap64 ((wrap64 (x221000_1 * (wrap64 (a0_3 + a0_1)))) + x221002_1), wrap64 ((wrap64 (x221001_1 * (wrap64 (a0_3 + a0_1)))) + (wrap64 ((wrap64 (-a0_3)) * x221002_1))), wrap64 (x221002_1 * (wrap64 ((wrap64 ((wrap64 (a0_3 + a0_1)) - a0_1)) - a0_2))), wrap64 ((wrap64 (x221003_1 * (wrap64 (a0_3 + a0_1)))) + (wrap64 (t225 * x221002_1))), wrap64 (x221004_1 * (wrap64 (a0_3 + a0_1)))⟩ : S60)]) := ⟨_, rfl⟩
      replace H : (spec_doRun.l0 k1 a1 y226 (wrap64 (x7_1 + 1)) a0_0 a0_1 a0_2 a0_3 (wrap64 ((wrap64 (x221000_1 * (wrap64 (a0_3 + a0_1)))) + x221002_1)) (wrap64 ((wrap64 (x221001_1 * (wrap64 (a0_3 + a0_1)))) + (wrap64 ((wrap64 (-a0_3)) * x221002_1)))) (wrap64 (x221002_1 * (wrap64 ((wrap64 ((wrap64 (a0_3 + a0_1)) - a0_1)) - a0_2)))) (wrap64 ((wrap64 (x221003_1 * (wrap64 (a0_3 + a0_1)))) + (wrap64 (t225 * x221002_1)))) (wrap64 (x221004_1 * (wrap64 (a0_3 + a0_1))))) = some r := by first | (rw [hy226]; with_reducible exact H) | (have H2_ := (Option.bind_some _ _).symm.trans H; rw [hy226]; with_reducible exact H2_) | (have H2_ := (Option.bind_some _ _).symm.trans H; with_reducible exact H2_) | with_reducible exact H | (rw [hy226]; exact H) | exact H
      have Ny226 := Aside0.mk hy226
      clear hy226
      have H' := Aside0.mk H
      clear H
      have hnb14 := NB219_220.out
      have hnc14 := NB220_219.out
      have hcz15_0 : wr.cell? ⟨gb219, 0, none⟩ = some (.int .i64 a0_0) := (blk_cell BK219.out 0).trans rfl
      have hcz15_1 : wr.cell? ⟨gb219, 1, none⟩ = some (.int .i64 a0_1) := (blk_cell BK219.out 1).trans rfl
      have hcz15_2 : wr.cell? ⟨gb219, 2, none⟩ = some (.int .i64 a0_2) := (blk_cell BK219.out 2).trans rfl
      have hcz15_3 : wr.cell? ⟨gb219, 3, none⟩ = some (.int .i64 a0_3) := (blk_cell BK219.out 3).trans rfl
      have hfz15_0 := blk_frozen BK219.out 0
      have hfz15_1 := blk_frozen BK219.out 1
      have hfz15_2 := blk_frozen BK219.out 2
      have hfz15_3 := blk_frozen BK219.out 3
      have hcz16_0 : wr.cell? ⟨gb220, 0, none⟩ = some (.int .i64 x221000_1) := (blk_cell BK220.out 0).trans rfl
      have hcz16_1 : wr.cell? ⟨gb220, 1, none⟩ = some (.int .i64 x221001_1) := (blk_cell BK220.out 1).trans rfl
      have hcz16_2 : wr.cell? ⟨gb220, 2, none⟩ = some (.int .i64 x221002_1) := (blk_cell BK220.out 2).trans rfl
      have hcz16_3 : wr.cell? ⟨gb220, 3, none⟩ = some (.int .i64 x221003_1) := (blk_cell BK220.out 3).trans rfl
      have hcz16_4 : wr.cell? ⟨gb220, 4, none⟩ = some (.int .i64 x221004_1) := (blk_cell BK220.out 4).trans rfl
      have hfz16_0 := blk_frozen BK220.out 0
      have hfz16_1 := blk_frozen BK220.out 1
      have hfz16_2 := blk_frozen BK220.out 2
      have hfz16_3 := blk_frozen BK220.out 3
      have hfz16_4 := blk_frozen BK220.out 4
      try go_wp2_with (first | ((with_reducible refine gate_dst (N := 10) rfl ?_); refine box_event ?hg (N := 10) ?hd (cs := #[.int .i64 0, .int .i64 0, .int .i64 0, .int .i64 0, .int .i64 0]) (t := 60) ?hr ?_; (case hd => rfl); (case hg => rfl); (case hr => first | (go_simp; done) | (go_simp; rfl)); intro gb224 hg w17 hbox hb; have n0_ := Aside0.mk (Kd.R_below (Kd.R_elderB (by (with_reducible repeat (first | apply Kd.R_alloc | apply Kd.R_drewN | apply Kd.R_drew)); exact HO_6.out) gb224 (Nat.le_of_eq hg.symm)) hb); have n1_ := Aside0.mk (blk_below (g := gb219) (o := .cells #[.int .i64 a0_0, .int .i64 a0_1, .int .i64 a0_2, .int .i64 a0_3] 25 (0, 0)) bk_ hb); have n2_ := Aside0.mk (blk_below (g := gb220) (o := .cells #[.int .i64 x221000_1, .int .i64 x221001_1, .int .i64 x221002_1, .int .i64 x221003_1, .int .i64 x221004_1] 60 (0, 0)) bk_ hb); have n3_ := Aside0.mk (below_step bw_ hb); have n4_ := Aside0.mk (hbox); have n5_ := Aside0.mk ((by rw [hg]; exact (below_size bw_) : w.heap.size ≤ gb224)); have n6_ := Aside0.mk ((by rw [hg]; exact (below_size bw_) : w.heap.size ≤ gb224)); have n7_ := Aside0.mk ((by rw [hg]; exact Nat.ne_of_lt (blk_lt (g := gb219) (o := .cells #[.int .i64 a0_0, .int .i64 a0_1, .int .i64 a0_2, .int .i64 a0_3] 25 (0, 0)) bk_) : gb219 ≠ gb224)); have n8_ := Aside0.mk ((by rw [hg]; exact Nat.ne_of_gt (blk_lt (g := gb219) (o := .cells #[.int .i64 a0_0, .int .i64 a0_1, .int .i64 a0_2, .int .i64 a0_3] 25 (0, 0)) bk_) : gb224 ≠ gb219)); have n9_ := Aside0.mk ((by rw [hg]; exact Nat.ne_of_lt (blk_lt (g := gb220) (o := .cells #[.int .i64 x221000_1, .int .i64 x221001_1, .int .i64 x221002_1, .int .i64 x221003_1, .int .i64 x221004_1] 60 (0, 0)) bk_) : gb220 ≠ gb224)); have n10_ := Aside0.mk ((by rw [hg]; exact Nat.ne_of_gt (blk_lt (g := gb220) (o := .cells #[.int .i64 x221000_1, .int .i64 x221001_1, .int .i64 x221002_1, .int .i64 x221003_1, .int .i64 x221004_1] 60 (0, 0)) bk_) : gb224 ≠ gb220)); clear HO_6; clear BK219; clear BK220; clear HB; have HO_6 := n0_; have BK219 := n1_; have BK220 := n2_; have HB := n3_; have BK224 := n4_; have GW224 := n5_; have GE224 := n6_; have NB219_224 := n7_; have NB224_219 := n8_; have NB220_224 := n9_; have NB224_220 := n10_; clear n0_ n1_ n2_ n3_ n4_ n5_ n6_ n7_ n8_ n9_ n10_; clear hb hbox hg; have hnb18 := NB224_219.out; have hnc18 := NB219_224.out; have hnb19 := NB224_220.out; have hnc19 := NB220_224.out; have hcz20_0 : w17.cell? ⟨gb224, 0, none⟩ = some (.int .i64 0) := (blk_cell BK224.out 0).trans rfl; have hcz20_1 : w17.cell? ⟨gb224, 1, none⟩ = some (.int .i64 0) := (blk_cell BK224.out 1).trans rfl; have hcz20_2 : w17.cell? ⟨gb224, 2, none⟩ = some (.int .i64 0) := (blk_cell BK224.out 2).trans rfl; have hcz20_3 : w17.cell? ⟨gb224, 3, none⟩ = some (.int .i64 0) := (blk_cell BK224.out 3).trans rfl; have hcz20_4 : w17.cell? ⟨gb224, 4, none⟩ = some (.int .i64 0) := (blk_cell BK224.out 4).trans rfl; have hfz20_0 := blk_frozen BK224.out 0; have hfz20_1 := blk_frozen BK224.out 1; have hfz20_2 := blk_frozen BK224.out 2; have hfz20_3 := blk_frozen BK224.out 3; have hfz20_4 := blk_frozen BK224.out 4; have hcz21_0 : w17.cell? ⟨gb220, 0, none⟩ = some (.int .i64 x221000_1) := (blk_cell BK220.out 0).trans rfl; have hcz21_1 : w17.cell? ⟨gb220, 1, none⟩ = some (.int .i64 x221001_1) := (blk_cell BK220.out 1).trans rfl; have hcz21_2 : w17.cell? ⟨gb220, 2, none⟩ = some (.int .i64 x221002_1) := (blk_cell BK220.out 2).trans rfl; have hcz21_3 : w17.cell? ⟨gb220, 3, none⟩ = some (.int .i64 x221003_1) := (blk_cell BK220.out 3).trans rfl; have hcz21_4 : w17.cell? ⟨gb220, 4, none⟩ = some (.int .i64 x221004_1) := (blk_cell BK220.out 4).trans rfl; have hfz21_0 := blk_frozen BK220.out 0; have hfz21_1 := blk_frozen BK220.out 1; have hfz21_2 := blk_frozen BK220.out 2; have hfz21_3 := blk_frozen BK220.out 3; have hfz21_4 := blk_frozen BK220.out 4; have hcz22_0 : w17.cell? ⟨gb219, 0, none⟩ = some (.int .i64 a0_0) := (blk_cell BK219.out 0).trans rfl; have hcz22_1 : w17.cell? ⟨gb219, 1, none⟩ = some (.int .i64 a0_1) := (blk_cell BK219.out 1).trans rfl; have hcz22_2 : w17.cell? ⟨gb219, 2, none⟩ = some (.int .i64 a0_2) := (blk_cell BK219.out 2).trans rfl; have hcz22_3 : w17.cell? ⟨gb219, 3, none⟩ = some (.int .i64 a0_3) := (blk_cell BK219.out 3).trans rfl; have hfz22_0 := blk_frozen BK219.out 0; have hfz22_1 := blk_frozen BK219.out 1; have hfz22_2 := blk_frozen BK219.out 2; have hfz22_3 := blk_frozen BK219.out 3))
      have n0_ : Aside0 (Kd.R k60 60 ((((((((w17.setCell ⟨gb224, 0, none⟩ (.int .i64 0)).setCell ⟨gb224, 1, none⟩ (.int .i64 0)).setCell ⟨gb224, 2, none⟩ (.int .i64 0)).setCell ⟨gb224, 3, none⟩ (.int .i64 0)).setCell ⟨gb224, 4, none⟩ (.int .i64 (wrap64 (x221004_1 * (wrap64 (a0_3 + a0_1)))))).setCell ⟨gb224, 0, none⟩ (.int .i64 (wrap64 ((wrap64 (x221000_1 * (wrap64 (a0_3 + a0_1)))) + x221002_1)))).setCell ⟨gb224, 1, none⟩ (.int .i64 (wrap64 ((wrap64 (x221001_1 * (wrap64 (a0_3 + a0_1)))) + (wrap64 ((wrap64 (-a0_3)) * x221002_1)))))).setCell ⟨gb224, 2, none⟩ (.int .i64 (wrap64 (x221002_1 * (wrap64 ((wrap64 ((wrap64 (a0_3 + a0_1)) - a0_1)) - a0_2)))))) w.heap.size (fun k_ => k_ ≠ gb220 ∧ k_ ≠ gb224) u6 x6_1) := ⟨by (with_reducible repeat (first | apply Kd.R_alloc | apply Kd.R_drewN | apply Kd.R_drew)); exact Kd.R_mono (Kd.R_far (p := ⟨gb224, 2, none⟩) (Kd.R_far (p := ⟨gb224, 1, none⟩) (Kd.R_far (p := ⟨gb224, 0, none⟩) (Kd.R_far (p := ⟨gb224, 4, none⟩) (Kd.R_far (p := ⟨gb224, 3, none⟩) (Kd.R_far (p := ⟨gb224, 2, none⟩) (Kd.R_far (p := ⟨gb224, 1, none⟩) (Kd.R_far (p := ⟨gb224, 0, none⟩) (Kd.R_mono HO_6.out (fun k_ hk => (⟨hk, hk.2⟩ : _ ∧ k_ ≠ gb224))) (fun _ hk => hk.2) (.int .i64 0)) (fun _ hk => hk.2) (.int .i64 0)) (fun _ hk => hk.2) (.int .i64 0)) (fun _ hk => hk.2) (.int .i64 0)) (fun _ hk => hk.2) (.int .i64 (wrap64 (x221004_1 * (wrap64 (a0_3 + a0_1)))))) (fun _ hk => hk.2) (.int .i64 (wrap64 ((wrap64 (x221000_1 * (wrap64 (a0_3 + a0_1)))) + x221002_1)))) (fun _ hk => hk.2) (.int .i64 (wrap64 ((wrap64 (x221001_1 * (wrap64 (a0_3 + a0_1)))) + (wrap64 ((wrap64 (-a0_3)) * x221002_1)))))) (fun _ hk => hk.2) (.int .i64 (wrap64 (x221002_1 * (wrap64 ((wrap64 ((wrap64 (a0_3 + a0_1)) - a0_1)) - a0_2)))))) (fun _ hk => ⟨hk.1.1, hk.1.2⟩)⟩
      have n1_ : Aside0 (((((((((w17.setCell ⟨gb224, 0, none⟩ (.int .i64 0)).setCell ⟨gb224, 1, none⟩ (.int .i64 0)).setCell ⟨gb224, 2, none⟩ (.int .i64 0)).setCell ⟨gb224, 3, none⟩ (.int .i64 0)).setCell ⟨gb224, 4, none⟩ (.int .i64 (wrap64 (x221004_1 * (wrap64 (a0_3 + a0_1)))))).setCell ⟨gb224, 0, none⟩ (.int .i64 (wrap64 ((wrap64 (x221000_1 * (wrap64 (a0_3 + a0_1)))) + x221002_1)))).setCell ⟨gb224, 1, none⟩ (.int .i64 (wrap64 ((wrap64 (x221001_1 * (wrap64 (a0_3 + a0_1)))) + (wrap64 ((wrap64 (-a0_3)) * x221002_1)))))).setCell ⟨gb224, 2, none⟩ (.int .i64 (wrap64 (x221002_1 * (wrap64 ((wrap64 ((wrap64 (a0_3 + a0_1)) - a0_1)) - a0_2)))))).heap[gb219]? = some (.cells #[.int .i64 a0_0, .int .i64 a0_1, .int .i64 a0_2, .int .i64 a0_3] 25 (0, 0))) := ⟨by (with_reducible repeat (first | refine blk_drewN ?_ _ | refine blk_drew ?_ | refine blk_alloc ?_ _)); refine blk_far ?_ NB219_224.out _; (with_reducible repeat (first | refine blk_drewN ?_ _ | refine blk_drew ?_ | refine blk_alloc ?_ _)); refine blk_far ?_ NB219_224.out _; (with_reducible repeat (first | refine blk_drewN ?_ _ | refine blk_drew ?_ | refine blk_alloc ?_ _)); refine blk_far ?_ NB219_224.out _; (with_reducible repeat (first | refine blk_drewN ?_ _ | refine blk_drew ?_ | refine blk_alloc ?_ _)); refine blk_far ?_ NB219_224.out _; (with_reducible repeat (first | refine blk_drewN ?_ _ | refine blk_drew ?_ | refine blk_alloc ?_ _)); refine blk_far ?_ NB219_224.out _; (with_reducible repeat (first | refine blk_drewN ?_ _ | refine blk_drew ?_ | refine blk_alloc ?_ _)); refine blk_far ?_ NB219_224.out _; (with_reducible repeat (first | refine blk_drewN ?_ _ | refine blk_drew ?_ | refine blk_alloc ?_ _)); refine blk_far ?_ NB219_224.out _; (with_reducible repeat (first | refine blk_drewN ?_ _ | refine blk_drew ?_ | refine blk_alloc ?_ _)); refine blk_far ?_ NB219_224.out _; (with_reducible repeat (first | refine blk_drewN ?_ _ | refine blk_drew ?_ | refine blk_alloc ?_ _)); exact BK219.out⟩
      have n2_ : Aside0 (((((((((w17.setCell ⟨gb224, 0, none⟩ (.int .i64 0)).setCell ⟨gb224, 1, none⟩ (.int .i64 0)).setCell ⟨gb224, 2, none⟩ (.int .i64 0)).setCell ⟨gb224, 3, none⟩ (.int .i64 0)).setCell ⟨gb224, 4, none⟩ (.int .i64 (wrap64 (x221004_1 * (wrap64 (a0_3 + a0_1)))))).setCell ⟨gb224, 0, none⟩ (.int .i64 (wrap64 ((wrap64 (x221000_1 * (wrap64 (a0_3 + a0_1)))) + x221002_1)))).setCell ⟨gb224, 1, none⟩ (.int .i64 (wrap64 ((wrap64 (x221001_1 * (wrap64 (a0_3 + a0_1)))) + (wrap64 ((wrap64 (-a0_3)) * x221002_1)))))).setCell ⟨gb224, 2, none⟩ (.int .i64 (wrap64 (x221002_1 * (wrap64 ((wrap64 ((wrap64 (a0_3 + a0_1)) - a0_1)) - a0_2)))))).heap[gb220]? = some (.cells #[.int .i64 x221000_1, .int .i64 x221001_1, .int .i64 x221002_1, .int .i64 x221003_1, .int .i64 x221004_1] 60 (0, 0))) := ⟨by (with_reducible repeat (first | refine blk_drewN ?_ _ | refine blk_drew ?_ | refine blk_alloc ?_ _)); refine blk_far ?_ NB220_224.out _; (with_reducible repeat (first | refine blk_drewN ?_ _ | refine blk_drew ?_ | refine blk_alloc ?_ _)); refine blk_far ?_ NB220_224.out _; (with_reducible repeat (first | refine blk_drewN ?_ _ | refine blk_drew ?_ | refine blk_alloc ?_ _)); refine blk_far ?_ NB220_224.out _; (with_reducible repeat (first | refine blk_drewN ?_ _ | refine blk_drew ?_ | refine blk_alloc ?_ _)); refine blk_far ?_ NB220_224.out _; (with_reducible repeat (first | refine blk_drewN ?_ _ | refine blk_drew ?_ | refine blk_alloc ?_ _)); refine blk_far ?_ NB220_224.out _; (with_reducible repeat (first | refine blk_drewN ?_ _ | refine blk_drew ?_ | refine blk_alloc ?_ _)); refine blk_far ?_ NB220_224.out _; (with_reducible repeat (first | refine blk_drewN ?_ _ | refine blk_drew ?_ | refine blk_alloc ?_ _)); refine blk_far ?_ NB220_224.out _; (with_reducible repeat (first | refine blk_drewN ?_ _ | refine blk_drew ?_ | refine blk_alloc ?_ _)); refine blk_far ?_ NB220_224.out _; (with_reducible repeat (first | refine blk_drewN ?_ _ | refine blk_drew ?_ | refine blk_alloc ?_ _)); exact BK220.out⟩
      have n3_ : Aside0 (((((((((w17.setCell ⟨gb224, 0, none⟩ (.int .i64 0)).setCell ⟨gb224, 1, none⟩ (.int .i64 0)).setCell ⟨gb224, 2, none⟩ (.int .i64 0)).setCell ⟨gb224, 3, none⟩ (.int .i64 0)).setCell ⟨gb224, 4, none⟩ (.int .i64 (wrap64 (x221004_1 * (wrap64 (a0_3 + a0_1)))))).setCell ⟨gb224, 0, none⟩ (.int .i64 (wrap64 ((wrap64 (x221000_1 * (wrap64 (a0_3 + a0_1)))) + x221002_1)))).setCell ⟨gb224, 1, none⟩ (.int .i64 (wrap64 ((wrap64 (x221001_1 * (wrap64 (a0_3 + a0_1)))) + (wrap64 ((wrap64 (-a0_3)) * x221002_1)))))).setCell ⟨gb224, 2, none⟩ (.int .i64 (wrap64 (x221002_1 * (wrap64 ((wrap64 ((wrap64 (a0_3 + a0_1)) - a0_1)) - a0_2)))))).heap[gb224]? = some (.cells #[.int .i64 (wrap64 ((wrap64 (x221000_1 * (wrap64 (a0_3 + a0_1)))) + x221002_1)), .int .i64 (wrap64 ((wrap64 (x221001_1 * (wrap64 (a0_3 + a0_1)))) + (wrap64 ((wrap64 (-a0_3)) * x221002_1)))), .int .i64 (wrap64 (x221002_1 * (wrap64 ((wrap64 ((wrap64 (a0_3 + a0_1)) - a0_1)) - a0_2)))), .int .i64 0, .int .i64 (wrap64 (x221004_1 * (wrap64 (a0_3 + a0_1))))] 60 (0, 0))) := ⟨by (with_reducible repeat (first | refine blk_drewN ?_ _ | refine blk_drew ?_ | refine blk_alloc ?_ _)); refine blk_put (cs := #[.int .i64 (wrap64 ((wrap64 (x221000_1 * (wrap64 (a0_3 + a0_1)))) + x221002_1)), .int .i64 (wrap64 ((wrap64 (x221001_1 * (wrap64 (a0_3 + a0_1)))) + (wrap64 ((wrap64 (-a0_3)) * x221002_1)))), .int .i64 0, .int .i64 0, .int .i64 (wrap64 (x221004_1 * (wrap64 (a0_3 + a0_1))))]) ?_ 2 _ rfl; (with_reducible repeat (first | refine blk_drewN ?_ _ | refine blk_drew ?_ | refine blk_alloc ?_ _)); refine blk_put (cs := #[.int .i64 (wrap64 ((wrap64 (x221000_1 * (wrap64 (a0_3 + a0_1)))) + x221002_1)), .int .i64 0, .int .i64 0, .int .i64 0, .int .i64 (wrap64 (x221004_1 * (wrap64 (a0_3 + a0_1))))]) ?_ 1 _ rfl; (with_reducible repeat (first | refine blk_drewN ?_ _ | refine blk_drew ?_ | refine blk_alloc ?_ _)); refine blk_put (cs := #[.int .i64 0, .int .i64 0, .int .i64 0, .int .i64 0, .int .i64 (wrap64 (x221004_1 * (wrap64 (a0_3 + a0_1))))]) ?_ 0 _ rfl; (with_reducible repeat (first | refine blk_drewN ?_ _ | refine blk_drew ?_ | refine blk_alloc ?_ _)); refine blk_put (cs := #[.int .i64 0, .int .i64 0, .int .i64 0, .int .i64 0, .int .i64 0]) ?_ 4 _ rfl; (with_reducible repeat (first | refine blk_drewN ?_ _ | refine blk_drew ?_ | refine blk_alloc ?_ _)); refine blk_put (cs := #[.int .i64 0, .int .i64 0, .int .i64 0, .int .i64 0, .int .i64 0]) ?_ 3 _ rfl; (with_reducible repeat (first | refine blk_drewN ?_ _ | refine blk_drew ?_ | refine blk_alloc ?_ _)); refine blk_put (cs := #[.int .i64 0, .int .i64 0, .int .i64 0, .int .i64 0, .int .i64 0]) ?_ 2 _ rfl; (with_reducible repeat (first | refine blk_drewN ?_ _ | refine blk_drew ?_ | refine blk_alloc ?_ _)); refine blk_put (cs := #[.int .i64 0, .int .i64 0, .int .i64 0, .int .i64 0, .int .i64 0]) ?_ 1 _ rfl; (with_reducible repeat (first | refine blk_drewN ?_ _ | refine blk_drew ?_ | refine blk_alloc ?_ _)); refine blk_put (cs := #[.int .i64 0, .int .i64 0, .int .i64 0, .int .i64 0, .int .i64 0]) ?_ 0 _ rfl; (with_reducible repeat (first | refine blk_drewN ?_ _ | refine blk_drew ?_ | refine blk_alloc ?_ _)); exact BK224.out⟩
      have n4_ : Aside0 (Below w.heap.size w ((((((((w17.setCell ⟨gb224, 0, none⟩ (.int .i64 0)).setCell ⟨gb224, 1, none⟩ (.int .i64 0)).setCell ⟨gb224, 2, none⟩ (.int .i64 0)).setCell ⟨gb224, 3, none⟩ (.int .i64 0)).setCell ⟨gb224, 4, none⟩ (.int .i64 (wrap64 (x221004_1 * (wrap64 (a0_3 + a0_1)))))).setCell ⟨gb224, 0, none⟩ (.int .i64 (wrap64 ((wrap64 (x221000_1 * (wrap64 (a0_3 + a0_1)))) + x221002_1)))).setCell ⟨gb224, 1, none⟩ (.int .i64 (wrap64 ((wrap64 (x221001_1 * (wrap64 (a0_3 + a0_1)))) + (wrap64 ((wrap64 (-a0_3)) * x221002_1)))))).setCell ⟨gb224, 2, none⟩ (.int .i64 (wrap64 (x221002_1 * (wrap64 ((wrap64 ((wrap64 (a0_3 + a0_1)) - a0_1)) - a0_2))))))) := ⟨bw_⟩
      (try clear HO_6)
      (try clear BK219)
      (try clear BK220)
      (try clear BK224)
      (try clear HB)
      generalize ((((((((w17.setCell ⟨gb224, 0, none⟩ (.int .i64 0)).setCell ⟨gb224, 1, none⟩ (.int .i64 0)).setCell ⟨gb224, 2, none⟩ (.int .i64 0)).setCell ⟨gb224, 3, none⟩ (.int .i64 0)).setCell ⟨gb224, 4, none⟩ (.int .i64 (wrap64 (x221004_1 * (wrap64 (a0_3 + a0_1)))))).setCell ⟨gb224, 0, none⟩ (.int .i64 (wrap64 ((wrap64 (x221000_1 * (wrap64 (a0_3 + a0_1)))) + x221002_1)))).setCell ⟨gb224, 1, none⟩ (.int .i64 (wrap64 ((wrap64 (x221001_1 * (wrap64 (a0_3 + a0_1)))) + (wrap64 ((wrap64 (-a0_3)) * x221002_1)))))).setCell ⟨gb224, 2, none⟩ (.int .i64 (wrap64 (x221002_1 * (wrap64 ((wrap64 ((wrap64 (a0_3 + a0_1)) - a0_1)) - a0_2)))))) = w23 at n0_ n1_ n2_ n3_ n4_ ⊢
      have HO_6 := n0_
      have BK219 := n1_
      have BK220 := n2_
      have BK224 := n3_
      have HB := n4_
      clear n0_ n1_ n2_ n3_ n4_
      have n0_ := Aside0.mk (Kd.R_drew HO_6.out)
      have n1_ := Aside0.mk (blk_drew BK219.out)
      have n2_ := Aside0.mk (blk_drew BK220.out)
      have n3_ := Aside0.mk (blk_drew BK224.out)
      have n4_ := Aside0.mk (below_drew1 HB.out)
      clear HO_6
      clear BK219
      clear BK220
      clear BK224
      clear HB
      have HO_6 := n0_
      have BK219 := n1_
      have BK220 := n2_
      have BK224 := n3_
      have HB := n4_
      clear n0_ n1_ n2_ n3_ n4_
      refine start_ (n := 12) (S := fun w' => w'.cell? ⟨gb220, 0, none⟩ = some (.int .i64 x221000_1) ∧ w'.cell? ⟨gb220, 1, none⟩ = some (.int .i64 x221001_1) ∧ w'.cell? ⟨gb220, 2, none⟩ = some (.int .i64 x221002_1) ∧ w'.cell? ⟨gb220, 3, none⟩ = some (.int .i64 x221003_1) ∧ w'.cell? ⟨gb220, 4, none⟩ = some (.int .i64 x221004_1)) (ds := []) #[false, false, false, false, false, false, false, false, false, false, false, false] (by kernel_rfl) rfl rfl ⟨(blk_cell BK220.out 0).trans rfl, (blk_cell BK220.out 1).trans rfl, (blk_cell BK220.out 2).trans rfl, (blk_cell BK220.out 3).trans rfl, (blk_cell BK220.out 4).trans rfl⟩ (fun hHeld => ?_); refine with_tabW spec_doRun.tab15 spec_doRun.bits15 (fun HT_ HW_ => ?_)
      generalize w23.drew = w24 at HO_6 BK219 BK220 BK224 HB hHeld ⊢
      refine pu_ 0 73 12 1 ?_
      refine pu_ 2 75 12 5 ?_
      refine pu_ 4 77 12 21 ?_
      refine pu_ 6 79 12 85 ?_
      refine tk_ 1 74 12 87 hHeld ?_
      refine pu_ 3 76 12 95 ?_
      refine tk_ 7 80 12 223 hHeld ?_
      refine one_ (i := 5) (N := some 78) (pm_ 12 255) rfl rfl (one_of HT_.out (by kernel_rfl)) (by decide) (fun K hK => ?_)
      refine goes_ Tryz.func50 (by kernel_rfl) rfl #[.int .i64 0, .int .i64 (wrap64 (-a0_3))] (by rfl) rfl rfl (by (try simp only [List.map_toArray, List.map_cons, List.map_nil]); first | done | rfl | (simp only [List.length_drop, List.length_take]; rfl)) ?_
      with_reducible refine (spec_l1Most.calls 0 (wrap64 (-a0_3)) t225 _ A12.out).mono ?_
      rintro e w' ⟨rfl, ⟨nd, rfl⟩⟩
      refine ⟨_, rfl, ?_⟩
      refine hK.out _ _ ⟨(blk_cell BK220.out 0).trans rfl, (blk_cell BK220.out 1).trans rfl, (blk_cell BK220.out 2).trans rfl, (blk_cell BK220.out 3).trans rfl, (blk_cell BK220.out 4).trans rfl⟩ (fun hHeld => ?_)
      clear hK K
      refine norm_ (a' := ?_) ?_ ?_
      rotate_left
      ·
       show Act.put _ (some 78) _ = _
       simp only [Act.put, List.setIfInBounds_toArray, List.set_cons_zero, List.set_cons_succ, i64_w, i32_w]
       rfl
      refine pu_ 8 81 12 511 ?_
      refine pu_ 9 82 12 1023 ?_
      refine pu_ 10 83 12 2047 ?_
      refine one_ (i := 11) (N := none) (pm_ 12 4095) rfl rfl (one_of HT_.out (by kernel_rfl)) (by decide) (fun K hK => ?_)
      have hs25 : w24.cell? ⟨gb224, 3, none⟩ = some (.int .i64 0) := (blk_cell BK224.out 3).trans rfl
      have hfs25 := blk_frozen BK224.out 3
      have hns25_0 := NB219_224.out
      have hns25_1 := NB220_224.out
      have hms25_0 := NB224_219.out
      have hms25_1 := NB224_220.out
      refine skip_ (w1 := ?_) (by rfl) rfl ?_ ?_
      rotate_left
      ·
       go_simp
       rfl
      refine hK.out _ _ ⟨((cell_far (p := ⟨gb224, _, none⟩) NB220_224.out _).trans (hHeld.1)), ((cell_far (p := ⟨gb224, _, none⟩) NB220_224.out _).trans (hHeld.2.1)), ((cell_far (p := ⟨gb224, _, none⟩) NB220_224.out _).trans (hHeld.2.2.1)), ((cell_far (p := ⟨gb224, _, none⟩) NB220_224.out _).trans (hHeld.2.2.2.1)), ((cell_far (p := ⟨gb224, _, none⟩) NB220_224.out _).trans (hHeld.2.2.2.2))⟩ (fun hHeld => ?_)
      clear hK K
      refine done_ (done_of HT_.out (by kernel_rfl)) ?_
      have hcz26_0 : w24.cell? ⟨gb224, 0, none⟩ = some (.int .i64 (wrap64 ((wrap64 (x221000_1 * (wrap64 (a0_3 + a0_1)))) + x221002_1))) := (blk_cell BK224.out 0).trans rfl
      have hcz26_1 : w24.cell? ⟨gb224, 1, none⟩ = some (.int .i64 (wrap64 ((wrap64 (x221001_1 * (wrap64 (a0_3 + a0_1)))) + (wrap64 ((wrap64 (-a0_3)) * x221002_1))))) := (blk_cell BK224.out 1).trans rfl
      have hcz26_2 : w24.cell? ⟨gb224, 2, none⟩ = some (.int .i64 (wrap64 (x221002_1 * (wrap64 ((wrap64 ((wrap64 (a0_3 + a0_1)) - a0_1)) - a0_2))))) := (blk_cell BK224.out 2).trans rfl
      have hcz26_3 : w24.cell? ⟨gb224, 3, none⟩ = some (.int .i64 0) := (blk_cell BK224.out 3).trans rfl
      have hcz26_4 : w24.cell? ⟨gb224, 4, none⟩ = some (.int .i64 (wrap64 (x221004_1 * (wrap64 (a0_3 + a0_1))))) := (blk_cell BK224.out 4).trans rfl
      have hfz26_0 := blk_frozen BK224.out 0
      have hfz26_1 := blk_frozen BK224.out 1
      have hfz26_2 := blk_frozen BK224.out 2
      have hfz26_3 := blk_frozen BK224.out 3
      have hfz26_4 := blk_frozen BK224.out 4
      have hcz27_0 : w24.cell? ⟨gb220, 0, none⟩ = some (.int .i64 x221000_1) := (blk_cell BK220.out 0).trans rfl
      have hcz27_1 : w24.cell? ⟨gb220, 1, none⟩ = some (.int .i64 x221001_1) := (blk_cell BK220.out 1).trans rfl
      have hcz27_2 : w24.cell? ⟨gb220, 2, none⟩ = some (.int .i64 x221002_1) := (blk_cell BK220.out 2).trans rfl
      have hcz27_3 : w24.cell? ⟨gb220, 3, none⟩ = some (.int .i64 x221003_1) := (blk_cell BK220.out 3).trans rfl
      have hcz27_4 : w24.cell? ⟨gb220, 4, none⟩ = some (.int .i64 x221004_1) := (blk_cell BK220.out 4).trans rfl
      have hfz27_0 := blk_frozen BK220.out 0
      have hfz27_1 := blk_frozen BK220.out 1
      have hfz27_2 := blk_frozen BK220.out 2
      have hfz27_3 := blk_frozen BK220.out 3
      have hfz27_4 := blk_frozen BK220.out 4
      try go_wp2_with (first | ((with_reducible refine gate_builtin (b := .append) (xs := #[.tmp 85, .tmp 87]) rfl ?_); at_builtin; refine Kd.R_append k60 (w0 := w) w.heap.size rfl (.tmp 85) (.tmp 87) 57 60 (.agg #[(.int .i64 0), (.int .i64 0), (.int .i64 0), (.int .i64 0), (.int .i64 0)]) 40 rfl Tryz.underlying57 info60 rfl (by decide) (by omega) u6 x6_1 (⟨wrap64 ((wrap64 (x221000_1 * (wrap64 (a0_3 + a0_1)))) + x221002_1), wrap64 ((wrap64 (x221001_1 * (wrap64 (a0_3 + a0_1)))) + (wrap64 ((wrap64 (-a0_3)) * x221002_1))), wrap64 (x221002_1 * (wrap64 ((wrap64 ((wrap64 (a0_3 + a0_1)) - a0_1)) - a0_2))), wrap64 ((wrap64 (x221003_1 * (wrap64 (a0_3 + a0_1)))) + (wrap64 (t225 * x221002_1))), wrap64 (x221004_1 * (wrap64 (a0_3 + a0_1)))⟩ : S60) [.int .i64 (wrap64 ((wrap64 (x221000_1 * (wrap64 (a0_3 + a0_1)))) + x221002_1)), .int .i64 (wrap64 ((wrap64 (x221001_1 * (wrap64 (a0_3 + a0_1)))) + (wrap64 ((wrap64 (-a0_3)) * x221002_1)))), .int .i64 (wrap64 (x221002_1 * (wrap64 ((wrap64 ((wrap64 (a0_3 + a0_1)) - a0_1)) - a0_2)))), .int .i64 (wrap64 ((wrap64 (x221003_1 * (wrap64 (a0_3 + a0_1)))) + (wrap64 (t225 * x221002_1)))), .int .i64 (wrap64 (x221004_1 * (wrap64 (a0_3 + a0_1))))] (fun k_ => k_ ≠ gb220 ∧ k_ ≠ gb224) (fun _ => False) rfl (by first | (go_simp; done) | (go_simp; rfl)) ?aP (fun _ hk => hk.elim) ?aF ?aO ?aB ?aS ?aL ?_; (case aP => exact k60_mkM _ _ _ (⟨wrap64 ((wrap64 (x221000_1 * (wrap64 (a0_3 + a0_1)))) + x221002_1), wrap64 ((wrap64 (x221001_1 * (wrap64 (a0_3 + a0_1)))) + (wrap64 ((wrap64 (-a0_3)) * x221002_1))), wrap64 (x221002_1 * (wrap64 ((wrap64 ((wrap64 (a0_3 + a0_1)) - a0_1)) - a0_2))), wrap64 ((wrap64 (x221003_1 * (wrap64 (a0_3 + a0_1)))) + (wrap64 (t225 * x221002_1))), wrap64 (x221004_1 * (wrap64 (a0_3 + a0_1)))⟩ : S60)); (case aB => exact bw_); (case aF => exact (fun k_ hk => ⟨Kd.freshB (g := gb220) (o := .cells #[.int .i64 (wrap64 ((wrap64 (x221000_1 * (wrap64 (a0_3 + a0_1)))) + x221002_1)), .int .i64 (wrap64 ((wrap64 (x221001_1 * (wrap64 (a0_3 + a0_1)))) + (wrap64 ((wrap64 (-a0_3)) * x221002_1)))), .int .i64 (wrap64 (x221002_1 * (wrap64 ((wrap64 ((wrap64 (a0_3 + a0_1)) - a0_1)) - a0_2)))), .int .i64 (wrap64 ((wrap64 (x221003_1 * (wrap64 (a0_3 + a0_1)))) + (wrap64 (t225 * x221002_1)))), .int .i64 (wrap64 (x221004_1 * (wrap64 (a0_3 + a0_1))))] 60 (0, 0)) (by (with_reducible repeat (first | refine blk_drewN ?_ _ | refine blk_drew ?_ | refine blk_alloc ?_ _)); refine blk_put (cs := #[.int .i64 (wrap64 ((wrap64 (x221000_1 * (wrap64 (a0_3 + a0_1)))) + x221002_1)), .int .i64 (wrap64 ((wrap64 (x221001_1 * (wrap64 (a0_3 + a0_1)))) + (wrap64 ((wrap64 (-a0_3)) * x221002_1)))), .int .i64 (wrap64 (x221002_1 * (wrap64 ((wrap64 ((wrap64 (a0_3 + a0_1)) - a0_1)) - a0_2)))), .int .i64 (wrap64 ((wrap64 (x221003_1 * (wrap64 (a0_3 + a0_1)))) + (wrap64 (t225 * x221002_1)))), .int .i64 x221004_1]) ?_ 4 _ rfl; (with_reducible repeat (first | refine blk_drewN ?_ _ | refine blk_drew ?_ | refine blk_alloc ?_ _)); refine blk_put (cs := #[.int .i64 (wrap64 ((wrap64 (x221000_1 * (wrap64 (a0_3 + a0_1)))) + x221002_1)), .int .i64 (wrap64 ((wrap64 (x221001_1 * (wrap64 (a0_3 + a0_1)))) + (wrap64 ((wrap64 (-a0_3)) * x221002_1)))), .int .i64 (wrap64 (x221002_1 * (wrap64 ((wrap64 ((wrap64 (a0_3 + a0_1)) - a0_1)) - a0_2)))), .int .i64 x221003_1, .int .i64 x221004_1]) ?_ 3 _ rfl; (with_reducible repeat (first | refine blk_drewN ?_ _ | refine blk_drew ?_ | refine blk_alloc ?_ _)); refine blk_put (cs := #[.int .i64 (wrap64 ((wrap64 (x221000_1 * (wrap64 (a0_3 + a0_1)))) + x221002_1)), .int .i64 (wrap64 ((wrap64 (x221001_1 * (wrap64 (a0_3 + a0_1)))) + (wrap64 ((wrap64 (-a0_3)) * x221002_1)))), .int .i64 x221002_1, .int .i64 x221003_1, .int .i64 x221004_1]) ?_ 2 _ rfl; (with_reducible repeat (first | refine blk_drewN ?_ _ | refine blk_drew ?_ | refine blk_alloc ?_ _)); refine blk_put (cs := #[.int .i64 (wrap64 ((wrap64 (x221000_1 * (wrap64 (a0_3 + a0_1)))) + x221002_1)), .int .i64 x221001_1, .int .i64 x221002_1, .int .i64 x221003_1, .int .i64 x221004_1]) ?_ 1 _ rfl; (with_reducible repeat (first | refine blk_drewN ?_ _ | refine blk_drew ?_ | refine blk_alloc ?_ _)); refine blk_put (cs := #[.int .i64 x221000_1, .int .i64 x221001_1, .int .i64 x221002_1, .int .i64 x221003_1, .int .i64 x221004_1]) ?_ 0 _ rfl; (with_reducible repeat (first | refine blk_drewN ?_ _ | refine blk_drew ?_ | refine blk_alloc ?_ _)); refine blk_far ?_ NB220_224.out _; (with_reducible repeat (first | refine blk_drewN ?_ _ | refine blk_drew ?_ | refine blk_alloc ?_ _)); exact BK220.out) k_ hk, Kd.freshB (g := gb224) (o := .cells #[.int .i64 (wrap64 ((wrap64 (x221000_1 * (wrap64 (a0_3 + a0_1)))) + x221002_1)), .int .i64 (wrap64 ((wrap64 (x221001_1 * (wrap64 (a0_3 + a0_1)))) + (wrap64 ((wrap64 (-a0_3)) * x221002_1)))), .int .i64 (wrap64 (x221002_1 * (wrap64 ((wrap64 ((wrap64 (a0_3 + a0_1)) - a0_1)) - a0_2)))), .int .i64 (wrap64 ((wrap64 (x221003_1 * (wrap64 (a0_3 + a0_1)))) + (wrap64 (t225 * x221002_1)))), .int .i64 (wrap64 (x221004_1 * (wrap64 (a0_3 + a0_1))))] 60 (0, 0)) (by (with_reducible repeat (first | refine blk_drewN ?_ _ | refine blk_drew ?_ | refine blk_alloc ?_ _)); refine blk_far ?_ NB224_220.out _; (with_reducible repeat (first | refine blk_drewN ?_ _ | refine blk_drew ?_ | refine blk_alloc ?_ _)); refine blk_far ?_ NB224_220.out _; (with_reducible repeat (first | refine blk_drewN ?_ _ | refine blk_drew ?_ | refine blk_alloc ?_ _)); refine blk_far ?_ NB224_220.out _; (with_reducible repeat (first | refine blk_drewN ?_ _ | refine blk_drew ?_ | refine blk_alloc ?_ _)); refine blk_far ?_ NB224_220.out _; (with_reducible repeat (first | refine blk_drewN ?_ _ | refine blk_drew ?_ | refine blk_alloc ?_ _)); refine blk_far ?_ NB224_220.out _; (with_reducible repeat (first | refine blk_drewN ?_ _ | refine blk_drew ?_ | refine blk_alloc ?_ _)); refine blk_put (cs := #[.int .i64 (wrap64 ((wrap64 (x221000_1 * (wrap64 (a0_3 + a0_1)))) + x221002_1)), .int .i64 (wrap64 ((wrap64 (x221001_1 * (wrap64 (a0_3 + a0_1)))) + (wrap64 ((wrap64 (-a0_3)) * x221002_1)))), .int .i64 (wrap64 (x221002_1 * (wrap64 ((wrap64 ((wrap64 (a0_3 + a0_1)) - a0_1)) - a0_2)))), .int .i64 0, .int .i64 (wrap64 (x221004_1 * (wrap64 (a0_3 + a0_1))))]) ?_ 3 _ rfl; (with_reducible repeat (first | refine blk_drewN ?_ _ | refine blk_drew ?_ | refine blk_alloc ?_ _)); exact BK224.out) k_ hk⟩)); (case aO => exact (by (with_reducible repeat (first | apply Kd.R_alloc | apply Kd.R_drewN | apply Kd.R_drew)); exact Kd.R_mono (Kd.R_far (p := ⟨gb220, 4, none⟩) (Kd.R_far (p := ⟨gb220, 3, none⟩) (Kd.R_far (p := ⟨gb220, 2, none⟩) (Kd.R_far (p := ⟨gb220, 1, none⟩) (Kd.R_far (p := ⟨gb220, 0, none⟩) (Kd.R_far (p := ⟨gb224, 3, none⟩) (Kd.R_mono (Kd.R_mono HO_6.out (fun k_ hk => (⟨hk, hk.2⟩ : _ ∧ k_ ≠ gb224))) (fun k_ hk => (⟨hk, hk.1.1⟩ : _ ∧ k_ ≠ gb220))) (fun _ hk => hk.1.2) (.int .i64 (wrap64 ((wrap64 (x221003_1 * (wrap64 (a0_3 + a0_1)))) + (wrap64 (t225 * x221002_1)))))) (fun _ hk => hk.2) (.int .i64 (wrap64 ((wrap64 (x221000_1 * (wrap64 (a0_3 + a0_1)))) + x221002_1)))) (fun _ hk => hk.2) (.int .i64 (wrap64 ((wrap64 (x221001_1 * (wrap64 (a0_3 + a0_1)))) + (wrap64 ((wrap64 (-a0_3)) * x221002_1)))))) (fun _ hk => hk.2) (.int .i64 (wrap64 (x221002_1 * (wrap64 ((wrap64 ((wrap64 (a0_3 + a0_1)) - a0_1)) - a0_2)))))) (fun _ hk => hk.2) (.int .i64 (wrap64 ((wrap64 (x221003_1 * (wrap64 (a0_3 + a0_1)))) + (wrap64 (t225 * x221002_1)))))) (fun _ hk => hk.2) (.int .i64 (wrap64 (x221004_1 * (wrap64 (a0_3 + a0_1)))))) (fun _ hk => ⟨hk.1.1.1, hk.1.1.2⟩))); (case aS => exact (below_size bw_)); (case aL => have := LMc13.out; omega); intro v227 w28 ho hb hg hat; rw [← Ny226.out] at ho; have n0_ := Aside0.mk (blk_grown (g := gb219) (o := .cells #[.int .i64 a0_0, .int .i64 a0_1, .int .i64 a0_2, .int .i64 a0_3] 25 (0, 0)) (by (with_reducible repeat (first | refine blk_drewN ?_ _ | refine blk_drew ?_ | refine blk_alloc ?_ _)); refine blk_far ?_ NB219_220.out _; (with_reducible repeat (first | refine blk_drewN ?_ _ | refine blk_drew ?_ | refine blk_alloc ?_ _)); refine blk_far ?_ NB219_220.out _; (with_reducible repeat (first | refine blk_drewN ?_ _ | refine blk_drew ?_ | refine blk_alloc ?_ _)); refine blk_far ?_ NB219_220.out _; (with_reducible repeat (first | refine blk_drewN ?_ _ | refine blk_drew ?_ | refine blk_alloc ?_ _)); refine blk_far ?_ NB219_220.out _; (with_reducible repeat (first | refine blk_drewN ?_ _ | refine blk_drew ?_ | refine blk_alloc ?_ _)); refine blk_far ?_ NB219_220.out _; (with_reducible repeat (first | refine blk_drewN ?_ _ | refine blk_drew ?_ | refine blk_alloc ?_ _)); refine blk_far ?_ NB219_224.out _; (with_reducible repeat (first | refine blk_drewN ?_ _ | refine blk_drew ?_ | refine blk_alloc ?_ _)); exact BK219.out) hg (Kd.R_ne HO_6.out BK219.out (by decide))); have n1_ := Aside0.mk (blk_grown (g := gb220) (o := .cells #[.int .i64 (wrap64 ((wrap64 (x221000_1 * (wrap64 (a0_3 + a0_1)))) + x221002_1)), .int .i64 (wrap64 ((wrap64 (x221001_1 * (wrap64 (a0_3 + a0_1)))) + (wrap64 ((wrap64 (-a0_3)) * x221002_1)))), .int .i64 (wrap64 (x221002_1 * (wrap64 ((wrap64 ((wrap64 (a0_3 + a0_1)) - a0_1)) - a0_2)))), .int .i64 (wrap64 ((wrap64 (x221003_1 * (wrap64 (a0_3 + a0_1)))) + (wrap64 (t225 * x221002_1)))), .int .i64 (wrap64 (x221004_1 * (wrap64 (a0_3 + a0_1))))] 60 (0, 0)) (by (with_reducible repeat (first | refine blk_drewN ?_ _ | refine blk_drew ?_ | refine blk_alloc ?_ _)); refine blk_put (cs := #[.int .i64 (wrap64 ((wrap64 (x221000_1 * (wrap64 (a0_3 + a0_1)))) + x221002_1)), .int .i64 (wrap64 ((wrap64 (x221001_1 * (wrap64 (a0_3 + a0_1)))) + (wrap64 ((wrap64 (-a0_3)) * x221002_1)))), .int .i64 (wrap64 (x221002_1 * (wrap64 ((wrap64 ((wrap64 (a0_3 + a0_1)) - a0_1)) - a0_2)))), .int .i64 (wrap64 ((wrap64 (x221003_1 * (wrap64 (a0_3 + a0_1)))) + (wrap64 (t225 * x221002_1)))), .int .i64 x221004_1]) ?_ 4 _ rfl; (with_reducible repeat (first | refine blk_drewN ?_ _ | refine blk_drew ?_ | refine blk_alloc ?_ _)); refine blk_put (cs := #[.int .i64 (wrap64 ((wrap64 (x221000_1 * (wrap64 (a0_3 + a0_1)))) + x221002_1)), .int .i64 (wrap64 ((wrap64 (x221001_1 * (wrap64 (a0_3 + a0_1)))) + (wrap64 ((wrap64 (-a0_3)) * x221002_1)))), .int .i64 (wrap64 (x221002_1 * (wrap64 ((wrap64 ((wrap64 (a0_3 + a0_1)) - a0_1)) - a0_2)))), .int .i64 x221003_1, .int .i64 x221004_1]) ?_ 3 _ rfl; (with_reducible repeat (first | refine blk_drewN ?_ _ | refine blk_drew ?_ | refine blk_alloc ?_ _)); refine blk_put (cs := #[.int .i64 (wrap64 ((wrap64 (x221000_1 * (wrap64 (a0_3 + a0_1)))) + x221002_1)), .int .i64 (wrap64 ((wrap64 (x221001_1 * (wrap64 (a0_3 + a0_1)))) + (wrap64 ((wrap64 (-a0_3)) * x221002_1)))), .int .i64 x221002_1, .int .i64 x221003_1, .int .i64 x221004_1]) ?_ 2 _ rfl; (with_reducible repeat (first | refine blk_drewN ?_ _ | refine blk_drew ?_ | refine blk_alloc ?_ _)); refine blk_put (cs := #[.int .i64 (wrap64 ((wrap64 (x221000_1 * (wrap64 (a0_3 + a0_1)))) + x221002_1)), .int .i64 x221001_1, .int .i64 x221002_1, .int .i64 x221003_1, .int .i64 x221004_1]) ?_ 1 _ rfl; (with_reducible repeat (first | refine blk_drewN ?_ _ | refine blk_drew ?_ | refine blk_alloc ?_ _)); refine blk_put (cs := #[.int .i64 x221000_1, .int .i64 x221001_1, .int .i64 x221002_1, .int .i64 x221003_1, .int .i64 x221004_1]) ?_ 0 _ rfl; (with_reducible repeat (first | refine blk_drewN ?_ _ | refine blk_drew ?_ | refine blk_alloc ?_ _)); refine blk_far ?_ NB220_224.out _; (with_reducible repeat (first | refine blk_drewN ?_ _ | refine blk_drew ?_ | refine blk_alloc ?_ _)); exact BK220.out) hg (Kd.R_away HO_6.out (fun _ hk => hk.1))); have n2_ := Aside0.mk (blk_grown (g := gb224) (o := .cells #[.int .i64 (wrap64 ((wrap64 (x221000_1 * (wrap64 (a0_3 + a0_1)))) + x221002_1)), .int .i64 (wrap64 ((wrap64 (x221001_1 * (wrap64 (a0_3 + a0_1)))) + (wrap64 ((wrap64 (-a0_3)) * x221002_1)))), .int .i64 (wrap64 (x221002_1 * (wrap64 ((wrap64 ((wrap64 (a0_3 + a0_1)) - a0_1)) - a0_2)))), .int .i64 (wrap64 ((wrap64 (x221003_1 * (wrap64 (a0_3 + a0_1)))) + (wrap64 (t225 * x221002_1)))), .int .i64 (wrap64 (x221004_1 * (wrap64 (a0_3 + a0_1))))] 60 (0, 0)) (by (with_reducible repeat (first | refine blk_drewN ?_ _ | refine blk_drew ?_ | refine blk_alloc ?_ _)); refine blk_far ?_ NB224_220.out _; (with_reducible repeat (first | refine blk_drewN ?_ _ | refine blk_drew ?_ | refine blk_alloc ?_ _)); refine blk_far ?_ NB224_220.out _; (with_reducible repeat (first | refine blk_drewN ?_ _ | refine blk_drew ?_ | refine blk_alloc ?_ _)); refine blk_far ?_ NB224_220.out _; (with_reducible repeat (first | refine blk_drewN ?_ _ | refine blk_drew ?_ | refine blk_alloc ?_ _)); refine blk_far ?_ NB224_220.out _; (with_reducible repeat (first | refine blk_drewN ?_ _ | refine blk_drew ?_ | refine blk_alloc ?_ _)); refine blk_far ?_ NB224_220.out _; (with_reducible repeat (first | refine blk_drewN ?_ _ | refine blk_drew ?_ | refine blk_alloc ?_ _)); refine blk_put (cs := #[.int .i64 (wrap64 ((wrap64 (x221000_1 * (wrap64 (a0_3 + a0_1)))) + x221002_1)), .int .i64 (wrap64 ((wrap64 (x221001_1 * (wrap64 (a0_3 + a0_1)))) + (wrap64 ((wrap64 (-a0_3)) * x221002_1)))), .int .i64 (wrap64 (x221002_1 * (wrap64 ((wrap64 ((wrap64 (a0_3 + a0_1)) - a0_1)) - a0_2)))), .int .i64 0, .int .i64 (wrap64 (x221004_1 * (wrap64 (a0_3 + a0_1))))]) ?_ 3 _ rfl; (with_reducible repeat (first | refine blk_drewN ?_ _ | refine blk_drew ?_ | refine blk_alloc ?_ _)); exact BK224.out) hg (Kd.R_away HO_6.out (fun _ hk => hk.2))); have n3_ := Aside0.mk (hb); have n4_ := Aside0.mk (ho); clear BK219; clear BK220; clear BK224; clear HB; clear HO_6; have BK219 := n0_; have BK220 := n1_; have BK224 := n2_; have HB := n3_; have HO228 := n4_; clear n0_ n1_ n2_ n3_ n4_; clear ho hb hg hat))
      go_roundg k1
      case measure => have := HK1.out; omega
      case rel => exact ⟨(y226), (wrap64 (x7_1 + 1)), (wrap64 ((wrap64 (x221000_1 * (wrap64 (a0_3 + a0_1)))) + x221002_1)), (wrap64 ((wrap64 (x221001_1 * (wrap64 (a0_3 + a0_1)))) + (wrap64 ((wrap64 (-a0_3)) * x221002_1)))), (wrap64 (x221002_1 * (wrap64 ((wrap64 ((wrap64 (a0_3 + a0_1)) - a0_1)) - a0_2)))), (wrap64 ((wrap64 (x221003_1 * (wrap64 (a0_3 + a0_1)))) + (wrap64 (t225 * x221002_1)))), (wrap64 (x221004_1 * (wrap64 (a0_3 + a0_1)))), (by first | rfl | (simp; done) | (simp [*]; done)), H', ⟨by have := HK1.out; omega⟩, ⟨by (with_reducible repeat (first | apply Kd.R_alloc | apply Kd.R_drewN | apply Kd.R_drew)); exact Kd.R_mono HO228.out (fun _ hk => hk.1)⟩, ⟨bk_⟩, ⟨bk_⟩, ⟨bw_⟩⟩
     ·
      rw [if_neg c13] at H
      exact absurd H (by simp)
    ·
     rw [if_neg c11] at H
     have c11b0 : ((Int.tmod x7_1 2) == 0) = false := beq_eq_false_iff_ne.mpr c11
     have c11b1 : ((Int.tmod x7_1 2) != 0) = true := bne_iff_ne.mpr c11
     replace H := Option.bind_eq_some_iff.mp H
     obtain ⟨t230, A290, H⟩ := H
     (try dsimp only at H)
     have A29 := Aside0.mk A290
     clear A290
     by_cases c30 : x6_1.length < 3518437208883
     ·
      rw [if_pos c30] at H
      have LMc30 := Aside0.mk c30
      clear c30
      obtain ⟨y231, hy231⟩ : ∃ y_ : List (S60), y_ = (x6_1 ++ [(⟨wrap64 ((wrap64 (x221000_1 * (wrap64 (a0_3 + a0_2)))) + x221002_1), wrap64 ((wrap64 (x221001_1 * (wrap64 (a0_3 + a0_2)))) + (wrap64 (a0_3 * x221002_1))), wrap64 (x221002_1 * (wrap64 ((wrap64 ((wrap64 (a0_3 + a0_2)) - a0_1)) - a0_2))), wrap64 ((wrap64 (x221003_1 * (wrap64 (a0_3 + a0_2)))) + (wrap64 (t230 * x221002_1))), wrap64 (x221004_1 * (wrap64 (a0_3 + a0_2)))⟩ : S60)]) := ⟨_, rfl⟩
      replace H : (spec_doRun.l0 k1 a1 y231 (wrap64 (x7_1 + 1)) a0_0 a0_1 a0_2 a0_3 (wrap64 ((wrap64 (x221000_1 * (wrap64 (a0_3 + a0_2)))) + x221002_1)) (wrap64 ((wrap64 (x221001_1 * (wrap64 (a0_3 + a0_2)))) + (wrap64 (a0_3 * x221002_1)))) (wrap64 (x221002_1 * (wrap64 ((wrap64 ((wrap64 (a0_3 + a0_2)) - a0_1)) - a0_2)))) (wrap64 ((wrap64 (x221003_1 * (wrap64 (a0_3 + a0_2)))) + (wrap64 (t230 * x221002_1)))) (wrap64 (x221004_1 * (wrap64 (a0_3 + a0_2))))) = some r := by first | (rw [hy231]; with_reducible exact H) | (have H2_ := (Option.bind_some _ _).symm.trans H; rw [hy231]; with_reducible exact H2_) | (have H2_ := (Option.bind_some _ _).symm.trans H; with_reducible exact H2_) | with_reducible exact H | (rw [hy231]; exact H) | exact H
      have Ny231 := Aside0.mk hy231
      clear hy231
      have H' := Aside0.mk H
      clear H
      have hnb31 := NB219_220.out
      have hnc31 := NB220_219.out
      have hcz32_0 : wr.cell? ⟨gb219, 0, none⟩ = some (.int .i64 a0_0) := (blk_cell BK219.out 0).trans rfl
      have hcz32_1 : wr.cell? ⟨gb219, 1, none⟩ = some (.int .i64 a0_1) := (blk_cell BK219.out 1).trans rfl
      have hcz32_2 : wr.cell? ⟨gb219, 2, none⟩ = some (.int .i64 a0_2) := (blk_cell BK219.out 2).trans rfl
      have hcz32_3 : wr.cell? ⟨gb219, 3, none⟩ = some (.int .i64 a0_3) := (blk_cell BK219.out 3).trans rfl
      have hfz32_0 := blk_frozen BK219.out 0
      have hfz32_1 := blk_frozen BK219.out 1
      have hfz32_2 := blk_frozen BK219.out 2
      have hfz32_3 := blk_frozen BK219.out 3
      have hcz33_0 : wr.cell? ⟨gb220, 0, none⟩ = some (.int .i64 x221000_1) := (blk_cell BK220.out 0).trans rfl
      have hcz33_1 : wr.cell? ⟨gb220, 1, none⟩ = some (.int .i64 x221001_1) := (blk_cell BK220.out 1).trans rfl
      have hcz33_2 : wr.cell? ⟨gb220, 2, none⟩ = some (.int .i64 x221002_1) := (blk_cell BK220.out 2).trans rfl
      have hcz33_3 : wr.cell? ⟨gb220, 3, none⟩ = some (.int .i64 x221003_1) := (blk_cell BK220.out 3).trans rfl
      have hcz33_4 : wr.cell? ⟨gb220, 4, none⟩ = some (.int .i64 x221004_1) := (blk_cell BK220.out 4).trans rfl
      have hfz33_0 := blk_frozen BK220.out 0
      have hfz33_1 := blk_frozen BK220.out 1
      have hfz33_2 := blk_frozen BK220.out 2
      have hfz33_3 := blk_frozen BK220.out 3
      have hfz33_4 := blk_frozen BK220.out 4
      try go_wp2_with (first | ((with_reducible refine gate_dst (N := 10) rfl ?_); refine box_event ?hg (N := 10) ?hd (cs := #[.int .i64 0, .int .i64 0, .int .i64 0, .int .i64 0, .int .i64 0]) (t := 60) ?hr ?_; (case hd => rfl); (case hg => rfl); (case hr => first | (go_simp; done) | (go_simp; rfl)); intro gb229 hg w34 hbox hb; have n0_ := Aside0.mk (Kd.R_below (Kd.R_elderB (by (with_reducible repeat (first | apply Kd.R_alloc | apply Kd.R_drewN | apply Kd.R_drew)); exact HO_6.out) gb229 (Nat.le_of_eq hg.symm)) hb); have n1_ := Aside0.mk (blk_below (g := gb219) (o := .cells #[.int .i64 a0_0, .int .i64 a0_1, .int .i64 a0_2, .int .i64 a0_3] 25 (0, 0)) bk_ hb); have n2_ := Aside0.mk (blk_below (g := gb220) (o := .cells #[.int .i64 x221000_1, .int .i64 x221001_1, .int .i64 x221002_1, .int .i64 x221003_1, .int .i64 x221004_1] 60 (0, 0)) bk_ hb); have n3_ := Aside0.mk (below_step bw_ hb); have n4_ := Aside0.mk (hbox); have n5_ := Aside0.mk ((by rw [hg]; exact (below_size bw_) : w.heap.size ≤ gb229)); have n6_ := Aside0.mk ((by rw [hg]; exact (below_size bw_) : w.heap.size ≤ gb229)); have n7_ := Aside0.mk ((by rw [hg]; exact Nat.ne_of_lt (blk_lt (g := gb219) (o := .cells #[.int .i64 a0_0, .int .i64 a0_1, .int .i64 a0_2, .int .i64 a0_3] 25 (0, 0)) bk_) : gb219 ≠ gb229)); have n8_ := Aside0.mk ((by rw [hg]; exact Nat.ne_of_gt (blk_lt (g := gb219) (o := .cells #[.int .i64 a0_0, .int .i64 a0_1, .int .i64 a0_2, .int .i64 a0_3] 25 (0, 0)) bk_) : gb229 ≠ gb219)); have n9_ := Aside0.mk ((by rw [hg]; exact Nat.ne_of_lt (blk_lt (g := gb220) (o := .cells #[.int .i64 x221000_1, .int .i64 x221001_1, .int .i64 x221002_1, .int .i64 x221003_1, .int .i64 x221004_1] 60 (0, 0)) bk_) : gb220 ≠ gb229)); have n10_ := Aside0.mk ((by rw [hg]; exact Nat.ne_of_gt (blk_lt (g := gb220) (o := .cells #[.int .i64 x221000_1, .int .i64 x221001_1, .int .i64 x221002_1, .int .i64 x221003_1, .int .i64 x221004_1] 60 (0, 0)) bk_) : gb229 ≠ gb220)); clear HO_6; clear BK219; clear BK220; clear HB; have HO_6 := n0_; have BK219 := n1_; have BK220 := n2_; have HB := n3_; have BK229 := n4_; have GW229 := n5_; have GE229 := n6_; have NB219_229 := n7_; have NB229_219 := n8_; have NB220_229 := n9_; have NB229_220 := n10_; clear n0_ n1_ n2_ n3_ n4_ n5_ n6_ n7_ n8_ n9_ n10_; clear hb hbox hg; have hnb35 := NB229_219.out; have hnc35 := NB219_229.out; have hnb36 := NB229_220.out; have hnc36 := NB220_229.out; have hcz37_0 : w34.cell? ⟨gb229, 0, none⟩ = some (.int .i64 0) := (blk_cell BK229.out 0).trans rfl; have hcz37_1 : w34.cell? ⟨gb229, 1, none⟩ = some (.int .i64 0) := (blk_cell BK229.out 1).trans rfl; have hcz37_2 : w34.cell? ⟨gb229, 2, none⟩ = some (.int .i64 0) := (blk_cell BK229.out 2).trans rfl; have hcz37_3 : w34.cell? ⟨gb229, 3, none⟩ = some (.int .i64 0) := (blk_cell BK229.out 3).trans rfl; have hcz37_4 : w34.cell? ⟨gb229, 4, none⟩ = some (.int .i64 0) := (blk_cell BK229.out 4).trans rfl; have hfz37_0 := blk_frozen BK229.out 0; have hfz37_1 := blk_frozen BK229.out 1; have hfz37_2 := blk_frozen BK229.out 2; have hfz37_3 := blk_frozen BK229.out 3; have hfz37_4 := blk_frozen BK229.out 4; have hcz38_0 : w34.cell? ⟨gb220, 0, none⟩ = some (.int .i64 x221000_1) := (blk_cell BK220.out 0).trans rfl; have hcz38_1 : w34.cell? ⟨gb220, 1, none⟩ = some (.int .i64 x221001_1) := (blk_cell BK220.out 1).trans rfl; have hcz38_2 : w34.cell? ⟨gb220, 2, none⟩ = some (.int .i64 x221002_1) := (blk_cell BK220.out 2).trans rfl; have hcz38_3 : w34.cell? ⟨gb220, 3, none⟩ = some (.int .i64 x221003_1) := (blk_cell BK220.out 3).trans rfl; have hcz38_4 : w34.cell? ⟨gb220, 4, none⟩ = some (.int .i64 x221004_1) := (blk_cell BK220.out 4).trans rfl; have hfz38_0 := blk_frozen BK220.out 0; have hfz38_1 := blk_frozen BK220.out 1; have hfz38_2 := blk_frozen BK220.out 2; have hfz38_3 := blk_frozen BK220.out 3; have hfz38_4 := blk_frozen BK220.out 4; have hcz39_0 : w34.cell? ⟨gb219, 0, none⟩ = some (.int .i64 a0_0) := (blk_cell BK219.out 0).trans rfl; have hcz39_1 : w34.cell? ⟨gb219, 1, none⟩ = some (.int .i64 a0_1) := (blk_cell BK219.out 1).trans rfl; have hcz39_2 : w34.cell? ⟨gb219, 2, none⟩ = some (.int .i64 a0_2) := (blk_cell BK219.out 2).trans rfl; have hcz39_3 : w34.cell? ⟨gb219, 3, none⟩ = some (.int .i64 a0_3) := (blk_cell BK219.out 3).trans rfl; have hfz39_0 := blk_frozen BK219.out 0; have hfz39_1 := blk_frozen BK219.out 1; have hfz39_2 := blk_frozen BK219.out 2; have hfz39_3 := blk_frozen BK219.out 3))
      have n0_ : Aside0 (Kd.R k60 60 ((((((((w34.setCell ⟨gb229, 0, none⟩ (.int .i64 0)).setCell ⟨gb229, 1, none⟩ (.int .i64 0)).setCell ⟨gb229, 2, none⟩ (.int .i64 0)).setCell ⟨gb229, 3, none⟩ (.int .i64 0)).setCell ⟨gb229, 4, none⟩ (.int .i64 (wrap64 (x221004_1 * (wrap64 (a0_3 + a0_2)))))).setCell ⟨gb229, 0, none⟩ (.int .i64 (wrap64 ((wrap64 (x221000_1 * (wrap64 (a0_3 + a0_2)))) + x221002_1)))).setCell ⟨gb229, 1, none⟩ (.int .i64 (wrap64 ((wrap64 (x221001_1 * (wrap64 (a0_3 + a0_2)))) + (wrap64 (a0_3 * x221002_1)))))).setCell ⟨gb229, 2, none⟩ (.int .i64 (wrap64 (x221002_1 * (wrap64 ((wrap64 ((wrap64 (a0_3 + a0_2)) - a0_1)) - a0_2)))))) w.heap.size (fun k_ => k_ ≠ gb220 ∧ k_ ≠ gb229) u6 x6_1) := ⟨by (with_reducible repeat (first | apply Kd.R_alloc | apply Kd.R_drewN | apply Kd.R_drew)); exact Kd.R_mono (Kd.R_far (p := ⟨gb229, 2, none⟩) (Kd.R_far (p := ⟨gb229, 1, none⟩) (Kd.R_far (p := ⟨gb229, 0, none⟩) (Kd.R_far (p := ⟨gb229, 4, none⟩) (Kd.R_far (p := ⟨gb229, 3, none⟩) (Kd.R_far (p := ⟨gb229, 2, none⟩) (Kd.R_far (p := ⟨gb229, 1, none⟩) (Kd.R_far (p := ⟨gb229, 0, none⟩) (Kd.R_mono HO_6.out (fun k_ hk => (⟨hk, hk.2⟩ : _ ∧ k_ ≠ gb229))) (fun _ hk => hk.2) (.int .i64 0)) (fun _ hk => hk.2) (.int .i64 0)) (fun _ hk => hk.2) (.int .i64 0)) (fun _ hk => hk.2) (.int .i64 0)) (fun _ hk => hk.2) (.int .i64 (wrap64 (x221004_1 * (wrap64 (a0_3 + a0_2)))))) (fun _ hk => hk.2) (.int .i64 (wrap64 ((wrap64 (x221000_1 * (wrap64 (a0_3 + a0_2)))) + x221002_1)))) (fun _ hk => hk.2) (.int .i64 (wrap64 ((wrap64 (x221001_1 * (wrap64 (a0_3 + a0_2)))) + (wrap64 (a0_3 * x221002_1)))))) (fun _ hk => hk.2) (.int .i64 (wrap64 (x221002_1 * (wrap64 ((wrap64 ((wrap64 (a0_3 + a0_2)) - a0_1)) - a0_2)))))) (fun _ hk => ⟨hk.1.1, hk.1.2⟩)⟩
      have n1_ : Aside0 (((((((((w34.setCell ⟨gb229, 0, none⟩ (.int .i64 0)).setCell ⟨gb229, 1, none⟩ (.int .i64 0)).setCell ⟨gb229, 2, none⟩ (.int .i64 0)).setCell ⟨gb229, 3, none⟩ (.int .i64 0)).setCell ⟨gb229, 4, none⟩ (.int .i64 (wrap64 (x221004_1 * (wrap64 (a0_3 + a0_2)))))).setCell ⟨gb229, 0, none⟩ (.int .i64 (wrap64 ((wrap64 (x221000_1 * (wrap64 (a0_3 + a0_2)))) + x221002_1)))).setCell ⟨gb229, 1, none⟩ (.int .i64 (wrap64 ((wrap64 (x221001_1 * (wrap64 (a0_3 + a0_2)))) + (wrap64 (a0_3 * x221002_1)))))).setCell ⟨gb229, 2, none⟩ (.int .i64 (wrap64 (x221002_1 * (wrap64 ((wrap64 ((wrap64 (a0_3 + a0_2)) - a0_1)) - a0_2)))))).heap[gb219]? = some (.cells #[.int .i64 a0_0, .int .i64 a0_1, .int .i64 a0_2, .int .i64 a0_3] 25 (0, 0))) := ⟨by (with_reducible repeat (first | refine blk_drewN ?_ _ | refine blk_drew ?_ | refine blk_alloc ?_ _)); refine blk_far ?_ NB219_229.out _; (with_reducible repeat (first | refine blk_drewN ?_ _ | refine blk_drew ?_ | refine blk_alloc ?_ _)); refine blk_far ?_ NB219_229.out _; (with_reducible repeat (first | refine blk_drewN ?_ _ | refine blk_drew ?_ | refine blk_alloc ?_ _)); refine blk_far ?_ NB219_229.out _; (with_reducible repeat (first | refine blk_drewN ?_ _ | refine blk_drew ?_ | refine blk_alloc ?_ _)); refine blk_far ?_ NB219_229.out _; (with_reducible repeat (first | refine blk_drewN ?_ _ | refine blk_drew ?_ | refine blk_alloc ?_ _)); refine blk_far ?_ NB219_229.out _; (with_reducible repeat (first | refine blk_drewN ?_ _ | refine blk_drew ?_ | refine blk_alloc ?_ _)); refine blk_far ?_ NB219_229.out _; (with_reducible repeat (first | refine blk_drewN ?_ _ | refine blk_drew ?_ | refine blk_alloc ?_ _)); refine blk_far ?_ NB219_229.out _; (with_reducible repeat (first | refine blk_drewN ?_ _ | refine blk_drew ?_ | refine blk_alloc ?_ _)); refine blk_far ?_ NB219_229.out _; (with_reducible repeat (first | refine blk_drewN ?_ _ | refine blk_drew ?_ | refine blk_alloc ?_ _)); exact BK219.out⟩
      have n2_ : Aside0 (((((((((w34.setCell ⟨gb229, 0, none⟩ (.int .i64 0)).setCell ⟨gb229, 1, none⟩ (.int .i64 0)).setCell ⟨gb229, 2, none⟩ (.int .i64 0)).setCell ⟨gb229, 3, none⟩ (.int .i64 0)).setCell ⟨gb229, 4, none⟩ (.int .i64 (wrap64 (x221004_1 * (wrap64 (a0_3 + a0_2)))))).setCell ⟨gb229, 0, none⟩ (.int .i64 (wrap64 ((wrap64 (x221000_1 * (wrap64 (a0_3 + a0_2)))) + x221002_1)))).setCell ⟨gb229, 1, none⟩ (.int .i64 (wrap64 ((wrap64 (x221001_1 * (wrap64 (a0_3 + a0_2)))) + (wrap64 (a0_3 * x221002_1)))))).setCell ⟨gb229, 2, none⟩ (.int .i64 (wrap64 (x221002_1 * (wrap64 ((wrap64 ((wrap64 (a0_3 + a0_2)) - a0_1)) - a0_2)))))).heap[gb220]? = some (.cells #[.int .i64 x221000_1, .int .i64 x221001_1, .int .i64 x221002_1, .int .i64 x221003_1, .int .i64 x221004_1] 60 (0, 0))) := ⟨by (with_reducible repeat (first | refine blk_drewN ?_ _ | refine blk_drew ?_ | refine blk_alloc ?_ _)); refine blk_far ?_ NB220_229.out _; (with_reducible repeat (first | refine blk_drewN ?_ _ | refine blk_drew ?_ | refine blk_alloc ?_ _)); refine blk_far ?_ NB220_229.out _; (with_reducible repeat (first | refine blk_drewN ?_ _ | refine blk_drew ?_ | refine blk_alloc ?_ _)); refine blk_far ?_ NB220_229.out _; (with_reducible repeat (first | refine blk_drewN ?_ _ | refine blk_drew ?_ | refine blk_alloc ?_ _)); refine blk_far ?_ NB220_229.out _; (with_reducible repeat (first | refine blk_drewN ?_ _ | refine blk_drew ?_ | refine blk_alloc ?_ _)); refine blk_far ?_ NB220_229.out _; (with_reducible repeat (first | refine blk_drewN ?_ _ | refine blk_drew ?_ | refine blk_alloc ?_ _)); refine blk_far ?_ NB220_229.out _; (with_reducible repeat (first | refine blk_drewN ?_ _ | refine blk_drew ?_ | refine blk_alloc ?_ _)); refine blk_far ?_ NB220_229.out _; (with_reducible repeat (first | refine blk_drewN ?_ _ | refine blk_drew ?_ | refine blk_alloc ?_ _)); refine blk_far ?_ NB220_229.out _; (with_reducible repeat (first | refine blk_drewN ?_ _ | refine blk_drew ?_ | refine blk_alloc ?_ _)); exact BK220.out⟩
      have n3_ : Aside0 (((((((((w34.setCell ⟨gb229, 0, none⟩ (.int .i64 0)).setCell ⟨gb229, 1, none⟩ (.int .i64 0)).setCell ⟨gb229, 2, none⟩ (.int .i64 0)).setCell ⟨gb229, 3, none⟩ (.int .i64 0)).setCell ⟨gb229, 4, none⟩ (.int .i64 (wrap64 (x221004_1 * (wrap64 (a0_3 + a0_2)))))).setCell ⟨gb229, 0, none⟩ (.int .i64 (wrap64 ((wrap64 (x221000_1 * (wrap64 (a0_3 + a0_2)))) + x221002_1)))).setCell ⟨gb229, 1, none⟩ (.int .i64 (wrap64 ((wrap64 (x221001_1 * (wrap64 (a0_3 + a0_2)))) + (wrap64 (a0_3 * x221002_1)))))).setCell ⟨gb229, 2, none⟩ (.int .i64 (wrap64 (x221002_1 * (wrap64 ((wrap64 ((wrap64 (a0_3 + a0_2)) - a0_1)) - a0_2)))))).heap[gb229]? = some (.cells #[.int .i64 (wrap64 ((wrap64 (x221000_1 * (wrap64 (a0_3 + a0_2)))) + x221002_1)), .int .i64 (wrap64 ((wrap64 (x221001_1 * (wrap64 (a0_3 + a0_2)))) + (wrap64 (a0_3 * x221002_1)))), .int .i64 (wrap64 (x221002_1 * (wrap64 ((wrap64 ((wrap64 (a0_3 + a0_2)) - a0_1)) - a0_2)))), .int .i64 0, .int .i64 (wrap64 (x221004_1 * (wrap64 (a0_3 + a0_2))))] 60 (0, 0))) := ⟨by (with_reducible repeat (first | refine blk_drewN ?_ _ | refine blk_drew ?_ | refine blk_alloc ?_ _)); refine blk_put (cs := #[.int .i64 (wrap64 ((wrap64 (x221000_1 * (wrap64 (a0_3 + a0_2)))) + x221002_1)), .int .i64 (wrap64 ((wrap64 (x221001_1 * (wrap64 (a0_3 + a0_2)))) + (wrap64 (a0_3 * x221002_1)))), .int .i64 0, .int .i64 0, .int .i64 (wrap64 (x221004_1 * (wrap64 (a0_3 + a0_2))))]) ?_ 2 _ rfl; (with_reducible repeat (first | refine blk_drewN ?_ _ | refine blk_drew ?_ | refine blk_alloc ?_ _)); refine blk_put (cs := #[.int .i64 (wrap64 ((wrap64 (x221000_1 * (wrap64 (a0_3 + a0_2)))) + x221002_1)), .int .i64 0, .int .i64 0, .int .i64 0, .int .i64 (wrap64 (x221004_1 * (wrap64 (a0_3 + a0_2))))]) ?_ 1 _ rfl; (with_reducible repeat (first | refine blk_drewN ?_ _ | refine blk_drew ?_ | refine blk_alloc ?_ _)); refine blk_put (cs := #[.int .i64 0, .int .i64 0, .int .i64 0, .int .i64 0, .int .i64 (wrap64 (x221004_1 * (wrap64 (a0_3 + a0_2))))]) ?_ 0 _ rfl; (with_reducible repeat (first | refine blk_drewN ?_ _ | refine blk_drew ?_ | refine blk_alloc ?_ _)); refine blk_put (cs := #[.int .i64 0, .int .i64 0, .int .i64 0, .int .i64 0, .int .i64 0]) ?_ 4 _ rfl; (with_reducible repeat (first | refine blk_drewN ?_ _ | refine blk_drew ?_ | refine blk_alloc ?_ _)); refine blk_put (cs := #[.int .i64 0, .int .i64 0, .int .i64 0, .int .i64 0, .int .i64 0]) ?_ 3 _ rfl; (with_reducible repeat (first | refine blk_drewN ?_ _ | refine blk_drew ?_ | refine blk_alloc ?_ _)); refine blk_put (cs := #[.int .i64 0, .int .i64 0, .int .i64 0, .int .i64 0, .int .i64 0]) ?_ 2 _ rfl; (with_reducible repeat (first | refine blk_drewN ?_ _ | refine blk_drew ?_ | refine blk_alloc ?_ _)); refine blk_put (cs := #[.int .i64 0, .int .i64 0, .int .i64 0, .int .i64 0, .int .i64 0]) ?_ 1 _ rfl; (with_reducible repeat (first | refine blk_drewN ?_ _ | refine blk_drew ?_ | refine blk_alloc ?_ _)); refine blk_put (cs := #[.int .i64 0, .int .i64 0, .int .i64 0, .int .i64 0, .int .i64 0]) ?_ 0 _ rfl; (with_reducible repeat (first | refine blk_drewN ?_ _ | refine blk_drew ?_ | refine blk_alloc ?_ _)); exact BK229.out⟩
      have n4_ : Aside0 (Below w.heap.size w ((((((((w34.setCell ⟨gb229, 0, none⟩ (.int .i64 0)).setCell ⟨gb229, 1, none⟩ (.int .i64 0)).setCell ⟨gb229, 2, none⟩ (.int .i64 0)).setCell ⟨gb229, 3, none⟩ (.int .i64 0)).setCell ⟨gb229, 4, none⟩ (.int .i64 (wrap64 (x221004_1 * (wrap64 (a0_3 + a0_2)))))).setCell ⟨gb229, 0, none⟩ (.int .i64 (wrap64 ((wrap64 (x221000_1 * (wrap64 (a0_3 + a0_2)))) + x221002_1)))).setCell ⟨gb229, 1, none⟩ (.int .i64 (wrap64 ((wrap64 (x221001_1 * (wrap64 (a0_3 + a0_2)))) + (wrap64 (a0_3 * x221002_1)))))).setCell ⟨gb229, 2, none⟩ (.int .i64 (wrap64 (x221002_1 * (wrap64 ((wrap64 ((wrap64 (a0_3 + a0_2)) - a0_1)) - a0_2))))))) := ⟨bw_⟩
      (try clear HO_6)
      (try clear BK219)
      (try clear BK220)
      (try clear BK229)
      (try clear HB)
      generalize ((((((((w34.setCell ⟨gb229, 0, none⟩ (.int .i64 0)).setCell ⟨gb229, 1, none⟩ (.int .i64 0)).setCell ⟨gb229, 2, none⟩ (.int .i64 0)).setCell ⟨gb229, 3, none⟩ (.int .i64 0)).setCell ⟨gb229, 4, none⟩ (.int .i64 (wrap64 (x221004_1 * (wrap64 (a0_3 + a0_2)))))).setCell ⟨gb229, 0, none⟩ (.int .i64 (wrap64 ((wrap64 (x221000_1 * (wrap64 (a0_3 + a0_2)))) + x221002_1)))).setCell ⟨gb229, 1, none⟩ (.int .i64 (wrap64 ((wrap64 (x221001_1 * (wrap64 (a0_3 + a0_2)))) + (wrap64 (a0_3 * x221002_1)))))).setCell ⟨gb229, 2, none⟩ (.int .i64 (wrap64 (x221002_1 * (wrap64 ((wrap64 ((wrap64 (a0_3 + a0_2)) - a0_1)) - a0_2)))))) = w40 at n0_ n1_ n2_ n3_ n4_ ⊢
      have HO_6 := n0_
      have BK219 := n1_
      have BK220 := n2_
      have BK229 := n3_
      have HB := n4_
      clear n0_ n1_ n2_ n3_ n4_
      have n0_ := Aside0.mk (Kd.R_drew HO_6.out)
      have n1_ := Aside0.mk (blk_drew BK219.out)
      have n2_ := Aside0.mk (blk_drew BK220.out)
      have n3_ := Aside0.mk (blk_drew BK229.out)
      have n4_ := Aside0.mk (below_drew1 HB.out)
      clear HO_6
      clear BK219
      clear BK220
      clear BK229
      clear HB
      have HO_6 := n0_
      have BK219 := n1_
      have BK220 := n2_
      have BK229 := n3_
      have HB := n4_
      clear n0_ n1_ n2_ n3_ n4_
      refine start_ (n := 12) (S := fun w' => w'.cell? ⟨gb220, 0, none⟩ = some (.int .i64 x221000_1) ∧ w'.cell? ⟨gb220, 1, none⟩ = some (.int .i64 x221001_1) ∧ w'.cell? ⟨gb220, 2, none⟩ = some (.int .i64 x221002_1) ∧ w'.cell? ⟨gb220, 3, none⟩ = some (.int .i64 x221003_1) ∧ w'.cell? ⟨gb220, 4, none⟩ = some (.int .i64 x221004_1)) (ds := []) #[false, false, false, false, false, false, false, false, false, false, false, false] (by kernel_rfl) rfl rfl ⟨(blk_cell BK220.out 0).trans rfl, (blk_cell BK220.out 1).trans rfl, (blk_cell BK220.out 2).trans rfl, (blk_cell BK220.out 3).trans rfl, (blk_cell BK220.out 4).trans rfl⟩ (fun hHeld => ?_); refine with_tabW spec_doRun.tab15 spec_doRun.bits15 (fun HT_ HW_ => ?_)
      generalize w40.drew = w41 at HO_6 BK219 BK220 BK229 HB hHeld ⊢
      refine pu_ 0 73 12 1 ?_
      refine pu_ 2 75 12 5 ?_
      refine pu_ 4 77 12 21 ?_
      refine pu_ 6 79 12 85 ?_
      refine tk_ 1 74 12 87 hHeld ?_
      refine pu_ 3 76 12 95 ?_
      refine tk_ 7 80 12 223 hHeld ?_
      refine one_ (i := 5) (N := some 78) (pm_ 12 255) rfl rfl (one_of HT_.out (by kernel_rfl)) (by decide) (fun K hK => ?_)
      refine goes_ Tryz.func50 (by kernel_rfl) rfl #[.int .i64 0, .int .i64 a0_3] (by rfl) rfl rfl (by (try simp only [List.map_toArray, List.map_cons, List.map_nil]); first | done | rfl | (simp only [List.length_drop, List.length_take]; rfl)) ?_
      with_reducible refine (spec_l1Most.calls 0 a0_3 t230 _ A29.out).mono ?_
      rintro e w' ⟨rfl, ⟨nd, rfl⟩⟩
      refine ⟨_, rfl, ?_⟩
      refine hK.out _ _ ⟨(blk_cell BK220.out 0).trans rfl, (blk_cell BK220.out 1).trans rfl, (blk_cell BK220.out 2).trans rfl, (blk_cell BK220.out 3).trans rfl, (blk_cell BK220.out 4).trans rfl⟩ (fun hHeld => ?_)
      clear hK K
      refine norm_ (a' := ?_) ?_ ?_
      rotate_left
      ·
       show Act.put _ (some 78) _ = _
       simp only [Act.put, List.setIfInBounds_toArray, List.set_cons_zero, List.set_cons_succ, i64_w, i32_w]
       rfl
      refine pu_ 8 81 12 511 ?_
      refine pu_ 9 82 12 1023 ?_
      refine pu_ 10 83 12 2047 ?_
      refine one_ (i := 11) (N := none) (pm_ 12 4095) rfl rfl (one_of HT_.out (by kernel_rfl)) (by decide) (fun K hK => ?_)
      have hs42 : w41.cell? ⟨gb229, 3, none⟩ = some (.int .i64 0) := (blk_cell BK229.out 3).trans rfl
      have hfs42 := blk_frozen BK229.out 3
      have hns42_0 := NB219_229.out
      have hns42_1 := NB220_229.out
      have hms42_0 := NB229_219.out
      have hms42_1 := NB229_220.out
      refine skip_ (w1 := ?_) (by rfl) rfl ?_ ?_
      rotate_left
      ·
       go_simp
       rfl
      refine hK.out _ _ ⟨((cell_far (p := ⟨gb229, _, none⟩) NB220_229.out _).trans (hHeld.1)), ((cell_far (p := ⟨gb229, _, none⟩) NB220_229.out _).trans (hHeld.2.1)), ((cell_far (p := ⟨gb229, _, none⟩) NB220_229.out _).trans (hHeld.2.2.1)), ((cell_far (p := ⟨gb229, _, none⟩) NB220_229.out _).trans (hHeld.2.2.2.1)), ((cell_far (p := ⟨gb229, _, none⟩) NB220_229.out _).trans (hHeld.2.2.2.2))⟩ (fun hHeld => ?_)
      clear hK K
      refine done_ (done_of HT_.out (by kernel_rfl)) ?_
      have hcz43_0 : w41.cell? ⟨gb229, 0, none⟩ = some (.int .i64 (wrap64 ((wrap64 (x221000_1 * (wrap64 (a0_3 + a0_2)))) + x221002_1))) := (blk_cell BK229.out 0).trans rfl
      have hcz43_1 : w41.cell? ⟨gb229, 1, none⟩ = some (.int .i64 (wrap64 ((wrap64 (x221001_1 * (wrap64 (a0_3 + a0_2)))) + (wrap64 (a0_3 * x221002_1))))) := (blk_cell BK229.out 1).trans rfl
      have hcz43_2 : w41.cell? ⟨gb229, 2, none⟩ = some (.int .i64 (wrap64 (x221002_1 * (wrap64 ((wrap64 ((wrap64 (a0_3 + a0_2)) - a0_1)) - a0_2))))) := (blk_cell BK229.out 2).trans rfl
      have hcz43_3 : w41.cell? ⟨gb229, 3, none⟩ = some (.int .i64 0) := (blk_cell BK229.out 3).trans rfl
      have hcz43_4 : w41.cell? ⟨gb229, 4, none⟩ = some (.int .i64 (wrap64 (x221004_1 * (wrap64 (a0_3 + a0_2))))) := (blk_cell BK229.out 4).trans rfl
      have hfz43_0 := blk_frozen BK229.out 0
      have hfz43_1 := blk_frozen BK229.out 1
      have hfz43_2 := blk_frozen BK229.out 2
      have hfz43_3 := blk_frozen BK229.out 3
      have hfz43_4 := blk_frozen BK229.out 4
      have hcz44_0 : w41.cell? ⟨gb220, 0, none⟩ = some (.int .i64 x221000_1) := (blk_cell BK220.out 0).trans rfl
      have hcz44_1 : w41.cell? ⟨gb220, 1, none⟩ = some (.int .i64 x221001_1) := (blk_cell BK220.out 1).trans rfl
      have hcz44_2 : w41.cell? ⟨gb220, 2, none⟩ = some (.int .i64 x221002_1) := (blk_cell BK220.out 2).trans rfl
      have hcz44_3 : w41.cell? ⟨gb220, 3, none⟩ = some (.int .i64 x221003_1) := (blk_cell BK220.out 3).trans rfl
      have hcz44_4 : w41.cell? ⟨gb220, 4, none⟩ = some (.int .i64 x221004_1) := (blk_cell BK220.out 4).trans rfl
      have hfz44_0 := blk_frozen BK220.out 0
      have hfz44_1 := blk_frozen BK220.out 1
      have hfz44_2 := blk_frozen BK220.out 2
      have hfz44_3 := blk_frozen BK220.out 3
      have hfz44_4 := blk_frozen BK220.out 4
      try go_wp2_with (first | ((with_reducible refine gate_builtin (b := .append) (xs := #[.tmp 85, .tmp 87]) rfl ?_); at_builtin; refine Kd.R_append k60 (w0 := w) w.heap.size rfl (.tmp 85) (.tmp 87) 57 60 (.agg #[(.int .i64 0), (.int .i64 0), (.int .i64 0), (.int .i64 0), (.int .i64 0)]) 40 rfl Tryz.underlying57 info60 rfl (by decide) (by omega) u6 x6_1 (⟨wrap64 ((wrap64 (x221000_1 * (wrap64 (a0_3 + a0_2)))) + x221002_1), wrap64 ((wrap64 (x221001_1 * (wrap64 (a0_3 + a0_2)))) + (wrap64 (a0_3 * x221002_1))), wrap64 (x221002_1 * (wrap64 ((wrap64 ((wrap64 (a0_3 + a0_2)) - a0_1)) - a0_2))), wrap64 ((wrap64 (x221003_1 * (wrap64 (a0_3 + a0_2)))) + (wrap64 (t230 * x221002_1))), wrap64 (x221004_1 * (wrap64 (a0_3 + a0_2)))⟩ : S60) [.int .i64 (wrap64 ((wrap64 (x221000_1 * (wrap64 (a0_3 + a0_2)))) + x221002_1)), .int .i64 (wrap64 ((wrap64 (x221001_1 * (wrap64 (a0_3 + a0_2)))) + (wrap64 (a0_3 * x221002_1)))), .int .i64 (wrap64 (x221002_1 * (wrap64 ((wrap64 ((wrap64 (a0_3 + a0_2)) - a0_1)) - a0_2)))), .int .i64 (wrap64 ((wrap64 (x221003_1 * (wrap64 (a0_3 + a0_2)))) + (wrap64 (t230 * x221002_1)))), .int .i64 (wrap64 (x221004_1 * (wrap64 (a0_3 + a0_2))))] (fun k_ => k_ ≠ gb220 ∧ k_ ≠ gb229) (fun _ => False) rfl (by first | (go_simp; done) | (go_simp; rfl)) ?aP (fun _ hk => hk.elim) ?aF ?aO ?aB ?aS ?aL ?_; (case aP => exact k60_mkM _ _ _ (⟨wrap64 ((wrap64 (x221000_1 * (wrap64 (a0_3 + a0_2)))) + x221002_1), wrap64 ((wrap64 (x221001_1 * (wrap64 (a0_3 + a0_2)))) + (wrap64 (a0_3 * x221002_1))), wrap64 (x221002_1 * (wrap64 ((wrap64 ((wrap64 (a0_3 + a0_2)) - a0_1)) - a0_2))), wrap64 ((wrap64 (x221003_1 * (wrap64 (a0_3 + a0_2)))) + (wrap64 (t230 * x221002_1))), wrap64 (x221004_1 * (wrap64 (a0_3 + a0_2)))⟩ : S60)); (case aB => exact bw_); (case aF => exact (fun k_ hk => ⟨Kd.freshB (g := gb220) (o := .cells #[.int .i64 (wrap64 ((wrap64 (x221000_1 * (wrap64 (a0_3 + a0_2)))) + x221002_1)), .int .i64 (wrap64 ((wrap64 (x221001_1 * (wrap64 (a0_3 + a0_2)))) + (wrap64 (a0_3 * x221002_1)))), .int .i64 (wrap64 (x221002_1 * (wrap64 ((wrap64 ((wrap64 (a0_3 + a0_2)) - a0_1)) - a0_2)))), .int .i64 (wrap64 ((wrap64 (x221003_1 * (wrap64 (a0_3 + a0_2)))) + (wrap64 (t230 * x221002_1)))), .int .i64 (wrap64 (x221004_1 * (wrap64 (a0_3 + a0_2))))] 60 (0, 0)) (by (with_reducible repeat (first | refine blk_drewN ?_ _ | refine blk_drew ?_ | refine blk_alloc ?_ _)); refine blk_put (cs := #[.int .i64 (wrap64 ((wrap64 (x221000_1 * (wrap64 (a0_3 + a0_2)))) + x221002_1)), .int .i64 (wrap64 ((wrap64 (x221001_1 * (wrap64 (a0_3 + a0_2)))) + (wrap64 (a0_3 * x221002_1)))), .int .i64 (wrap64 (x221002_1 * (wrap64 ((wrap64 ((wrap64 (a0_3 + a0_2)) - a0_1)) - a0_2)))), .int .i64 (wrap64 ((wrap64 (x221003_1 * (wrap64 (a0_3 + a0_2)))) + (wrap64 (t230 * x221002_1)))), .int .i64 x221004_1]) ?_ 4 _ rfl; (with_reducible repeat (first | refine blk_drewN ?_ _ | refine blk_drew ?_ | refine blk_alloc ?_ _)); refine blk_put (cs := #[.int .i64 (wrap64 ((wrap64 (x221000_1 * (wrap64 (a0_3 + a0_2)))) + x221002_1)), .int .i64 (wrap64 ((wrap64 (x221001_1 * (wrap64 (a0_3 + a0_2)))) + (wrap64 (a0_3 * x221002_1)))), .int .i64 (wrap64 (x221002_1 * (wrap64 ((wrap64 ((wrap64 (a0_3 + a0_2)) - a0_1)) - a0_2)))), .int .i64 x221003_1, .int .i64 x221004_1]) ?_ 3 _ rfl; (with_reducible repeat (first | refine blk_drewN ?_ _ | refine blk_drew ?_ | refine blk_alloc ?_ _)); refine blk_put (cs := #[.int .i64 (wrap64 ((wrap64 (x221000_1 * (wrap64 (a0_3 + a0_2)))) + x221002_1)), .int .i64 (wrap64 ((wrap64 (x221001_1 * (wrap64 (a0_3 + a0_2)))) + (wrap64 (a0_3 * x221002_1)))), .int .i64 x221002_1, .int .i64 x221003_1, .int .i64 x221004_1]) ?_ 2 _ rfl; (with_reducible repeat (first | refine blk_drewN ?_ _ | refine blk_drew ?_ | refine blk_alloc ?_ _)); refine blk_put (cs := #[.int .i64 (wrap64 ((wrap64 (x221000_1 * (wrap64 (a0_3 + a0_2)))) + x221002_1)), .int .i64 x221001_1, .int .i64 x221002_1, .int .i64 x221003_1, .int .i64 x221004_1]) ?_ 1 _ rfl; (with_reducible repeat (first | refine blk_drewN ?_ _ | refine blk_drew ?_ | refine blk_alloc ?_ _)); refine blk_put (cs := #[.int .i64 x221000_1, .int .i64 x221001_1, .int .i64 x221002_1, .int .i64 x221003_1, .int .i64 x221004_1]) ?_ 0 _ rfl; (with_reducible repeat (first | refine blk_drewN ?_ _ | refine blk_drew ?_ | refine blk_alloc ?_ _)); refine blk_far ?_ NB220_229.out _; (with_reducible repeat (first | refine blk_drewN ?_ _ | refine blk_drew ?_ | refine blk_alloc ?_ _)); exact BK220.out) k_ hk, Kd.freshB (g := gb229) (o := .cells #[.int .i64 (wrap64 ((wrap64 (x221000_1 * (wrap64 (a0_3 + a0_2)))) + x221002_1)), .int .i64 (wrap64 ((wrap64 (x221001_1 * (wrap64 (a0_3 + a0_2)))) + (wrap64 (a0_3 * x221002_1)))), .int .i64 (wrap64 (x221002_1 * (wrap64 ((wrap64 ((wrap64 (a0_3 + a0_2)) - a0_1)) - a0_2)))), .int .i64 (wrap64 ((wrap64 (x221003_1 * (wrap64 (a0_3 + a0_2)))) + (wrap64 (t230 * x221002_1)))), .int .i64 (wrap64 (x221004_1 * (wrap64 (a0_3 + a0_2))))] 60 (0, 0)) (by (with_reducible repeat (first | refine blk_drewN ?_ _ | refine blk_drew ?_ | refine blk_alloc ?_ _)); refine blk_far ?_ NB229_220.out _; (with_reducible repeat (first | refine blk_drewN ?_ _ | refine blk_drew ?_ | refine blk_alloc ?_ _)); refine blk_far ?_ NB229_220.out _; (with_reducible repeat (first | refine blk_drewN ?_ _ | refine blk_drew ?_ | refine blk_alloc ?_ _)); refine blk_far ?_ NB229_220.out _; (with_reducible repeat (first | refine blk_drewN ?_ _ | refine blk_drew ?_ | refine blk_alloc ?_ _)); refine blk_far ?_ NB229_220.out _; (with_reducible repeat (first | refine blk_drewN ?_ _ | refine blk_drew ?_ | refine blk_alloc ?_ _)); refine blk_far ?_ NB229_220.out _; (with_reducible repeat (first | refine blk_drewN ?_ _ | refine blk_drew ?_ | refine blk_alloc ?_ _)); refine blk_put (cs := #[.int .i64 (wrap64 ((wrap64 (x221000_1 * (wrap64 (a0_3 + a0_2)))) + x221002_1)), .int .i64 (wrap64 ((wrap64 (x221001_1 * (wrap64 (a0_3 + a0_2)))) + (wrap64 (a0_3 * x221002_1)))), .int .i64 (wrap64 (x221002_1 * (wrap64 ((wrap64 ((wrap64 (a0_3 + a0_2)) - a0_1)) - a0_2)))), .int .i64 0, .int .i64 (wrap64 (x221004_1 * (wrap64 (a0_3 + a0_2))))]) ?_ 3 _ rfl; (with_reducible repeat (first | refine blk_drewN ?_ _ | refine blk_drew ?_ | refine blk_alloc ?_ _)); exact BK229.out) k_ hk⟩)); (case aO => exact (by (with_reducible repeat (first | apply Kd.R_alloc | apply Kd.R_drewN | apply Kd.R_drew)); exact Kd.R_mono (Kd.R_far (p := ⟨gb220, 4, none⟩) (Kd.R_far (p := ⟨gb220, 3, none⟩) (Kd.R_far (p := ⟨gb220, 2, none⟩) (Kd.R_far (p := ⟨gb220, 1, none⟩) (Kd.R_far (p := ⟨gb220, 0, none⟩) (Kd.R_far (p := ⟨gb229, 3, none⟩) (Kd.R_mono (Kd.R_mono HO_6.out (fun k_ hk => (⟨hk, hk.2⟩ : _ ∧ k_ ≠ gb229))) (fun k_ hk => (⟨hk, hk.1.1⟩ : _ ∧ k_ ≠ gb220))) (fun _ hk => hk.1.2) (.int .i64 (wrap64 ((wrap64 (x221003_1 * (wrap64 (a0_3 + a0_2)))) + (wrap64 (t230 * x221002_1)))))) (fun _ hk => hk.2) (.int .i64 (wrap64 ((wrap64 (x221000_1 * (wrap64 (a0_3 + a0_2)))) + x221002_1)))) (fun _ hk => hk.2) (.int .i64 (wrap64 ((wrap64 (x221001_1 * (wrap64 (a0_3 + a0_2)))) + (wrap64 (a0_3 * x221002_1)))))) (fun _ hk => hk.2) (.int .i64 (wrap64 (x221002_1 * (wrap64 ((wrap64 ((wrap64 (a0_3 + a0_2)) - a0_1)) - a0_2)))))) (fun _ hk => hk.2) (.int .i64 (wrap64 ((wrap64 (x221003_1 * (wrap64 (a0_3 + a0_2)))) + (wrap64 (t230 * x221002_1)))))) (fun _ hk => hk.2) (.int .i64 (wrap64 (x221004_1 * (wrap64 (a0_3 + a0_2)))))) (fun _ hk => ⟨hk.1.1.1, hk.1.1.2⟩))); (case aS => exact (below_size bw_)); (case aL => have := LMc30.out; omega); intro v232 w45 ho hb hg hat; rw [← Ny231.out] at ho; have n0_ := Aside0.mk (blk_grown (g := gb219) (o := .cells #[.int .i64 a0_0, .int .i64 a0_1, .int .i64 a0_2, .int .i64 a0_3] 25 (0, 0)) (by (with_reducible repeat (first | refine blk_drewN ?_ _ | refine blk_drew ?_ | refine blk_alloc ?_ _)); refine blk_far ?_ NB219_220.out _; (with_reducible repeat (first | refine blk_drewN ?_ _ | refine blk_drew ?_ | refine blk_alloc ?_ _)); refine blk_far ?_ NB219_220.out _; (with_reducible repeat (first | refine blk_drewN ?_ _ | refine blk_drew ?_ | refine blk_alloc ?_ _)); refine blk_far ?_ NB219_220.out _; (with_reducible repeat (first | refine blk_drewN ?_ _ | refine blk_drew ?_ | refine blk_alloc ?_ _)); refine blk_far ?_ NB219_220.out _; (with_reducible repeat (first | refine blk_drewN ?_ _ | refine blk_drew ?_ | refine blk_alloc ?_ _)); refine blk_far ?_ NB219_220.out _; (with_reducible repeat (first | refine blk_drewN ?_ _ | refine blk_drew ?_ | refine blk_alloc ?_ _)); refine blk_far ?_ NB219_229.out _; (with_reducible repeat (first | refine blk_drewN ?_ _ | refine blk_drew ?_ | refine blk_alloc ?_ _)); exact BK219.out) hg (Kd.R_ne HO_6.out BK219.out (by decide))); have n1_ := Aside0.mk (blk_grown (g := gb220) (o := .cells #[.int .i64 (wrap64 ((wrap64 (x221000_1 * (wrap64 (a0_3 + a0_2)))) + x221002_1)), .int .i64 (wrap64 ((wrap64 (x221001_1 * (wrap64 (a0_3 + a0_2)))) + (wrap64 (a0_3 * x221002_1)))), .int .i64 (wrap64 (x221002_1 * (wrap64 ((wrap64 ((wrap64 (a0_3 + a0_2)) - a0_1)) - a0_2)))), .int .i64 (wrap64 ((wrap64 (x221003_1 * (wrap64 (a0_3 + a0_2)))) + (wrap64 (t230 * x221002_1)))), .int .i64 (wrap64 (x221004_1 * (wrap64 (a0_3 + a0_2))))] 60 (0, 0)) (by (with_reducible repeat (first | refine blk_drewN ?_ _ | refine blk_drew ?_ | refine blk_alloc ?_ _)); refine blk_put (cs := #[.int .i64 (wrap64 ((wrap64 (x221000_1 * (wrap64 (a0_3 + a0_2)))) + x221002_1)), .int .i64 (wrap64 ((wrap64 (x221001_1 * (wrap64 (a0_3 + a0_2)))) + (wrap64 (a0_3 * x221002_1)))), .int .i64 (wrap64 (x221002_1 * (wrap64 ((wrap64 ((wrap64 (a0_3 + a0_2)) - a0_1)) - a0_2)))), .int .i64 (wrap64 ((wrap64 (x221003_1 * (wrap64 (a0_3 + a0_2)))) + (wrap64 (t230 * x221002_1)))), .int .i64 x221004_1]) ?_ 4 _ rfl; (with_reducible repeat (first | refine blk_drewN ?_ _ | refine blk_drew ?_ | refine blk_alloc ?_ _)); refine blk_put (cs := #[.int .i64 (wrap64 ((wrap64 (x221000_1 * (wrap64 (a0_3 + a0_2)))) + x221002_1)), .int .i64 (wrap64 ((wrap64 (x221001_1 * (wrap64 (a0_3 + a0_2)))) + (wrap64 (a0_3 * x221002_1)))), .int .i64 (wrap64 (x221002_1 * (wrap64 ((wrap64 ((wrap64 (a0_3 + a0_2)) - a0_1)) - a0_2)))), .int .i64 x221003_1, .int .i64 x221004_1]) ?_ 3 _ rfl; (with_reducible repeat (first | refine blk_drewN ?_ _ | refine blk_drew ?_ | refine blk_alloc ?_ _)); refine blk_put (cs := #[.int .i64 (wrap64 ((wrap64 (x221000_1 * (wrap64 (a0_3 + a0_2)))) + x221002_1)), .int .i64 (wrap64 ((wrap64 (x221001_1 * (wrap64 (a0_3 + a0_2)))) + (wrap64 (a0_3 * x221002_1)))), .int .i64 x221002_1, .int .i64 x221003_1, .int .i64 x221004_1]) ?_ 2 _ rfl; (with_reducible repeat (first | refine blk_drewN ?_ _ | refine blk_drew ?_ | refine blk_alloc ?_ _)); refine blk_put (cs := #[.int .i64 (wrap64 ((wrap64 (x221000_1 * (wrap64 (a0_3 + a0_2)))) + x221002_1)), .int .i64 x221001_1, .int .i64 x221002_1, .int .i64 x221003_1, .int .i64 x221004_1]) ?_ 1 _ rfl; (with_reducible repeat (first | refine blk_drewN ?_ _ | refine blk_drew ?_ | refine blk_alloc ?_ _)); refine blk_put (cs := #[.int .i64 x221000_1, .int .i64 x221001_1, .int .i64 x221002_1, .int .i64 x221003_1, .int .i64 x221004_1]) ?_ 0 _ rfl; (with_reducible repeat (first | refine blk_drewN ?_ _ | refine blk_drew ?_ | refine blk_alloc ?_ _)); refine blk_far ?_ NB220_229.out _; (with_reducible repeat (first | refine blk_drewN ?_ _ | refine blk_drew ?_ | refine blk_alloc ?_ _)); exact BK220.out) hg (Kd.R_away HO_6.out (fun _ hk => hk.1))); have n2_ := Aside0.mk (blk_grown (g := gb229) (o := .cells #[.int .i64 (wrap64 ((wrap64 (x221000_1 * (wrap64 (a0_3 + a0_2)))) + x221002_1)), .int .i64 (wrap64 ((wrap64 (x221001_1 * (wrap64 (a0_3 + a0_2)))) + (wrap64 (a0_3 * x221002_1)))), .int .i64 (wrap64 (x221002_1 * (wrap64 ((wrap64 ((wrap64 (a0_3 + a0_2)) - a0_1)) - a0_2)))), .int .i64 (wrap64 ((wrap64 (x221003_1 * (wrap64 (a0_3 + a0_2)))) + (wrap64 (t230 * x221002_1)))), .int .i64 (wrap64 (x221004_1 * (wrap64 (a0_3 + a0_2))))] 60 (0, 0)) (by (with_reducible repeat (first | refine blk_drewN ?_ _ | refine blk_drew ?_ | refine blk_alloc ?_ _)); refine blk_far ?_ NB229_220.out _; (with_reducible repeat (first | refine blk_drewN ?_ _ | refine blk_drew ?_ | refine blk_alloc ?_ _)); refine blk_far ?_ NB229_220.out _; (with_reducible repeat (first | refine blk_drewN ?_ _ | refine blk_drew ?_ | refine blk_alloc ?_ _)); refine blk_far ?_ NB229_220.out _; (with_reducible repeat (first | refine blk_drewN ?_ _ | refine blk_drew ?_ | refine blk_alloc ?_ _)); refine blk_far ?_ NB229_220.out _; (with_reducible repeat (first | refine blk_drewN ?_ _ | refine blk_drew ?_ | refine blk_alloc ?_ _)); refine blk_far ?_ NB229_220.out _; (with_reducible repeat (first | refine blk_drewN ?_ _ | refine blk_drew ?_ | refine blk_alloc ?_ _)); refine blk_put (cs := #[.int .i64 (wrap64 ((wrap64 (x221000_1 * (wrap64 (a0_3 + a0_2)))) + x221002_1)), .int .i64 (wrap64 ((wrap64 (x221001_1 * (wrap64 (a0_3 + a0_2)))) + (wrap64 (a0_3 * x221002_1)))), .int .i64 (wrap64 (x221002_1 * (wrap64 ((wrap64 ((wrap64 (a0_3 + a0_2)) - a0_1)) - a0_2)))), .int .i64 0, .int .i64 (wrap64 (x221004_1 * (wrap64 (a0_3 + a0_2))))]) ?_ 3 _ rfl; (with_reducible repeat (first | refine blk_drewN ?_ _ | refine blk_drew ?_ | refine blk_alloc ?_ _)); exact BK229.out) hg (Kd.R_away HO_6.out (fun _ hk => hk.2))); have n3_ := Aside0.mk (hb); have n4_ := Aside0.mk (ho); clear BK219; clear BK220; clear BK229; clear HB; clear HO_6; have BK219 := n0_; have BK220 := n1_; have BK229 := n2_; have HB := n3_; have HO233 := n4_; clear n0_ n1_ n2_ n3_ n4_; clear ho hb hg hat))
      go_roundg k1
      case measure => have := HK1.out; omega
      case rel => exact ⟨(y231), (wrap64 (x7_1 + 1)), (wrap64 ((wrap64 (x221000_1 * (wrap64 (a0_3 + a0_2)))) + x221002_1)), (wrap64 ((wrap64 (x221001_1 * (wrap64 (a0_3 + a0_2)))) + (wrap64 (a0_3 * x221002_1)))), (wrap64 (x221002_1 * (wrap64 ((wrap64 ((wrap64 (a0_3 + a0_2)) - a0_1)) - a0_2)))), (wrap64 ((wrap64 (x221003_1 * (wrap64 (a0_3 + a0_2)))) + (wrap64 (t230 * x221002_1)))), (wrap64 (x221004_1 * (wrap64 (a0_3 + a0_2)))), (by first | rfl | (simp; done) | (simp [*]; done)), H', ⟨by have := HK1.out; omega⟩, ⟨by (with_reducible repeat (first | apply Kd.R_alloc | apply Kd.R_drewN | apply Kd.R_drew)); exact Kd.R_mono HO233.out (fun _ hk => hk.1)⟩, ⟨bk_⟩, ⟨bk_⟩, ⟨bw_⟩⟩
     ·
      rw [if_neg c30] at H
      exact absurd H (by simp)
   ·
    rw [if_neg c10] at H
    have c10b0 : decide (x7_1 ≤ a1) = false := decide_eq_false c10
    clear c10
    obtain rfl := Option.some.inj H
    go_wp2
    go_ret
    exact ⟨_, by first | rfl | (simp [errW_none, errW_some] <;> rfl) | (simp [*, errW_none, errW_some] <;> rfl), by (with_reducible repeat (first | apply Kd.R_alloc | apply Kd.R_drewN | apply Kd.R_drew)); exact Kd.R_mono HO_6.out (fun _ hk => trivial), by repeat (first | (with_reducible first | exact HB.out | apply below_alloc | apply pw_below_drewN | apply below_drew1 | refine below_set ?_ GE219.out | refine below_set ?_ GE220.out) | exact HB.out)⟩

/-! ### spec_l1Abs: function 51 -/
def spec_l1Abs.f (a0 : Int) : Option (Int) := (spec_l1Most.f a0 (wrap64 (-a0))).bind fun t234 => (some t234)
set_option maxHeartbeats 8000000 in
set_option maxRecDepth 100000 in
theorem spec_l1Abs.calls (a0 : Int) (r : Int) (w : World) (h : spec_l1Abs.f a0 = some r) :
  Calls Tryz.prog 51 #[.int .i64 a0] w fun e w' => e = .returned (.int .i64 r) ∧ Drawn0 w w' := by
 have H : ((spec_l1Most.f a0 (wrap64 (-a0))).bind fun t234 => (some t234)) = some r := h
 clear h
 replace H := Option.bind_eq_some_iff.mp H
 obtain ⟨t234, A20, H⟩ := H
 replace H : (some t234) = some r := H
 have A2 := Aside0.mk A20
 clear A20
 obtain rfl := Option.some.inj H
 go_enter Tryz.func51, Tryz.ntmps51
 go_wp2_with (first | ((with_reducible refine gate_callee (f := 50) rfl ?_); refine goesL_ (some 6) rfl rfl Tryz.func50 (by kernel_rfl) rfl #[.int .i64 a0, .int .i64 (wrap64 (-a0))] rfl (by (try simp only [List.map_toArray, List.map_cons, List.map_nil]); first | done | rfl | (simp only [List.length_drop, List.length_take]; rfl)) ?_; (with_reducible refine (spec_l1Most.calls a0 (wrap64 (-a0)) t234 _ A2.out).mono ?_); rintro e w' ⟨rfl, ⟨nd, rfl⟩⟩; refine ⟨_, rfl, ?_⟩))
 go_ret
 exact ⟨by first | rfl | (simp; done) | (simp [*]; done), by repeat (first | exact Drawn0.refl _ | apply Drawn0.step)⟩

/-! ### spec_meLow: function 38 -/
mutual
def spec_meLow.j0 : Nat → Int → Int → Option (Int × Int)
  | 0, _, _ => none
  | k + 1, x0, x1 => (spec_l1Abs.f x0).bind fun t235 => (spec_meLow.l0 k x0 x1 t235 x1)
def spec_meLow.l0 : Nat → Int → Int → Int → Int → Option (Int × Int)
  | 0, _, _, _, _ => none
  | k + 1, x0, x1, x6, x7 => if x7 > 0 then (if x7 = 0 then (none) else (spec_meLow.l0 k x0 x1 x7 (Int.tmod x6 x7))) else (if x6 = 0 then (none) else (some (wrap64 (Int.tdiv x0 x6), wrap64 (Int.tdiv x1 x6))))
end
def spec_meLow.f (k : Nat) (a0 : Int) (a1 : Int) : Option (Int × Int) := if a1 < 0 then (spec_meLow.j0 k (wrap64 (-a0)) (wrap64 (-a1))) else (spec_meLow.j0 k a0 a1)


set_option maxHeartbeats 8000000 in
set_option maxRecDepth 100000 in
theorem spec_meLow.calls (k : Nat) (a0 : Int) (a1 : Int) (r1 : Int) (r2 : Int) (w : World) (h : spec_meLow.f k a0 a1 = some (r1, r2)) :
  Calls Tryz.prog 38 #[.int .i64 a0, .int .i64 a1] w fun e w' => e = .returned (.tuple #[.int .i64 r1, .int .i64 r2]) ∧ Drawn0 w w' := by
 have H : (if a1 < 0 then (spec_meLow.j0 k (wrap64 (-a0)) (wrap64 (-a1))) else (spec_meLow.j0 k a0 a1)) = some (r1, r2) := h
 clear h
 have HC3 := Aside0.mk H
 clear H
 go_enter Tryz.func38, Tryz.ntmps38
 go_upto_if 9 with (fail)
 repeat (go_quiet (fail); go_upto_if 9 with (fail))
 go_cut [0, 1] (fun v0 v1 wc => ∃ (kq : Nat) (x0_2 : Int) (x1_2 : Int), v0 = .int .i64 x0_2 ∧ v1 = .int .i64 x1_2 ∧ Aside0 (spec_meLow.j0 kq x0_2 x1_2 = some (r1, r2)) ∧ Aside0 (kq ≤ k) ∧ Drawn0 w wc)
 case first =>
  have H := HC3.out
  clear HC3
  by_cases c4 : a1 < 0
  ·
   rw [if_pos c4] at H
   have c4b0 : decide (a1 < 0) = true := decide_eq_true c4
   clear c4
   (first | rw [c4b0] | (simp only [i64_w, i32_w]; rw [c4b0]) | skip)
   have H' := Aside0.mk H
   clear H
   go_wp2
   repeat (go_quiet (fail); try go_wp2)
   go_meet
   case rel => exact ⟨_, (wrap64 (-a0)), (wrap64 (-a1)), (by first | rfl | (simp; done) | (simp [*]; done)), (by first | rfl | (simp; done) | (simp [*]; done)), H', ⟨by first | omega | exact Nat.le_refl _⟩, by repeat (first | exact Drawn0.refl _ | apply Drawn0.step)⟩
  ·
   rw [if_neg c4] at H
   have c4b0 : decide (a1 < 0) = false := decide_eq_false c4
   clear c4
   (first | rw [c4b0] | (simp only [i64_w, i32_w]; rw [c4b0]) | skip)
   have H' := Aside0.mk H
   clear H
   go_wp2
   repeat (go_quiet (fail); try go_wp2)
   go_meet
   case rel => exact ⟨_, (a0), (a1), (by first | rfl | (simp; done) | (simp [*]; done)), (by first | rfl | (simp; done) | (simp [*]; done)), H', ⟨by first | omega | exact Nat.le_refl _⟩, by repeat (first | exact Drawn0.refl _ | apply Drawn0.step)⟩
 case rest =>
  clear HC3
  try clear p2
  try clear c3
  try clear c4
  try clear c4b0
  obtain ⟨kq, x0_2, x1_2, rfl, rfl, HA, HJ2, ⟨mc2, rfl⟩⟩ := hcut
  cases kq with
    | zero => exact absurd HA.out (by simp [spec_meLow.j0])
    | succ kj2 =>
   have H := HA.out
   clear HA
   simp only [spec_meLow.j0] at H
   replace H := Option.bind_eq_some_iff.mp H
   obtain ⟨t235, A50, H⟩ := H
   (try dsimp only at H)
   have A5 := Aside0.mk A50
   clear A50
   have H' := Aside0.mk H
   clear H
   go_wp2_with (first | (go_at_call 51; (with_reducible refine (spec_l1Abs.calls x0_2 t235 _ A5.out).mono ?_); rintro e w' ⟨rfl, ⟨nd, rfl⟩⟩; (try first | exact ⟨rfl, _, World.drewN_drewN _ _ _⟩ | exact ⟨rfl, _, Eq.trans (World.drewN_drewN _ _ _) (congrArg (World.drewN _) (Nat.add_assoc _ _ _))⟩)))
   repeat (go_quiet (first | (go_at_call 51; (with_reducible refine (spec_l1Abs.calls x0_2 t235 _ A5.out).mono ?_); rintro e w' ⟨rfl, ⟨nd, rfl⟩⟩; (try first | exact ⟨rfl, _, World.drewN_drewN _ _ _⟩ | exact ⟨rfl, _, Eq.trans (World.drewN_drewN _ _ _) (congrArg (World.drewN _) (Nat.add_assoc _ _ _))⟩))); try go_wp2_with (first | (go_at_call 51; (with_reducible refine (spec_l1Abs.calls x0_2 t235 _ A5.out).mono ?_); rintro e w' ⟨rfl, ⟨nd, rfl⟩⟩; (try first | exact ⟨rfl, _, World.drewN_drewN _ _ _⟩ | exact ⟨rfl, _, Eq.trans (World.drewN_drewN _ _ _) (congrArg (World.drewN _) (Nat.add_assoc _ _ _))⟩))))
   go_loopg [6, 7] kj2 (fun kq v6 v7 w' => ∃ (x6_2 : Int) (x7_2 : Int), v6 = .int .i64 x6_2 ∧ v7 = .int .i64 x7_2 ∧ Aside0 (spec_meLow.l0 kq x0_2 x1_2 x6_2 x7_2 = some (r1, r2)) ∧ Aside0 (kq ≤ kj2) ∧ Drawn0 w w')
   case atStart => exact ⟨(t235), (x1_2), (by first | rfl | (simp; done) | (simp [*]; done)), (by first | rfl | (simp; done) | (simp [*]; done)), H', ⟨Nat.le_refl _⟩, by repeat (first | exact Drawn0.refl _ | apply Drawn0.step)⟩
   case round =>
    clear H'
    try clear c2
    try clear p2
    try clear c3
    try clear c4
    try clear c4b0
    try clear p2
    obtain ⟨x6_2, x7_2, rfl, rfl, HA, HK2, ⟨m2, rfl⟩⟩ := hrel
    cases gk with
        | zero => exact absurd HA.out (by simp [spec_meLow.l0])
        | succ k2 =>
     have H := HA.out
     clear HA
     simp only [spec_meLow.l0] at H
     by_cases c6 : x7_2 > 0
     ·
      rw [if_pos c6] at H
      have c6b0 : decide (0 < x7_2) = true := decide_eq_true c6
      clear c6
      by_cases c7 : x7_2 = 0
      ·
       rw [if_pos c7] at H
       exact absurd H (by simp)
      ·
       rw [if_neg c7] at H
       have c7b0 : (x7_2 == 0) = false := beq_eq_false_iff_ne.mpr c7
       have c7b1 : (x7_2 != 0) = true := bne_iff_ne.mpr c7
       have H' := Aside0.mk H
       clear H
       go_wp2
       repeat (go_quiet (fail); try go_wp2)
       go_roundg k2
       case measure => have := HJ2.out; have := HK2.out; omega
       case rel => exact ⟨(x7_2), (Int.tmod x6_2 x7_2), (by first | rfl | (simp; done) | (simp [*]; done)), (by first | rfl | (simp; done) | (simp [*]; done)), H', ⟨by have := HJ2.out; have := HK2.out; omega⟩, by repeat (first | exact Drawn0.refl _ | apply Drawn0.step)⟩
     ·
      rw [if_neg c6] at H
      have c6b0 : decide (0 < x7_2) = false := decide_eq_false c6
      clear c6
      by_cases c8 : x6_2 = 0
      ·
       rw [if_pos c8] at H
       exact absurd H (by simp)
      ·
       rw [if_neg c8] at H
       have c8b0 : (x6_2 == 0) = false := beq_eq_false_iff_ne.mpr c8
       have c8b1 : (x6_2 != 0) = true := bne_iff_ne.mpr c8
       simp only [Option.some.injEq, Prod.mk.injEq] at H
       obtain ⟨rfl, rfl⟩ := H
       go_wp2
       repeat (go_quiet (fail); try go_wp2)
       go_ret2
       exact ⟨by first | rfl | (simp; done) | (simp [*]; done), by repeat (first | exact Drawn0.refl _ | apply Drawn0.step)⟩


/-! ### spec_DogTurns: function 7 -/
/-- the rows of the turns from one on -/
def spec_DogTurns.l (k : Nat) (T : List S60) : Nat → Int → List (List Int) → Option (List (List Int))
  | 0, _, acc => some acc
  | d + 1, x, acc => (spec_meLow.f k (rd_T60 T x).f0 (rd_T60 T x).f4).bind fun p => (spec_meLow.f k (rd_T60 T x).f1 (rd_T60 T x).f4).bind fun q => spec_DogTurns.l k T d (x + 1) (acc ++ [[p.1, p.2, q.1, q.2]])
def spec_DogTurns.f (k : Nat) (a0_0 : Int) (a0_1 : Int) (a0_2 : Int) (a0_3 : Int) (a1 : Int) : Option (List (List Int) × Bool) := (spec_doGood.f a0_0 a0_1 a0_2 a0_3).bind fun g => if g = true then (spec_l1In.f a1 1 6).bind fun t => (if t = true then (spec_doRun.f k a0_0 a0_1 a0_2 a0_3 a1).bind fun T => (if 2 ≤ T.length ∧ T.length ≤ 1000 then (spec_DogTurns.l k (T.drop 1) (T.drop 1).length 0 []).bind fun o => some (o, true) else none) else some ([], false)) else some ([], false)


set_option maxHeartbeats 8000000 in
set_option maxRecDepth 100000 in
theorem spec_DogTurns.calls (k : Nat) (a0_0 : Int) (a0_1 : Int) (a0_2 : Int) (a0_3 : Int) (a1 : Int) (r1 : List (List Int)) (r2 : Bool) (w : World) (h : spec_DogTurns.f k a0_0 a0_1 a0_2 a0_3 a1 = some (r1, r2)) :
  Calls Tryz.prog 7 #[.agg #[.int .i64 a0_0, .int .i64 a0_1, .int .i64 a0_2, .int .i64 a0_3], .int .i64 a1] w fun e w' => ∃ v0_ : Value, e = .returned (.tuple #[v0_, .bool r2]) ∧ Kd.S (Kd.slice 3 (Kd.int .i64)) 36 w' w.heap.size (fun _ => True) v0_ r1 ∧ Below w.heap.size w w' := by
 have hu26 := Tryz.underlying25
 have hu41 := Tryz.underlying60
 unfold spec_DogTurns.f at h
 obtain ⟨g, A1, H⟩ := Option.bind_eq_some_iff.mp h
 clear h
 have HA1 := Aside0.mk A1
 clear A1
 cases g with
  | false =>
  simp only [Bool.false_eq_true, if_false, Option.some.injEq, Prod.mk.injEq] at H
  obtain ⟨rfl, rfl⟩ := H
  go_enter Tryz.func7, Tryz.ntmps7
  go_wp2_with (go_at_call 35; refine (spec_doGood.calls a0_0 a0_1 a0_2 a0_3 false _ HA1.out).mono ?_; rintro e w1 ⟨rfl, hb⟩)
  go_ret2
  exact ⟨_, rfl, Kd.S_nil _ _ _ _ _, below_step (below_alloc (Below.refl _ _) _) hb⟩
  | true =>
  rw [if_pos rfl] at H
  obtain ⟨t, A2, H⟩ := Option.bind_eq_some_iff.mp H
  have HA2 := Aside0.mk A2
  clear A2
  cases t with
    | false =>
   simp only [Bool.false_eq_true, if_false, Option.some.injEq, Prod.mk.injEq] at H
   obtain ⟨rfl, rfl⟩ := H
   go_enter Tryz.func7, Tryz.ntmps7
   go_wp2_with (first | (go_at_call 35; refine (spec_doGood.calls a0_0 a0_1 a0_2 a0_3 true _ HA1.out).mono ?_; rintro e w1 ⟨rfl, hb⟩) | (go_at_call 36; refine (spec_l1In.calls a1 1 6 false _ HA2.out).mono ?_; rintro e w2 ⟨rfl, ⟨nd, rfl⟩⟩))
   go_ret2
   exact ⟨_, rfl, Kd.S_nil _ _ _ _ _, pw_below_drewN (below_step (below_alloc (Below.refl _ _) _) hb) _⟩
    | true =>
   rw [if_pos rfl] at H
   obtain ⟨t, A3, H⟩ := Option.bind_eq_some_iff.mp H
   have HA := Aside0.mk A3
   clear A3
   by_cases hl : 2 ≤ t.length ∧ t.length ≤ 1000
   case neg => rw [if_neg hl] at H; cases H
   rw [if_pos hl] at H
   obtain ⟨o, H2, e⟩ := Option.bind_eq_some_iff.mp H
   clear H
   simp only [Option.some.injEq, Prod.mk.injEq] at e
   obtain ⟨rfl, rfl⟩ := e
   obtain ⟨t0, T, rfl⟩ : ∃ t0 T, t = t0 :: T := by
    cases t with
        | nil => simp at hl
        | cons t0 T => exact ⟨t0, T, rfl⟩
   have HR := Aside0.mk (show spec_DogTurns.l k T T.length 0 [] = some o from H2)
   clear H2
   simp only [List.length_cons] at hl
   have HT := Aside0.mk hl.2
   go_enter Tryz.func7, Tryz.ntmps7
   go_upto_block 0 with (first | (go_at_call 35; refine (spec_doGood.calls a0_0 a0_1 a0_2 a0_3 true _ HA1.out).mono ?_; rintro e w1 ⟨rfl, hb⟩; have HB1 := Aside0.mk (below_step (below_alloc (Below.refl _ _) _) hb); have HE := Aside0.mk hb; have hq0 := (hb.cell (World.block_lt_of_cell? _ _ (show (w.alloc (.cells #[.int .i64 a0_0, .int .i64 a0_1, .int .i64 a0_2, .int .i64 a0_3] 25)).cell? ⟨w.heap.size, 0, none⟩ = some (.int .i64 a0_0) from by simp))).trans (show (w.alloc (.cells #[.int .i64 a0_0, .int .i64 a0_1, .int .i64 a0_2, .int .i64 a0_3] 25)).cell? ⟨w.heap.size, 0, none⟩ = some (.int .i64 a0_0) from by simp); have hq1 := (hb.cell (World.block_lt_of_cell? _ _ (show (w.alloc (.cells #[.int .i64 a0_0, .int .i64 a0_1, .int .i64 a0_2, .int .i64 a0_3] 25)).cell? ⟨w.heap.size, 1, none⟩ = some (.int .i64 a0_1) from by simp))).trans (show (w.alloc (.cells #[.int .i64 a0_0, .int .i64 a0_1, .int .i64 a0_2, .int .i64 a0_3] 25)).cell? ⟨w.heap.size, 1, none⟩ = some (.int .i64 a0_1) from by simp); have hq2 := (hb.cell (World.block_lt_of_cell? _ _ (show (w.alloc (.cells #[.int .i64 a0_0, .int .i64 a0_1, .int .i64 a0_2, .int .i64 a0_3] 25)).cell? ⟨w.heap.size, 2, none⟩ = some (.int .i64 a0_2) from by simp))).trans (show (w.alloc (.cells #[.int .i64 a0_0, .int .i64 a0_1, .int .i64 a0_2, .int .i64 a0_3] 25)).cell? ⟨w.heap.size, 2, none⟩ = some (.int .i64 a0_2) from by simp); have hq3 := (hb.cell (World.block_lt_of_cell? _ _ (show (w.alloc (.cells #[.int .i64 a0_0, .int .i64 a0_1, .int .i64 a0_2, .int .i64 a0_3] 25)).cell? ⟨w.heap.size, 3, none⟩ = some (.int .i64 a0_3) from by simp))).trans (show (w.alloc (.cells #[.int .i64 a0_0, .int .i64 a0_1, .int .i64 a0_2, .int .i64 a0_3] 25)).cell? ⟨w.heap.size, 3, none⟩ = some (.int .i64 a0_3) from by simp); clear hb) | (go_at_call 36; refine (spec_l1In.calls a1 1 6 true _ HA2.out).mono ?_; rintro e w2 ⟨rfl, ⟨nd, rfl⟩⟩) | (go_at_call 37; refine (spec_doRun.calls k a0_0 a0_1 a0_2 a0_3 a1 (t0 :: T) _ HA.out).mono ?_; rintro e w3 ⟨v0, rfl, hR, hb⟩; obtain ⟨A0, c0, rfl, hc0, hC⟩ := Kd.R_reads hR; obtain ⟨ad, rfl, hcells⟩ := hC.2.2 (Nat.succ_pos _); clear hcells; replace hc0 : T.length + 1 ≤ c0 := hc0; have c0lt : 1 < c0 := Nat.lt_of_lt_of_le (by omega) hc0; have HB3 := Aside0.mk (below_step (pw_below_drewN HB1.out _) hb); have HC1 := Aside0.mk hC; clear hR hb hC))
   have HB0 := HB3
   have HC := Aside0.mk (show Kd.C k60 w3 (some ⟨ad.block, ad.off + 5, none⟩) T.length T from by
    have z := Kd.C_drop (m := 1) (c := c0) (show Kd.C k60 w3 (some ad) (t0 :: T).length (t0 :: T) from HC1.out) (by simp) (by simpa using hc0)
    rw [if_neg (by omega)] at z
    exact z)
   clear HC1 HA HB1 HE HB3 hq0 hq1 hq2 hq3 hc0 c0lt HA1 HA2
   go_wp2
   go_loopg [6, 26] T.length (fun gg v6 v26 wr => ∃ (x : Int) (acc : List (List Int)), v26 = .int .i64 x ∧ Aside0 (0 ≤ x) ∧ Aside0 (x + gg = T.length) ∧ Aside0 (acc.length ≤ x.toNat) ∧ Aside0 (spec_DogTurns.l k T gg x acc = some o) ∧ Aside0 (Kd.S (Kd.slice 3 (Kd.int .i64)) 36 wr w3.heap.size (fun _ => True) v6 acc) ∧ Aside0 (Below w3.heap.size w3 wr))
   case atStart => exact ⟨0, [], rfl, ⟨Int.le_refl 0⟩, ⟨by omega⟩, ⟨Nat.le_refl 0⟩, HR, ⟨Kd.S_nil _ _ _ _ _⟩, ⟨Below.refl _ _⟩⟩
   case round =>
    obtain ⟨x, acc, rfl, HX, HG, HL, HN, HO, HB⟩ := hrel
    cases gk with
        | zero =>
     have c5b0 : decide (x < (T.length : Int)) = false := decide_eq_false (by have := HG.out; omega)
     go_wp2
     go_ret2
     have e : acc = o := Option.some.inj HN.out
     subst e
     exact ⟨_, rfl, Kd.S_lower HO.out HB0.out.size, below_step HB0.out HB.out⟩
        | succ d =>
     have c5 : x < (T.length : Int) := by have := HG.out; omega
     have c5b0 : decide (x < (T.length : Int)) = true := decide_eq_true c5
     have c6b0 : decide (0 ≤ x) = true := decide_eq_true HX.out
     obtain ⟨ad1, e1, hx0, hx1, hx2, hx3, hx4⟩ := at_T60 HC.out x HX.out c5
     cases e1
     have ea : (⟨ad.block, ad.off + 5, none⟩ : Addr).add (x.toNat * 5) = ⟨ad.block, ad.off + 5 + x.toNat * 5, none⟩ := by
      unfold Addr.add
      split
      ·
       rename_i h
       rw [h]
      ·
       rfl
     rw [ea] at hx0 hx1 hx2 hx3 hx4
     clear ea
     have p1 : (0 ≤ x) = True := eq_true HX.out
     have q1 : (x < (T.length : Int)) = True := eq_true c5
     clear c5
     replace hx0 : wr.cell? ⟨ad.block, ad.off + 5 + x.toNat * 5, none⟩ = some (.int .i64 (rd_T60 T x).f0) := (HB.out.cell (World.block_lt_of_cell? w3 _ hx0)).trans hx0
     replace hx1 : wr.cell? ⟨ad.block, ad.off + 5 + x.toNat * 5 + 1, none⟩ = some (.int .i64 (rd_T60 T x).f1) := (HB.out.cell (World.block_lt_of_cell? w3 _ hx1)).trans hx1
     replace hx2 : wr.cell? ⟨ad.block, ad.off + 5 + x.toNat * 5 + 2, none⟩ = some (.int .i64 (rd_T60 T x).f2) := (HB.out.cell (World.block_lt_of_cell? w3 _ hx2)).trans hx2
     replace hx3 : wr.cell? ⟨ad.block, ad.off + 5 + x.toNat * 5 + 3, none⟩ = some (.int .i64 (rd_T60 T x).f3) := (HB.out.cell (World.block_lt_of_cell? w3 _ hx3)).trans hx3
     replace hx4 : wr.cell? ⟨ad.block, ad.off + 5 + x.toNat * 5 + 4, none⟩ = some (.int .i64 (rd_T60 T x).f4) := (HB.out.cell (World.block_lt_of_cell? w3 _ hx4)).trans hx4
     have E1 := Aside0.mk (show wrap64 (x + 1) = x + 1 from by have h1 := HG.out; have h2 := HX.out; have h3 := HT.out; unfold wrap64; omega)
     obtain ⟨⟨a, b⟩, F1, HN2⟩ := Option.bind_eq_some_iff.mp (show (spec_meLow.f k (rd_T60 T x).f0 (rd_T60 T x).f4).bind _ = some o from HN.out)
     obtain ⟨⟨p, q⟩, F2, HN3⟩ := Option.bind_eq_some_iff.mp HN2
     have G1 := Aside0.mk F1
     have G2 := Aside0.mk F2
     have HN4 := Aside0.mk (show spec_DogTurns.l k T d (x + 1) (acc ++ [[a, b, p, q]]) = some o from HN3)
     clear F1 F2 HN2 HN3 HN
     generalize rd_T60 T x = y at *
     go_wp2_with (first
            | (go_at_call 38; (with_reducible refine (spec_meLow.calls k y.f0 y.f4 a b _ G1.out).mono ?_); rintro e w4 ⟨rfl, ⟨nd4, rfl⟩⟩)
            | (go_at_call 38; (with_reducible refine (spec_meLow.calls k y.f1 y.f4 p q _ G2.out).mono ?_); rintro e w5 ⟨rfl, ⟨nd5, rfl⟩⟩)
            | ((with_reducible refine gate_dst (N := 51) rfl ?_); refine Kd.R_lit (Kd.int .i64) _ 3 ?hg (N := 51) ?hd (xs := ([a, b, p, q] : List Int)) (inner := [.int .i64 a, .int .i64 b, .int .i64 p, .int .i64 q]) (ok := fun _ => True) (okp := fun _ => True) ?hr ?hp (fun _ hk => hk) trivial (Below.refl _ _) (Nat.le_refl _) (by simp) ?_; (case hd => rfl); (case hg => rfl); (case hr => first | (go_simp; done) | (go_simp; rfl)); (case hp => exact (Reps.one (show Kd.M (Kd.int .i64) _ _ _ a [.int .i64 a] from rfl) (Reps.one (show Kd.M (Kd.int .i64) _ _ _ b [.int .i64 b] from rfl) (Reps.one (show Kd.M (Kd.int .i64) _ _ _ p [.int .i64 p] from rfl) (Reps.one (show Kd.M (Kd.int .i64) _ _ _ q [.int .i64 q] from rfl) (Reps.none _ _)))))); intro v7 w7 ho7 hb7 hg_ hnew_; clear hg_ hnew_; have HB7 := Aside0.mk (below_step (below_step HB.out (w2 := _) (by repeat (first | exact Below.refl _ _ | apply below_alloc | apply pw_below_drewN | apply below_drew1 | refine below_set ?_ (Nat.le_refl _)))) hb7); have HS7 := Aside0.mk (Kd.S_elder' (Kd.S_below HO.out (by repeat (first | exact Below.refl _ _ | apply below_alloc | apply pw_below_drewN | apply below_drew1 | refine below_set ?_ (Nat.le_refl _)))) (Kd.R_base ho7) hb7); have HR7 := Aside0.mk (Kd.R_tight rfl (Kd.R_lower ho7 (below_size (below_step HB.out (by repeat (first | exact Below.refl _ _ | apply below_alloc | apply pw_below_drewN | apply below_drew1 | refine below_set ?_ (Nat.le_refl _))))))); obtain ⟨A7, c7, e7⟩ := Kd.R_slice ho7; subst e7; clear ho7 hb7)
            | ((with_reducible refine gate_builtin (b := .append) (xs := #[.tmp 46, .tmp 52]) rfl ?_); at_builtin; refine Kd.S_append (Kd.slice 3 (Kd.int .i64)) (w0 := w3) w3.heap.size rfl (.tmp 46) (.tmp 52) 28 36 (.slice none 0 0) 24 rfl Tryz.underlying28 info36 rfl (by decide) (by decide) u6 acc [a, b, p, q] [.slice A7 4 c7] (fun _ => True) (fun k_ => some k_ = (Value.slice A7 4 c7).ownBlock) rfl (by first | (go_simp; done) | (go_simp; rfl)) ?aP ?aQ (fun _ _ => trivial) ?aO ?aB ?aS ?aL ?_; (case aP => exact ⟨_, rfl, HR7.out⟩); (case aQ => exact fun k_ hk => ⟨trivial, fun he => ((Kd.S_R HS7.out).1 k_ he.symm).2 hk⟩); (case aO => exact HS7.out); (case aB => exact HB7.out); (case aS => exact HB7.out.size); (case aL => have h1 := HL.out; have h2 := HG.out; have h3 := HT.out; omega); intro v8 w8 hs8 hb8 hg_ hat_; have HS8 := Aside0.mk hs8; have HB8 := Aside0.mk hb8; clear hg_ hat_ hs8 hb8 HS7 HB7 HR7))
     go_roundg d
     case measure => omega
     case rel => exact ⟨x + 1, acc ++ [[a, b, p, q]], (by first | rfl | rw [E1.out] | (simp [E1.out]; done)), ⟨by have := HX.out; omega⟩, ⟨by have := HG.out; omega⟩, ⟨by have := HL.out; have := HX.out; rw [List.length_append]; simp only [List.length_cons, List.length_nil]; omega⟩, HN4, ⟨by (with_reducible repeat (first | apply Kd.S_alloc | apply Kd.S_drewN | apply Kd.S_drew)); exact HS8.out⟩, ⟨by repeat (first | (with_reducible first | exact HB8.out | apply below_alloc | apply pw_below_drewN | apply below_drew1) | exact HB8.out)⟩⟩

end Go.Proofs.YtajlcomankjcjabGreatDoor.PFnDogsTurn
