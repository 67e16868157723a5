-- Laid by a program of this session's (wip/gen/printp.sh): the functions that the law reaches, each with its walk.
import Derived.Test.YtgobnhoblofglaaPFnExactDogTurnsx0
import Derived.Test.YtgobnhoblofglaaPFnExactDogTurnsx1
import Derived.Test.YtgobnhoblofglaaPFnExactDogTurnsx2
namespace Go.Proofs.Ytgobnhoblofglaa.PFnExactDogTurns
open Go.RowKit Go.Proofs.YtgobnhoblofglaaW.PrintWords Go.Proofs.YtgobnhoblofglaaW.PrintLast Go.Proofs.YtgobnhoblofglaaW.PrintMore
attribute [local go_sem] max2_int min2_int max_two min_two max_three min_three max_four min_four   -- for this text's walks alone
set_option linter.unusedVariables false
set_option linter.unusedSimpArgs false

/-! ### spec_doRun: function 47 -/
def spec_doRun.l0 : Nat → Int → List (S70) → Int → Int → Int → Int → Int → Int → Int → Int → Int → Int → Option ((List (S70)))
  | 0, _, _, _, _, _, _, _, _, _, _, _, _ => none
  | k + 1, x1, x6, x7, x108000, x108001, x108002, x108003, x109000, x109001, x109002, x109003, x109004 => if x7 ≤ x1 then (if (Int.tmod x7 2) = 0 then ((spec_l1Most.f 0 (wrap64 (-x108003))).bind fun t113 => (if x6.length < 3518437208883 then (spec_doRun.l0 k x1 (x6 ++ [(⟨wrap64 ((wrap64 (x109000 * (wrap64 (x108003 + x108001)))) + x109002), wrap64 ((wrap64 (x109001 * (wrap64 (x108003 + x108001)))) + (wrap64 ((wrap64 (-x108003)) * x109002))), wrap64 (x109002 * (wrap64 ((wrap64 ((wrap64 (x108003 + x108001)) - x108001)) - x108002))), wrap64 ((wrap64 (x109003 * (wrap64 (x108003 + x108001)))) + (wrap64 (t113 * x109002))), wrap64 (x109004 * (wrap64 (x108003 + x108001)))⟩ : S70)]) (wrap64 (x7 + 1)) x108000 x108001 x108002 x108003 (wrap64 ((wrap64 (x109000 * (wrap64 (x108003 + x108001)))) + x109002)) (wrap64 ((wrap64 (x109001 * (wrap64 (x108003 + x108001)))) + (wrap64 ((wrap64 (-x108003)) * x109002)))) (wrap64 (x109002 * (wrap64 ((wrap64 ((wrap64 (x108003 + x108001)) - x108001)) - x108002)))) (wrap64 ((wrap64 (x109003 * (wrap64 (x108003 + x108001)))) + (wrap64 (t113 * x109002)))) (wrap64 (x109004 * (wrap64 (x108003 + x108001))))) else (none))) else ((spec_l1Most.f 0 x108003).bind fun t118 => (if x6.length < 3518437208883 then (spec_doRun.l0 k x1 (x6 ++ [(⟨wrap64 ((wrap64 (x109000 * (wrap64 (x108003 + x108002)))) + x109002), wrap64 ((wrap64 (x109001 * (wrap64 (x108003 + x108002)))) + (wrap64 (x108003 * x109002))), wrap64 (x109002 * (wrap64 ((wrap64 ((wrap64 (x108003 + x108002)) - x108001)) - x108002))), wrap64 ((wrap64 (x109003 * (wrap64 (x108003 + x108002)))) + (wrap64 (t118 * x109002))), wrap64 (x109004 * (wrap64 (x108003 + x108002)))⟩ : S70)]) (wrap64 (x7 + 1)) x108000 x108001 x108002 x108003 (wrap64 ((wrap64 (x109000 * (wrap64 (x108003 + x108002)))) + x109002)) (wrap64 ((wrap64 (x109001 * (wrap64 (x108003 + x108002)))) + (wrap64 (x108003 * x109002)))) (wrap64 (x109002 * (wrap64 ((wrap64 ((wrap64 (x108003 + x108002)) - x108001)) - x108002)))) (wrap64 ((wrap64 (x109003 * (wrap64 (x108003 + x108002)))) + (wrap64 (t118 * x109002)))) (wrap64 (x109004 * (wrap64 (x108003 + x108002))))) else (none)))) else (some x6)
def spec_doRun.f (k : Nat) (a0_0 : Int) (a0_1 : Int) (a0_2 : Int) (a0_3 : Int) (a1 : Int) : Option ((List (S70))) := spec_doRun.l0 k a1 (([(⟨0, 0, a0_0, 0, 1⟩ : S70)] : List (S70))) 1 a0_0 a0_1 a0_2 a0_3 0 0 a0_0 0 1
theorem spec_doRun.mono_l : ∀ k, (∀ y0 y1 y2 y3 y4 y5 y6 y7 y8 y9 y10 y11, LeO (spec_doRun.l0 k y0 y1 y2 y3 y4 y5 y6 y7 y8 y9 y10 y11) (spec_doRun.l0 (k + 1) y0 y1 y2 y3 y4 y5 y6 y7 y8 y9 y10 y11))
  | 0 => fun _ _ _ _ _ _ _ _ _ _ _ _ r h => by simp [spec_doRun.l0] at h
  | k + 1 => by
    have ih0 := spec_doRun.mono_l k
    · intro y0 y1 y2 y3 y4 y5 y6 y7 y8 y9 y10 y11
      unfold spec_doRun.l0
      repeat' first
      | (with_reducible exact ih0 _ _ _ _ _ _ _ _ _ _ _ _)
      | (with_reducible exact LeO.refl _)
      | (with_reducible exact LeO.none _)
      | (with_reducible refine LeO.ite ?_ ?_)
      | (with_reducible refine LeO.bind ?_ (fun _ => ?_))
      | exact ih0 _ _ _ _ _ _ _ _ _ _ _ _
      | exact LeO.none _
      | refine LeO.ite ?_ ?_
      | refine LeO.bind ?_ (fun _ => ?_)
theorem spec_doRun.mono : ∀ a0 a1 a2 a3 a4 k, LeO (spec_doRun.f k a0 a1 a2 a3 a4) (spec_doRun.f (k + 1) a0 a1 a2 a3 a4) := by
  intro a0 a1 a2 a3 a4 k
  have ih0 := spec_doRun.mono_l k
  unfold spec_doRun.f
  repeat' first
      | (with_reducible exact ih0 _ _ _ _ _ _ _ _ _ _ _ _)
      | (with_reducible exact LeO.refl _)
      | (with_reducible exact LeO.none _)
      | (with_reducible refine LeO.ite ?_ ?_)
      | (with_reducible refine LeO.bind ?_ (fun _ => ?_))
      | exact ih0 _ _ _ _ _ _ _ _ _ _ _ _
      | exact LeO.none _
      | refine LeO.ite ?_ ?_
      | refine LeO.bind ?_ (fun _ => ?_)
def spec_doRun.T15 : Bool × List (List Nat × List Nat) := (true, [([], []), ([0], [0]), ([], []), ([1, 2], [1, 2]), ([], []), ([4], [4]), ([], []), ([6], [6]), ([5, 7], [5, 7]), ([3, 8], [3, 8]), ([0, 1, 2, 3, 4, 5, 6, 7, 8, 9], []), ([10, 9, 5, 0, 1, 2, 3, 4, 5, 6, 7, 8, 9], [9, 10])])
def spec_doRun.B15 : List Nat := [0, 1, 0, 7, 0, 16, 0, 64, 240, 511, 1023, 2047]
theorem spec_doRun.tab15 : rtab .any (opsOf Try.f47 15) = spec_doRun.T15 := by kernel_rfl
theorem spec_doRun.bits15 : waitsOk spec_doRun.T15.2 spec_doRun.B15 = true := by kernel_rfl
set_option maxHeartbeats 8000000 in
set_option maxRecDepth 100000 in
theorem spec_doRun.calls (k : Nat) (a0_0 : Int) (a0_1 : Int) (a0_2 : Int) (a0_3 : Int) (a1 : Int) (r : List (S70)) (w : World) (h : spec_doRun.f k a0_0 a0_1 a0_2 a0_3 a1 = some r) :
    Calls Try.prog 47 #[.agg #[.int .i64 a0_0, .int .i64 a0_1, .int .i64 a0_2, .int .i64 a0_3], .int .i64 a1] w fun e w' => ∃ v0_ : Value, e = .returned (v0_) ∧ Kd.R k70 70 w' w.heap.size (fun _ => True) v0_ r ∧ Below w.heap.size w w' := by
  have hu27 := Try.underlying27
  have hu70 := Try.underlying70
  have HB := Aside0.mk (Below.refl w.heap.size w)
  have H : (spec_doRun.l0 k a1 (([(⟨0, 0, a0_0, 0, 1⟩ : S70)] : List (S70))) 1 a0_0 a0_1 a0_2 a0_3 0 0 a0_0 0 1) = some r := h
  clear h
  obtain ⟨y109, hy109⟩ : ∃ y_ : List (S70), y_ = (([(⟨0, 0, a0_0, 0, 1⟩ : S70)] : List (S70))) := ⟨_, rfl⟩
  replace H : (spec_doRun.l0 k a1 y109 1 a0_0 a0_1 a0_2 a0_3 0 0 a0_0 0 1) = some r := by first | (rw [hy109]; with_reducible exact H) | (have H2_ := (Option.bind_some _ _).symm.trans H; rw [hy109]; with_reducible exact H2_) | (have H2_ := (Option.bind_some _ _).symm.trans H; with_reducible exact H2_) | with_reducible exact H | (rw [hy109]; exact H) | exact H
  have Ny109 := Aside0.mk hy109
  clear hy109
  have H' := Aside0.mk H
  clear H
  go_enter Try.func47, Try.ntmps47
  go_wp2_with (first | ((with_reducible refine gate_dst (N := 2) rfl ?_); refine box_event ?hg (N := 2) ?hd (cs := #[.int .i64 a0_0, .int .i64 a0_1, .int .i64 a0_2, .int .i64 a0_3]) (t := 27) ?hr ?_; (case hd => rfl); (case hg => rfl); (case hr => first | (go_simp; done) | (go_simp; rfl)); intro gb107 hg w3 hbox hb; have n0_ := Aside0.mk (below_step (by repeat (first | (with_reducible first | exact HB.out | apply below_alloc | apply pw_below_drewN | apply below_drew1) | exact HB.out)) hb); have n1_ := Aside0.mk (hbox); have n2_ := Aside0.mk ((by rw [hg]; exact (below_size (by repeat (first | (with_reducible first | exact HB.out | apply below_alloc | apply pw_below_drewN | apply below_drew1) | exact HB.out))) : w.heap.size ≤ gb107)); have n3_ := Aside0.mk ((by rw [hg]; exact (below_size (by repeat (first | (with_reducible first | exact HB.out | apply below_alloc | apply pw_below_drewN | apply below_drew1) | exact HB.out))) : w.heap.size ≤ gb107)); clear HB; have HB := n0_; have BK107 := n1_; have GW107 := n2_; have GE107 := n3_; clear n0_ n1_ n2_ n3_; clear hb hbox hg; have hcz4_0 : w3.cell? ⟨gb107, 0, none⟩ = some (.int .i64 a0_0) := (blk_cell BK107.out 0).trans rfl; have hcz4_1 : w3.cell? ⟨gb107, 1, none⟩ = some (.int .i64 a0_1) := (blk_cell BK107.out 1).trans rfl; have hcz4_2 : w3.cell? ⟨gb107, 2, none⟩ = some (.int .i64 a0_2) := (blk_cell BK107.out 2).trans rfl; have hcz4_3 : w3.cell? ⟨gb107, 3, none⟩ = some (.int .i64 a0_3) := (blk_cell BK107.out 3).trans rfl; have hfz4_0 := blk_frozen BK107.out 0; have hfz4_1 := blk_frozen BK107.out 1; have hfz4_2 := blk_frozen BK107.out 2; have hfz4_3 := blk_frozen BK107.out 3) | ((with_reducible refine gate_dst (N := 5) rfl ?_); refine box_event ?hg (N := 5) ?hd (cs := #[.int .i64 0, .int .i64 0, .int .i64 0, .int .i64 0, .int .i64 0]) (t := 70) ?hr ?_; (case hd => rfl); (case hg => rfl); (case hr => first | (go_simp; done) | (go_simp; rfl)); intro gb108 hg w5 hbox hb; have n0_ := Aside0.mk (blk_below (g := gb107) (o := .cells #[.int .i64 a0_0, .int .i64 a0_1, .int .i64 a0_2, .int .i64 a0_3] 27 (0, 0)) (by (with_reducible repeat (first | refine blk_drewN ?_ _ | refine blk_drew ?_ | refine blk_alloc ?_ _)); exact BK107.out) hb); have n1_ := Aside0.mk (below_step (by repeat (first | (with_reducible first | exact HB.out | apply below_alloc | apply pw_below_drewN | apply below_drew1 | refine below_set ?_ GE107.out) | exact HB.out)) hb); have n2_ := Aside0.mk (hbox); have n3_ := Aside0.mk ((by rw [hg]; exact (below_size (by repeat (first | (with_reducible first | exact HB.out | apply below_alloc | apply pw_below_drewN | apply below_drew1 | refine below_set ?_ GE107.out) | exact HB.out))) : w.heap.size ≤ gb108)); have n4_ := Aside0.mk ((by rw [hg]; exact (below_size (by repeat (first | (with_reducible first | exact HB.out | apply below_alloc | apply pw_below_drewN | apply below_drew1 | refine below_set ?_ GE107.out) | exact HB.out))) : w.heap.size ≤ gb108)); have n5_ := Aside0.mk ((by rw [hg]; exact Nat.ne_of_lt (blk_lt (g := gb107) (o := .cells #[.int .i64 a0_0, .int .i64 a0_1, .int .i64 a0_2, .int .i64 a0_3] 27 (0, 0)) (by (with_reducible repeat (first | refine blk_drewN ?_ _ | refine blk_drew ?_ | refine blk_alloc ?_ _)); exact BK107.out)) : gb107 ≠ gb108)); have n6_ := Aside0.mk ((by rw [hg]; exact Nat.ne_of_gt (blk_lt (g := gb107) (o := .cells #[.int .i64 a0_0, .int .i64 a0_1, .int .i64 a0_2, .int .i64 a0_3] 27 (0, 0)) (by (with_reducible repeat (first | refine blk_drewN ?_ _ | refine blk_drew ?_ | refine blk_alloc ?_ _)); exact BK107.out)) : gb108 ≠ gb107)); clear BK107; clear HB; have BK107 := n0_; have HB := n1_; have BK108 := n2_; have GW108 := n3_; have GE108 := n4_; have NB107_108 := n5_; have NB108_107 := n6_; clear n0_ n1_ n2_ n3_ n4_ n5_ n6_; clear hb hbox hg; have hnb6 := NB108_107.out; have hnc6 := NB107_108.out; have hcz7_0 : w5.cell? ⟨gb108, 0, none⟩ = some (.int .i64 0) := (blk_cell BK108.out 0).trans rfl; have hcz7_1 : w5.cell? ⟨gb108, 1, none⟩ = some (.int .i64 0) := (blk_cell BK108.out 1).trans rfl; have hcz7_2 : w5.cell? ⟨gb108, 2, none⟩ = some (.int .i64 0) := (blk_cell BK108.out 2).trans rfl; have hcz7_3 : w5.cell? ⟨gb108, 3, none⟩ = some (.int .i64 0) := (blk_cell BK108.out 3).trans rfl; have hcz7_4 : w5.cell? ⟨gb108, 4, none⟩ = some (.int .i64 0) := (blk_cell BK108.out 4).trans rfl; have hfz7_0 := blk_frozen BK108.out 0; have hfz7_1 := blk_frozen BK108.out 1; have hfz7_2 := blk_frozen BK108.out 2; have hfz7_3 := blk_frozen BK108.out 3; have hfz7_4 := blk_frozen BK108.out 4) | ((with_reducible refine gate_dst (N := 15) rfl ?_); refine Kd.R_lit k70 _ 70 ?hg (N := 15) ?hd (xs := ([(⟨0, 0, a0_0, 0, 1⟩ : S70)] : List (S70))) (inner := [.int .i64 0, .int .i64 0, .int .i64 a0_0, .int .i64 0, .int .i64 1]) (ok := fun _ => True) (okp := fun _ => True) ?hr ?hp (fun _ hk => hk) trivial (Below.refl _ _) (Nat.le_refl _) (by simp) ?_; (case hd => rfl); (case hg => rfl); (case hr => first | (go_simp; done) | (go_simp; rfl)); (case hp => exact (Reps.c5 (show Kd.M k70 _ _ _ (⟨0, 0, a0_0, 0, 1⟩ : S70) [.int .i64 0, .int .i64 0, .int .i64 a0_0, .int .i64 0, .int .i64 1] from (k70_mkM _ _ _ (⟨0, 0, a0_0, 0, 1⟩ : S70) )) (Reps.none _ _))); intro v110 w8 ho9 hb hg_ hnew_; clear hg_ hnew_; (first | rw [← Ny109.out] at ho9 | (simp only [Int.reduceToNat] at ho9; rw [← Ny109.out] at ho9)); have n0_ := Aside0.mk (Kd.R_lower (Kd.R_newB ho9 (g := gb108) (o := .cells #[.int .i64 0, .int .i64 0, .int .i64 a0_0, .int .i64 0, .int .i64 1] 70 (0, 0)) (by (with_reducible repeat (first | refine blk_drewN ?_ _ | refine blk_drew ?_ | refine blk_alloc ?_ _)); refine blk_put (cs := #[.int .i64 0, .int .i64 0, .int .i64 a0_0, .int .i64 0, .int .i64 0]) ?_ 4 _ rfl; (with_reducible repeat (first | refine blk_drewN ?_ _ | refine blk_drew ?_ | refine blk_alloc ?_ _)); refine blk_put (cs := #[.int .i64 0, .int .i64 0, .int .i64 a0_0, .int .i64 0, .int .i64 0]) ?_ 3 _ rfl; (with_reducible repeat (first | refine blk_drewN ?_ _ | refine blk_drew ?_ | refine blk_alloc ?_ _)); refine blk_put (cs := #[.int .i64 0, .int .i64 0, .int .i64 0, .int .i64 0, .int .i64 0]) ?_ 2 _ rfl; (with_reducible repeat (first | refine blk_drewN ?_ _ | refine blk_drew ?_ | refine blk_alloc ?_ _)); refine blk_put (cs := #[.int .i64 0, .int .i64 0, .int .i64 0, .int .i64 0, .int .i64 0]) ?_ 1 _ rfl; (with_reducible repeat (first | refine blk_drewN ?_ _ | refine blk_drew ?_ | refine blk_alloc ?_ _)); refine blk_put (cs := #[.int .i64 0, .int .i64 0, .int .i64 0, .int .i64 0, .int .i64 0]) ?_ 0 _ rfl; (with_reducible repeat (first | refine blk_drewN ?_ _ | refine blk_drew ?_ | refine blk_alloc ?_ _)); exact BK108.out)) (below_size (by repeat (first | (with_reducible first | exact HB.out | apply below_alloc | apply pw_below_drewN | apply below_drew1 | refine below_set ?_ GE107.out | refine below_set ?_ GE108.out) | exact HB.out)))); have n1_ := Aside0.mk (blk_below (g := gb107) (o := .cells #[.int .i64 a0_0, .int .i64 a0_1, .int .i64 a0_2, .int .i64 a0_3] 27 (0, 0)) (by (with_reducible repeat (first | refine blk_drewN ?_ _ | refine blk_drew ?_ | refine blk_alloc ?_ _)); refine blk_far ?_ NB107_108.out _; (with_reducible repeat (first | refine blk_drewN ?_ _ | refine blk_drew ?_ | refine blk_alloc ?_ _)); refine blk_far ?_ NB107_108.out _; (with_reducible repeat (first | refine blk_drewN ?_ _ | refine blk_drew ?_ | refine blk_alloc ?_ _)); refine blk_far ?_ NB107_108.out _; (with_reducible repeat (first | refine blk_drewN ?_ _ | refine blk_drew ?_ | refine blk_alloc ?_ _)); refine blk_far ?_ NB107_108.out _; (with_reducible repeat (first | refine blk_drewN ?_ _ | refine blk_drew ?_ | refine blk_alloc ?_ _)); refine blk_far ?_ NB107_108.out _; (with_reducible repeat (first | refine blk_drewN ?_ _ | refine blk_drew ?_ | refine blk_alloc ?_ _)); exact BK107.out) hb); have n2_ := Aside0.mk (blk_below (g := gb108) (o := .cells #[.int .i64 0, .int .i64 0, .int .i64 a0_0, .int .i64 0, .int .i64 1] 70 (0, 0)) (by (with_reducible repeat (first | refine blk_drewN ?_ _ | refine blk_drew ?_ | refine blk_alloc ?_ _)); refine blk_put (cs := #[.int .i64 0, .int .i64 0, .int .i64 a0_0, .int .i64 0, .int .i64 0]) ?_ 4 _ rfl; (with_reducible repeat (first | refine blk_drewN ?_ _ | refine blk_drew ?_ | refine blk_alloc ?_ _)); refine blk_put (cs := #[.int .i64 0, .int .i64 0, .int .i64 a0_0, .int .i64 0, .int .i64 0]) ?_ 3 _ rfl; (with_reducible repeat (first | refine blk_drewN ?_ _ | refine blk_drew ?_ | refine blk_alloc ?_ _)); refine blk_put (cs := #[.int .i64 0, .int .i64 0, .int .i64 0, .int .i64 0, .int .i64 0]) ?_ 2 _ rfl; (with_reducible repeat (first | refine blk_drewN ?_ _ | refine blk_drew ?_ | refine blk_alloc ?_ _)); refine blk_put (cs := #[.int .i64 0, .int .i64 0, .int .i64 0, .int .i64 0, .int .i64 0]) ?_ 1 _ rfl; (with_reducible repeat (first | refine blk_drewN ?_ _ | refine blk_drew ?_ | refine blk_alloc ?_ _)); refine blk_put (cs := #[.int .i64 0, .int .i64 0, .int .i64 0, .int .i64 0, .int .i64 0]) ?_ 0 _ rfl; (with_reducible repeat (first | refine blk_drewN ?_ _ | refine blk_drew ?_ | refine blk_alloc ?_ _)); exact BK108.out) hb); have n3_ := Aside0.mk (below_step (by repeat (first | (with_reducible first | exact HB.out | apply below_alloc | apply pw_below_drewN | apply below_drew1 | refine below_set ?_ GE107.out | refine below_set ?_ GE108.out) | exact HB.out)) hb); clear BK107; clear BK108; clear HB; have HO111 := n0_; have BK107 := n1_; have BK108 := n2_; have HB := n3_; clear n0_ n1_ n2_ n3_; clear hb ho9))
  go_loopg [6, 7] k (fun kq v6 v7 w' => ∃ (x6_1 : List (S70)) (x7_1 : Int) (x109000_1 : Int) (x109001_1 : Int) (x109002_1 : Int) (x109003_1 : Int) (x109004_1 : Int), v7 = .int .i64 x7_1 ∧ Aside0 (spec_doRun.l0 kq a1 x6_1 x7_1 a0_0 a0_1 a0_2 a0_3 x109000_1 x109001_1 x109002_1 x109003_1 x109004_1 = some r) ∧ Aside0 (kq ≤ k) ∧ Aside0 (Kd.R k70 70 w' w.heap.size (fun k_ => k_ ≠ gb108) v6 x6_1) ∧ Aside0 (w'.heap[gb107]? = some (.cells #[.int .i64 a0_0, .int .i64 a0_1, .int .i64 a0_2, .int .i64 a0_3] 27 (0, 0))) ∧ Aside0 (w'.heap[gb108]? = some (.cells #[.int .i64 x109000_1, .int .i64 x109001_1, .int .i64 x109002_1, .int .i64 x109003_1, .int .i64 x109004_1] 70 (0, 0))) ∧ Aside0 (Below w.heap.size w w'))
  case atStart => exact ⟨(y109), (1), (0), (0), (a0_0), (0), (1), (by first | rfl | (simp; done) | (simp [*]; done)), H', ⟨Nat.le_refl _⟩, ⟨by (with_reducible repeat (first | apply Kd.R_alloc | apply Kd.R_drewN | apply Kd.R_drew)); exact Kd.R_mono HO111.out (fun _ hk => hk.2)⟩, ⟨by (with_reducible repeat (first | refine blk_drewN ?_ _ | refine blk_drew ?_ | refine blk_alloc ?_ _)); exact BK107.out⟩, ⟨by (with_reducible repeat (first | refine blk_drewN ?_ _ | refine blk_drew ?_ | refine blk_alloc ?_ _)); exact BK108.out⟩, ⟨by repeat (first | (with_reducible first | exact HB.out | apply below_alloc | apply pw_below_drewN | apply below_drew1 | refine below_set ?_ GE107.out | refine below_set ?_ GE108.out) | exact HB.out)⟩⟩
  case round =>
    clear H'
    try clear p2
    try clear c4
    try clear c5
    try clear c6
    try clear hcz4_0
    try clear hcz4_1
    try clear hcz4_2
    try clear hcz4_3
    try clear hcz7_0
    try clear hcz7_1
    try clear hcz7_2
    try clear hcz7_3
    try clear hcz7_4
    try clear hfz4_0
    try clear hfz4_1
    try clear hfz4_2
    try clear hfz4_3
    try clear hfz7_0
    try clear hfz7_1
    try clear hfz7_2
    try clear hfz7_3
    try clear hfz7_4
    obtain ⟨x6_1, x7_1, x109000_1, x109001_1, x109002_1, x109003_1, x109004_1, rfl, HA, HK1, HO_6, BK107, BK108, HB⟩ := hrel
    cases gk with
    | zero => exact absurd HA.out (by simp [spec_doRun.l0])
    | succ k1 =>
      have H := HA.out
      clear HA
      simp only [spec_doRun.l0] at H
      by_cases c10 : x7_1 ≤ a1
      · rw [if_pos c10] at H
        have c10b0 : decide (x7_1 ≤ a1) = true := decide_eq_true c10
        clear c10
        by_cases c11 : (Int.tmod x7_1 2) = 0
        · rw [if_pos c11] at H
          have c11b0 : ((Int.tmod x7_1 2) == 0) = true := beq_iff_eq.mpr c11
          have c11b1 : ((Int.tmod x7_1 2) != 0) = false := bne_eq_false_iff_eq.mpr c11
          clear c11
          replace H := Option.bind_eq_some_iff.mp H
          obtain ⟨t113, A120, H⟩ := H
          replace H : (if x6_1.length < 3518437208883 then (spec_doRun.l0 k1 a1 (x6_1 ++ [(⟨wrap64 ((wrap64 (x109000_1 * (wrap64 (a0_3 + a0_1)))) + x109002_1), wrap64 ((wrap64 (x109001_1 * (wrap64 (a0_3 + a0_1)))) + (wrap64 ((wrap64 (-a0_3)) * x109002_1))), wrap64 (x109002_1 * (wrap64 ((wrap64 ((wrap64 (a0_3 + a0_1)) - a0_1)) - a0_2))), wrap64 ((wrap64 (x109003_1 * (wrap64 (a0_3 + a0_1)))) + (wrap64 (t113 * x109002_1))), wrap64 (x109004_1 * (wrap64 (a0_3 + a0_1)))⟩ : S70)]) (wrap64 (x7_1 + 1)) a0_0 a0_1 a0_2 a0_3 (wrap64 ((wrap64 (x109000_1 * (wrap64 (a0_3 + a0_1)))) + x109002_1)) (wrap64 ((wrap64 (x109001_1 * (wrap64 (a0_3 + a0_1)))) + (wrap64 ((wrap64 (-a0_3)) * x109002_1)))) (wrap64 (x109002_1 * (wrap64 ((wrap64 ((wrap64 (a0_3 + a0_1)) - a0_1)) - a0_2)))) (wrap64 ((wrap64 (x109003_1 * (wrap64 (a0_3 + a0_1)))) + (wrap64 (t113 * x109002_1)))) (wrap64 (x109004_1 * (wrap64 (a0_3 + a0_1))))) else (none)) = some r := H
          have A12 := Aside0.mk A120
          clear A120
          by_cases c13 : x6_1.length < 3518437208883
          · rw [if_pos c13] at H
            have LMc13 := Aside0.mk c13
            clear c13
            obtain ⟨y114, hy114⟩ : ∃ y_ : List (S70), y_ = (x6_1 ++ [(⟨wrap64 ((wrap64 (x109000_1 * (wrap64 (a0_3 + a0_1)))) + x109002_1), wrap64 ((wrap64 (x109001_1 * (wrap64 (a0_3 + a0_1)))) + (wrap64 ((wrap64 (-a0_3)) * x109002_1))), wrap64 (x109002_1 * (wrap64 ((wrap64 ((wrap64 (a0_3 + a0_1)) - a0_1)) - a0_2))), wrap64 ((wrap64 (x109003_1 * (wrap64 (a0_3 + a0_1)))) + (wrap64 (t113 * x109002_1))), wrap64 (x109004_1 * (wrap64 (a0_3 + a0_1)))⟩ : S70)]) := ⟨_, rfl⟩
            replace H : (spec_doRun.l0 k1 a1 y114 (wrap64 (x7_1 + 1)) a0_0 a0_1 a0_2 a0_3 (wrap64 ((wrap64 (x109000_1 * (wrap64 (a0_3 + a0_1)))) + x109002_1)) (wrap64 ((wrap64 (x109001_1 * (wrap64 (a0_3 + a0_1)))) + (wrap64 ((wrap64 (-a0_3)) * x109002_1)))) (wrap64 (x109002_1 * (wrap64 ((wrap64 ((wrap64 (a0_3 + a0_1)) - a0_1)) - a0_2)))) (wrap64 ((wrap64 (x109003_1 * (wrap64 (a0_3 + a0_1)))) + (wrap64 (t113 * x109002_1)))) (wrap64 (x109004_1 * (wrap64 (a0_3 + a0_1))))) = some r := by first | (rw [hy114]; with_reducible exact H) | (have H2_ := (Option.bind_some _ _).symm.trans H; rw [hy114]; with_reducible exact H2_) | (have H2_ := (Option.bind_some _ _).symm.trans H; with_reducible exact H2_) | with_reducible exact H | (rw [hy114]; exact H) | exact H
            have Ny114 := Aside0.mk hy114
            clear hy114
            have H' := Aside0.mk H
            clear H
            have hnb14 := NB107_108.out
            have hnc14 := NB108_107.out
            have hcz15_0 : wr.cell? ⟨gb107, 0, none⟩ = some (.int .i64 a0_0) := (blk_cell BK107.out 0).trans rfl
            have hcz15_1 : wr.cell? ⟨gb107, 1, none⟩ = some (.int .i64 a0_1) := (blk_cell BK107.out 1).trans rfl
            have hcz15_2 : wr.cell? ⟨gb107, 2, none⟩ = some (.int .i64 a0_2) := (blk_cell BK107.out 2).trans rfl
            have hcz15_3 : wr.cell? ⟨gb107, 3, none⟩ = some (.int .i64 a0_3) := (blk_cell BK107.out 3).trans rfl
            have hfz15_0 := blk_frozen BK107.out 0
            have hfz15_1 := blk_frozen BK107.out 1
            have hfz15_2 := blk_frozen BK107.out 2
            have hfz15_3 := blk_frozen BK107.out 3
            have hcz16_0 : wr.cell? ⟨gb108, 0, none⟩ = some (.int .i64 x109000_1) := (blk_cell BK108.out 0).trans rfl
            have hcz16_1 : wr.cell? ⟨gb108, 1, none⟩ = some (.int .i64 x109001_1) := (blk_cell BK108.out 1).trans rfl
            have hcz16_2 : wr.cell? ⟨gb108, 2, none⟩ = some (.int .i64 x109002_1) := (blk_cell BK108.out 2).trans rfl
            have hcz16_3 : wr.cell? ⟨gb108, 3, none⟩ = some (.int .i64 x109003_1) := (blk_cell BK108.out 3).trans rfl
            have hcz16_4 : wr.cell? ⟨gb108, 4, none⟩ = some (.int .i64 x109004_1) := (blk_cell BK108.out 4).trans rfl
            have hfz16_0 := blk_frozen BK108.out 0
            have hfz16_1 := blk_frozen BK108.out 1
            have hfz16_2 := blk_frozen BK108.out 2
            have hfz16_3 := blk_frozen BK108.out 3
            have hfz16_4 := blk_frozen BK108.out 4
            try go_wp2_with (first | ((with_reducible refine gate_dst (N := 10) rfl ?_); refine box_event ?hg (N := 10) ?hd (cs := #[.int .i64 0, .int .i64 0, .int .i64 0, .int .i64 0, .int .i64 0]) (t := 70) ?hr ?_; (case hd => rfl); (case hg => rfl); (case hr => first | (go_simp; done) | (go_simp; rfl)); intro gb112 hg w17 hbox hb; have n0_ := Aside0.mk (Kd.R_below (Kd.R_elderB (by (with_reducible repeat (first | apply Kd.R_alloc | apply Kd.R_drewN | apply Kd.R_drew)); exact HO_6.out) gb112 (Nat.le_of_eq hg.symm)) hb); have n1_ := Aside0.mk (blk_below (g := gb107) (o := .cells #[.int .i64 a0_0, .int .i64 a0_1, .int .i64 a0_2, .int .i64 a0_3] 27 (0, 0)) (by (with_reducible repeat (first | refine blk_drewN ?_ _ | refine blk_drew ?_ | refine blk_alloc ?_ _)); exact BK107.out) hb); have n2_ := Aside0.mk (blk_below (g := gb108) (o := .cells #[.int .i64 x109000_1, .int .i64 x109001_1, .int .i64 x109002_1, .int .i64 x109003_1, .int .i64 x109004_1] 70 (0, 0)) (by (with_reducible repeat (first | refine blk_drewN ?_ _ | refine blk_drew ?_ | refine blk_alloc ?_ _)); exact BK108.out) hb); have n3_ := Aside0.mk (below_step (by repeat (first | (with_reducible first | exact HB.out | apply below_alloc | apply pw_below_drewN | apply below_drew1 | refine below_set ?_ GE107.out | refine below_set ?_ GE108.out) | exact HB.out)) hb); have n4_ := Aside0.mk (hbox); have n5_ := Aside0.mk ((by rw [hg]; exact (below_size (by repeat (first | (with_reducible first | exact HB.out | apply below_alloc | apply pw_below_drewN | apply below_drew1 | refine below_set ?_ GE107.out | refine below_set ?_ GE108.out) | exact HB.out))) : w.heap.size ≤ gb112)); have n6_ := Aside0.mk ((by rw [hg]; exact (below_size (by repeat (first | (with_reducible first | exact HB.out | apply below_alloc | apply pw_below_drewN | apply below_drew1 | refine below_set ?_ GE107.out | refine below_set ?_ GE108.out) | exact HB.out))) : w.heap.size ≤ gb112)); have n7_ := Aside0.mk ((by rw [hg]; exact Nat.ne_of_lt (blk_lt (g := gb107) (o := .cells #[.int .i64 a0_0, .int .i64 a0_1, .int .i64 a0_2, .int .i64 a0_3] 27 (0, 0)) (by (with_reducible repeat (first | refine blk_drewN ?_ _ | refine blk_drew ?_ | refine blk_alloc ?_ _)); exact BK107.out)) : gb107 ≠ gb112)); have n8_ := Aside0.mk ((by rw [hg]; exact Nat.ne_of_gt (blk_lt (g := gb107) (o := .cells #[.int .i64 a0_0, .int .i64 a0_1, .int .i64 a0_2, .int .i64 a0_3] 27 (0, 0)) (by (with_reducible repeat (first | refine blk_drewN ?_ _ | refine blk_drew ?_ | refine blk_alloc ?_ _)); exact BK107.out)) : gb112 ≠ gb107)); have n9_ := Aside0.mk ((by rw [hg]; exact Nat.ne_of_lt (blk_lt (g := gb108) (o := .cells #[.int .i64 x109000_1, .int .i64 x109001_1, .int .i64 x109002_1, .int .i64 x109003_1, .int .i64 x109004_1] 70 (0, 0)) (by (with_reducible repeat (first | refine blk_drewN ?_ _ | refine blk_drew ?_ | refine blk_alloc ?_ _)); exact BK108.out)) : gb108 ≠ gb112)); have n10_ := Aside0.mk ((by rw [hg]; exact Nat.ne_of_gt (blk_lt (g := gb108) (o := .cells #[.int .i64 x109000_1, .int .i64 x109001_1, .int .i64 x109002_1, .int .i64 x109003_1, .int .i64 x109004_1] 70 (0, 0)) (by (with_reducible repeat (first | refine blk_drewN ?_ _ | refine blk_drew ?_ | refine blk_alloc ?_ _)); exact BK108.out)) : gb112 ≠ gb108)); clear HO_6; clear BK107; clear BK108; clear HB; have HO_6 := n0_; have BK107 := n1_; have BK108 := n2_; have HB := n3_; have BK112 := n4_; have GW112 := n5_; have GE112 := n6_; have NB107_112 := n7_; have NB112_107 := n8_; have NB108_112 := n9_; have NB112_108 := n10_; clear n0_ n1_ n2_ n3_ n4_ n5_ n6_ n7_ n8_ n9_ n10_; clear hb hbox hg; have hnb18 := NB112_107.out; have hnc18 := NB107_112.out; have hnb19 := NB112_108.out; have hnc19 := NB108_112.out; have hcz20_0 : w17.cell? ⟨gb112, 0, none⟩ = some (.int .i64 0) := (blk_cell BK112.out 0).trans rfl; have hcz20_1 : w17.cell? ⟨gb112, 1, none⟩ = some (.int .i64 0) := (blk_cell BK112.out 1).trans rfl; have hcz20_2 : w17.cell? ⟨gb112, 2, none⟩ = some (.int .i64 0) := (blk_cell BK112.out 2).trans rfl; have hcz20_3 : w17.cell? ⟨gb112, 3, none⟩ = some (.int .i64 0) := (blk_cell BK112.out 3).trans rfl; have hcz20_4 : w17.cell? ⟨gb112, 4, none⟩ = some (.int .i64 0) := (blk_cell BK112.out 4).trans rfl; have hfz20_0 := blk_frozen BK112.out 0; have hfz20_1 := blk_frozen BK112.out 1; have hfz20_2 := blk_frozen BK112.out 2; have hfz20_3 := blk_frozen BK112.out 3; have hfz20_4 := blk_frozen BK112.out 4; have hcz21_0 : w17.cell? ⟨gb108, 0, none⟩ = some (.int .i64 x109000_1) := (blk_cell BK108.out 0).trans rfl; have hcz21_1 : w17.cell? ⟨gb108, 1, none⟩ = some (.int .i64 x109001_1) := (blk_cell BK108.out 1).trans rfl; have hcz21_2 : w17.cell? ⟨gb108, 2, none⟩ = some (.int .i64 x109002_1) := (blk_cell BK108.out 2).trans rfl; have hcz21_3 : w17.cell? ⟨gb108, 3, none⟩ = some (.int .i64 x109003_1) := (blk_cell BK108.out 3).trans rfl; have hcz21_4 : w17.cell? ⟨gb108, 4, none⟩ = some (.int .i64 x109004_1) := (blk_cell BK108.out 4).trans rfl; have hfz21_0 := blk_frozen BK108.out 0; have hfz21_1 := blk_frozen BK108.out 1; have hfz21_2 := blk_frozen BK108.out 2; have hfz21_3 := blk_frozen BK108.out 3; have hfz21_4 := blk_frozen BK108.out 4; have hcz22_0 : w17.cell? ⟨gb107, 0, none⟩ = some (.int .i64 a0_0) := (blk_cell BK107.out 0).trans rfl; have hcz22_1 : w17.cell? ⟨gb107, 1, none⟩ = some (.int .i64 a0_1) := (blk_cell BK107.out 1).trans rfl; have hcz22_2 : w17.cell? ⟨gb107, 2, none⟩ = some (.int .i64 a0_2) := (blk_cell BK107.out 2).trans rfl; have hcz22_3 : w17.cell? ⟨gb107, 3, none⟩ = some (.int .i64 a0_3) := (blk_cell BK107.out 3).trans rfl; have hfz22_0 := blk_frozen BK107.out 0; have hfz22_1 := blk_frozen BK107.out 1; have hfz22_2 := blk_frozen BK107.out 2; have hfz22_3 := blk_frozen BK107.out 3))
            have n0_ : Aside0 (Kd.R k70 70 ((((((((w17.setCell ⟨gb112, 0, none⟩ (.int .i64 0)).setCell ⟨gb112, 1, none⟩ (.int .i64 0)).setCell ⟨gb112, 2, none⟩ (.int .i64 0)).setCell ⟨gb112, 3, none⟩ (.int .i64 0)).setCell ⟨gb112, 4, none⟩ (.int .i64 (wrap64 (x109004_1 * (wrap64 (a0_3 + a0_1)))))).setCell ⟨gb112, 0, none⟩ (.int .i64 (wrap64 ((wrap64 (x109000_1 * (wrap64 (a0_3 + a0_1)))) + x109002_1)))).setCell ⟨gb112, 1, none⟩ (.int .i64 (wrap64 ((wrap64 (x109001_1 * (wrap64 (a0_3 + a0_1)))) + (wrap64 ((wrap64 (-a0_3)) * x109002_1)))))).setCell ⟨gb112, 2, none⟩ (.int .i64 (wrap64 (x109002_1 * (wrap64 ((wrap64 ((wrap64 (a0_3 + a0_1)) - a0_1)) - a0_2)))))) w.heap.size (fun k_ => k_ ≠ gb108 ∧ k_ ≠ gb112) u6 x6_1) := ⟨by (with_reducible repeat (first | apply Kd.R_alloc | apply Kd.R_drewN | apply Kd.R_drew)); exact Kd.R_mono (Kd.R_far (p := ⟨gb112, 2, none⟩) (Kd.R_far (p := ⟨gb112, 1, none⟩) (Kd.R_far (p := ⟨gb112, 0, none⟩) (Kd.R_far (p := ⟨gb112, 4, none⟩) (Kd.R_far (p := ⟨gb112, 3, none⟩) (Kd.R_far (p := ⟨gb112, 2, none⟩) (Kd.R_far (p := ⟨gb112, 1, none⟩) (Kd.R_far (p := ⟨gb112, 0, none⟩) (Kd.R_mono HO_6.out (fun k_ hk => (⟨hk, hk.2⟩ : _ ∧ k_ ≠ gb112))) (fun _ hk => hk.2) (.int .i64 0)) (fun _ hk => hk.2) (.int .i64 0)) (fun _ hk => hk.2) (.int .i64 0)) (fun _ hk => hk.2) (.int .i64 0)) (fun _ hk => hk.2) (.int .i64 (wrap64 (x109004_1 * (wrap64 (a0_3 + a0_1)))))) (fun _ hk => hk.2) (.int .i64 (wrap64 ((wrap64 (x109000_1 * (wrap64 (a0_3 + a0_1)))) + x109002_1)))) (fun _ hk => hk.2) (.int .i64 (wrap64 ((wrap64 (x109001_1 * (wrap64 (a0_3 + a0_1)))) + (wrap64 ((wrap64 (-a0_3)) * x109002_1)))))) (fun _ hk => hk.2) (.int .i64 (wrap64 (x109002_1 * (wrap64 ((wrap64 ((wrap64 (a0_3 + a0_1)) - a0_1)) - a0_2)))))) (fun _ hk => ⟨hk.1.1, hk.1.2⟩)⟩
            have n1_ : Aside0 (((((((((w17.setCell ⟨gb112, 0, none⟩ (.int .i64 0)).setCell ⟨gb112, 1, none⟩ (.int .i64 0)).setCell ⟨gb112, 2, none⟩ (.int .i64 0)).setCell ⟨gb112, 3, none⟩ (.int .i64 0)).setCell ⟨gb112, 4, none⟩ (.int .i64 (wrap64 (x109004_1 * (wrap64 (a0_3 + a0_1)))))).setCell ⟨gb112, 0, none⟩ (.int .i64 (wrap64 ((wrap64 (x109000_1 * (wrap64 (a0_3 + a0_1)))) + x109002_1)))).setCell ⟨gb112, 1, none⟩ (.int .i64 (wrap64 ((wrap64 (x109001_1 * (wrap64 (a0_3 + a0_1)))) + (wrap64 ((wrap64 (-a0_3)) * x109002_1)))))).setCell ⟨gb112, 2, none⟩ (.int .i64 (wrap64 (x109002_1 * (wrap64 ((wrap64 ((wrap64 (a0_3 + a0_1)) - a0_1)) - a0_2)))))).heap[gb107]? = some (.cells #[.int .i64 a0_0, .int .i64 a0_1, .int .i64 a0_2, .int .i64 a0_3] 27 (0, 0))) := ⟨by (with_reducible repeat (first | refine blk_drewN ?_ _ | refine blk_drew ?_ | refine blk_alloc ?_ _)); refine blk_far ?_ NB107_112.out _; (with_reducible repeat (first | refine blk_drewN ?_ _ | refine blk_drew ?_ | refine blk_alloc ?_ _)); refine blk_far ?_ NB107_112.out _; (with_reducible repeat (first | refine blk_drewN ?_ _ | refine blk_drew ?_ | refine blk_alloc ?_ _)); refine blk_far ?_ NB107_112.out _; (with_reducible repeat (first | refine blk_drewN ?_ _ | refine blk_drew ?_ | refine blk_alloc ?_ _)); refine blk_far ?_ NB107_112.out _; (with_reducible repeat (first | refine blk_drewN ?_ _ | refine blk_drew ?_ | refine blk_alloc ?_ _)); refine blk_far ?_ NB107_112.out _; (with_reducible repeat (first | refine blk_drewN ?_ _ | refine blk_drew ?_ | refine blk_alloc ?_ _)); refine blk_far ?_ NB107_112.out _; (with_reducible repeat (first | refine blk_drewN ?_ _ | refine blk_drew ?_ | refine blk_alloc ?_ _)); refine blk_far ?_ NB107_112.out _; (with_reducible repeat (first | refine blk_drewN ?_ _ | refine blk_drew ?_ | refine blk_alloc ?_ _)); refine blk_far ?_ NB107_112.out _; (with_reducible repeat (first | refine blk_drewN ?_ _ | refine blk_drew ?_ | refine blk_alloc ?_ _)); exact BK107.out⟩
            have n2_ : Aside0 (((((((((w17.setCell ⟨gb112, 0, none⟩ (.int .i64 0)).setCell ⟨gb112, 1, none⟩ (.int .i64 0)).setCell ⟨gb112, 2, none⟩ (.int .i64 0)).setCell ⟨gb112, 3, none⟩ (.int .i64 0)).setCell ⟨gb112, 4, none⟩ (.int .i64 (wrap64 (x109004_1 * (wrap64 (a0_3 + a0_1)))))).setCell ⟨gb112, 0, none⟩ (.int .i64 (wrap64 ((wrap64 (x109000_1 * (wrap64 (a0_3 + a0_1)))) + x109002_1)))).setCell ⟨gb112, 1, none⟩ (.int .i64 (wrap64 ((wrap64 (x109001_1 * (wrap64 (a0_3 + a0_1)))) + (wrap64 ((wrap64 (-a0_3)) * x109002_1)))))).setCell ⟨gb112, 2, none⟩ (.int .i64 (wrap64 (x109002_1 * (wrap64 ((wrap64 ((wrap64 (a0_3 + a0_1)) - a0_1)) - a0_2)))))).heap[gb108]? = some (.cells #[.int .i64 x109000_1, .int .i64 x109001_1, .int .i64 x109002_1, .int .i64 x109003_1, .int .i64 x109004_1] 70 (0, 0))) := ⟨by (with_reducible repeat (first | refine blk_drewN ?_ _ | refine blk_drew ?_ | refine blk_alloc ?_ _)); refine blk_far ?_ NB108_112.out _; (with_reducible repeat (first | refine blk_drewN ?_ _ | refine blk_drew ?_ | refine blk_alloc ?_ _)); refine blk_far ?_ NB108_112.out _; (with_reducible repeat (first | refine blk_drewN ?_ _ | refine blk_drew ?_ | refine blk_alloc ?_ _)); refine blk_far ?_ NB108_112.out _; (with_reducible repeat (first | refine blk_drewN ?_ _ | refine blk_drew ?_ | refine blk_alloc ?_ _)); refine blk_far ?_ NB108_112.out _; (with_reducible repeat (first | refine blk_drewN ?_ _ | refine blk_drew ?_ | refine blk_alloc ?_ _)); refine blk_far ?_ NB108_112.out _; (with_reducible repeat (first | refine blk_drewN ?_ _ | refine blk_drew ?_ | refine blk_alloc ?_ _)); refine blk_far ?_ NB108_112.out _; (with_reducible repeat (first | refine blk_drewN ?_ _ | refine blk_drew ?_ | refine blk_alloc ?_ _)); refine blk_far ?_ NB108_112.out _; (with_reducible repeat (first | refine blk_drewN ?_ _ | refine blk_drew ?_ | refine blk_alloc ?_ _)); refine blk_far ?_ NB108_112.out _; (with_reducible repeat (first | refine blk_drewN ?_ _ | refine blk_drew ?_ | refine blk_alloc ?_ _)); exact BK108.out⟩
            have n3_ : Aside0 (((((((((w17.setCell ⟨gb112, 0, none⟩ (.int .i64 0)).setCell ⟨gb112, 1, none⟩ (.int .i64 0)).setCell ⟨gb112, 2, none⟩ (.int .i64 0)).setCell ⟨gb112, 3, none⟩ (.int .i64 0)).setCell ⟨gb112, 4, none⟩ (.int .i64 (wrap64 (x109004_1 * (wrap64 (a0_3 + a0_1)))))).setCell ⟨gb112, 0, none⟩ (.int .i64 (wrap64 ((wrap64 (x109000_1 * (wrap64 (a0_3 + a0_1)))) + x109002_1)))).setCell ⟨gb112, 1, none⟩ (.int .i64 (wrap64 ((wrap64 (x109001_1 * (wrap64 (a0_3 + a0_1)))) + (wrap64 ((wrap64 (-a0_3)) * x109002_1)))))).setCell ⟨gb112, 2, none⟩ (.int .i64 (wrap64 (x109002_1 * (wrap64 ((wrap64 ((wrap64 (a0_3 + a0_1)) - a0_1)) - a0_2)))))).heap[gb112]? = some (.cells #[.int .i64 (wrap64 ((wrap64 (x109000_1 * (wrap64 (a0_3 + a0_1)))) + x109002_1)), .int .i64 (wrap64 ((wrap64 (x109001_1 * (wrap64 (a0_3 + a0_1)))) + (wrap64 ((wrap64 (-a0_3)) * x109002_1)))), .int .i64 (wrap64 (x109002_1 * (wrap64 ((wrap64 ((wrap64 (a0_3 + a0_1)) - a0_1)) - a0_2)))), .int .i64 0, .int .i64 (wrap64 (x109004_1 * (wrap64 (a0_3 + a0_1))))] 70 (0, 0))) := ⟨by (with_reducible repeat (first | refine blk_drewN ?_ _ | refine blk_drew ?_ | refine blk_alloc ?_ _)); refine blk_put (cs := #[.int .i64 (wrap64 ((wrap64 (x109000_1 * (wrap64 (a0_3 + a0_1)))) + x109002_1)), .int .i64 (wrap64 ((wrap64 (x109001_1 * (wrap64 (a0_3 + a0_1)))) + (wrap64 ((wrap64 (-a0_3)) * x109002_1)))), .int .i64 0, .int .i64 0, .int .i64 (wrap64 (x109004_1 * (wrap64 (a0_3 + a0_1))))]) ?_ 2 _ rfl; (with_reducible repeat (first | refine blk_drewN ?_ _ | refine blk_drew ?_ | refine blk_alloc ?_ _)); refine blk_put (cs := #[.int .i64 (wrap64 ((wrap64 (x109000_1 * (wrap64 (a0_3 + a0_1)))) + x109002_1)), .int .i64 0, .int .i64 0, .int .i64 0, .int .i64 (wrap64 (x109004_1 * (wrap64 (a0_3 + a0_1))))]) ?_ 1 _ rfl; (with_reducible repeat (first | refine blk_drewN ?_ _ | refine blk_drew ?_ | refine blk_alloc ?_ _)); refine blk_put (cs := #[.int .i64 0, .int .i64 0, .int .i64 0, .int .i64 0, .int .i64 (wrap64 (x109004_1 * (wrap64 (a0_3 + a0_1))))]) ?_ 0 _ rfl; (with_reducible repeat (first | refine blk_drewN ?_ _ | refine blk_drew ?_ | refine blk_alloc ?_ _)); refine blk_put (cs := #[.int .i64 0, .int .i64 0, .int .i64 0, .int .i64 0, .int .i64 0]) ?_ 4 _ rfl; (with_reducible repeat (first | refine blk_drewN ?_ _ | refine blk_drew ?_ | refine blk_alloc ?_ _)); refine blk_put (cs := #[.int .i64 0, .int .i64 0, .int .i64 0, .int .i64 0, .int .i64 0]) ?_ 3 _ rfl; (with_reducible repeat (first | refine blk_drewN ?_ _ | refine blk_drew ?_ | refine blk_alloc ?_ _)); refine blk_put (cs := #[.int .i64 0, .int .i64 0, .int .i64 0, .int .i64 0, .int .i64 0]) ?_ 2 _ rfl; (with_reducible repeat (first | refine blk_drewN ?_ _ | refine blk_drew ?_ | refine blk_alloc ?_ _)); refine blk_put (cs := #[.int .i64 0, .int .i64 0, .int .i64 0, .int .i64 0, .int .i64 0]) ?_ 1 _ rfl; (with_reducible repeat (first | refine blk_drewN ?_ _ | refine blk_drew ?_ | refine blk_alloc ?_ _)); refine blk_put (cs := #[.int .i64 0, .int .i64 0, .int .i64 0, .int .i64 0, .int .i64 0]) ?_ 0 _ rfl; (with_reducible repeat (first | refine blk_drewN ?_ _ | refine blk_drew ?_ | refine blk_alloc ?_ _)); exact BK112.out⟩
            have n4_ : Aside0 (Below w.heap.size w ((((((((w17.setCell ⟨gb112, 0, none⟩ (.int .i64 0)).setCell ⟨gb112, 1, none⟩ (.int .i64 0)).setCell ⟨gb112, 2, none⟩ (.int .i64 0)).setCell ⟨gb112, 3, none⟩ (.int .i64 0)).setCell ⟨gb112, 4, none⟩ (.int .i64 (wrap64 (x109004_1 * (wrap64 (a0_3 + a0_1)))))).setCell ⟨gb112, 0, none⟩ (.int .i64 (wrap64 ((wrap64 (x109000_1 * (wrap64 (a0_3 + a0_1)))) + x109002_1)))).setCell ⟨gb112, 1, none⟩ (.int .i64 (wrap64 ((wrap64 (x109001_1 * (wrap64 (a0_3 + a0_1)))) + (wrap64 ((wrap64 (-a0_3)) * x109002_1)))))).setCell ⟨gb112, 2, none⟩ (.int .i64 (wrap64 (x109002_1 * (wrap64 ((wrap64 ((wrap64 (a0_3 + a0_1)) - a0_1)) - a0_2))))))) := ⟨by repeat (first | (with_reducible first | exact HB.out | apply below_alloc | apply pw_below_drewN | apply below_drew1 | refine below_set ?_ GE107.out | refine below_set ?_ GE108.out | refine below_set ?_ GE112.out) | exact HB.out)⟩
            (try clear HO_6)
            (try clear BK107)
            (try clear BK108)
            (try clear BK112)
            (try clear HB)
            generalize ((((((((w17.setCell ⟨gb112, 0, none⟩ (.int .i64 0)).setCell ⟨gb112, 1, none⟩ (.int .i64 0)).setCell ⟨gb112, 2, none⟩ (.int .i64 0)).setCell ⟨gb112, 3, none⟩ (.int .i64 0)).setCell ⟨gb112, 4, none⟩ (.int .i64 (wrap64 (x109004_1 * (wrap64 (a0_3 + a0_1)))))).setCell ⟨gb112, 0, none⟩ (.int .i64 (wrap64 ((wrap64 (x109000_1 * (wrap64 (a0_3 + a0_1)))) + x109002_1)))).setCell ⟨gb112, 1, none⟩ (.int .i64 (wrap64 ((wrap64 (x109001_1 * (wrap64 (a0_3 + a0_1)))) + (wrap64 ((wrap64 (-a0_3)) * x109002_1)))))).setCell ⟨gb112, 2, none⟩ (.int .i64 (wrap64 (x109002_1 * (wrap64 ((wrap64 ((wrap64 (a0_3 + a0_1)) - a0_1)) - a0_2)))))) = w23 at n0_ n1_ n2_ n3_ n4_ ⊢
            have HO_6 := n0_
            have BK107 := n1_
            have BK108 := n2_
            have BK112 := n3_
            have HB := n4_
            clear n0_ n1_ n2_ n3_ n4_
            have n0_ := Aside0.mk (Kd.R_drew HO_6.out)
            have n1_ := Aside0.mk (blk_drew BK107.out)
            have n2_ := Aside0.mk (blk_drew BK108.out)
            have n3_ := Aside0.mk (blk_drew BK112.out)
            have n4_ := Aside0.mk (below_drew1 HB.out)
            clear HO_6
            clear BK107
            clear BK108
            clear BK112
            clear HB
            have HO_6 := n0_
            have BK107 := n1_
            have BK108 := n2_
            have BK112 := n3_
            have HB := n4_
            clear n0_ n1_ n2_ n3_ n4_
            refine start_ (n := 12) (S := fun w' => w'.cell? ⟨gb108, 0, none⟩ = some (.int .i64 x109000_1) ∧ w'.cell? ⟨gb108, 1, none⟩ = some (.int .i64 x109001_1) ∧ w'.cell? ⟨gb108, 2, none⟩ = some (.int .i64 x109002_1) ∧ w'.cell? ⟨gb108, 3, none⟩ = some (.int .i64 x109003_1) ∧ w'.cell? ⟨gb108, 4, none⟩ = some (.int .i64 x109004_1)) (ds := []) #[false, false, false, false, false, false, false, false, false, false, false, false] (by kernel_rfl) rfl rfl ⟨(blk_cell BK108.out 0).trans rfl, (blk_cell BK108.out 1).trans rfl, (blk_cell BK108.out 2).trans rfl, (blk_cell BK108.out 3).trans rfl, (blk_cell BK108.out 4).trans rfl⟩ (fun hHeld => ?_); refine with_tabW spec_doRun.tab15 spec_doRun.bits15 (fun HT_ HW_ => ?_)
            generalize w23.drew = w24 at HO_6 BK107 BK108 BK112 HB hHeld ⊢
            refine pure_ (i := 0) (N := some 73) (v := ?_) (a' := ?_) #[true, false, false, false, false, false, false, false, false, false, false, false] rfl rfl (any_of HT_.out (by kernel_rfl)) (fun _ _ _ h => h) (Or.inl ⟨by rfl, ?_⟩) ?_ ?_
            rotate_left
            · intro w'
              go_simp
              with_reducible rfl
            rotate_left
            · simp only [Act.put, List.setIfInBounds_toArray, List.set_cons_zero, List.set_cons_succ, i64_w, i32_w]
              rfl
            refine pure_ (i := 2) (N := some 75) (v := ?_) (a' := ?_) #[true, false, true, false, false, false, false, false, false, false, false, false] rfl rfl (any_of HT_.out (by kernel_rfl)) (fun _ _ _ h => h) (Or.inl ⟨by rfl, ?_⟩) ?_ ?_
            rotate_left
            · intro w'
              go_simp
              with_reducible rfl
            rotate_left
            · simp only [Act.put, List.setIfInBounds_toArray, List.set_cons_zero, List.set_cons_succ, i64_w, i32_w]
              rfl
            refine pure_ (i := 4) (N := some 77) (v := ?_) (a' := ?_) #[true, false, true, false, true, false, false, false, false, false, false, false] rfl rfl (any_of HT_.out (by kernel_rfl)) (fun _ _ _ h => h) (Or.inl ⟨by rfl, ?_⟩) ?_ ?_
            rotate_left
            · intro w'
              go_simp
              with_reducible rfl
            rotate_left
            · simp only [Act.put, List.setIfInBounds_toArray, List.set_cons_zero, List.set_cons_succ, i64_w, i32_w]
              rfl
            refine pure_ (i := 6) (N := some 79) (v := ?_) (a' := ?_) #[true, false, true, false, true, false, true, false, false, false, false, false] rfl rfl (any_of HT_.out (by kernel_rfl)) (fun _ _ _ h => h) (Or.inl ⟨by rfl, ?_⟩) ?_ ?_
            rotate_left
            · intro w'
              go_simp
              with_reducible rfl
            rotate_left
            · simp only [Act.put, List.setIfInBounds_toArray, List.set_cons_zero, List.set_cons_succ, i64_w, i32_w]
              rfl
            refine take_ (i := 1) (N := some 74) (v := ?_) (a' := ?_) #[true, true, true, false, true, false, true, false, false, false, false, false] rfl rfl (take_ofW HT_.out HW_.out (by kernel_rfl)) (fun _ _ _ h => h) (Or.inl ⟨by rfl, ?_⟩) hHeld ?_ ?_
            rotate_left
            · rintro w' ⟨s0, s1, s2, s3, s4⟩
              go_simp
              with_reducible rfl
            rotate_left
            · simp only [Act.put, List.setIfInBounds_toArray, List.set_cons_zero, List.set_cons_succ, i64_w, i32_w]
              rfl
            refine pure_ (i := 3) (N := some 76) (v := ?_) (a' := ?_) #[true, true, true, true, true, false, true, false, false, false, false, false] rfl rfl (any_of HT_.out (by kernel_rfl)) (fun _ _ _ h => h) (Or.inl ⟨by rfl, ?_⟩) ?_ ?_
            rotate_left
            · intro w'
              go_simp
              with_reducible rfl
            rotate_left
            · simp only [Act.put, List.setIfInBounds_toArray, List.set_cons_zero, List.set_cons_succ, i64_w, i32_w]
              rfl
            refine take_ (i := 7) (N := some 80) (v := ?_) (a' := ?_) #[true, true, true, true, true, false, true, true, false, false, false, false] rfl rfl (take_ofW HT_.out HW_.out (by kernel_rfl)) (fun _ _ _ h => h) (Or.inl ⟨by rfl, ?_⟩) hHeld ?_ ?_
            rotate_left
            · rintro w' ⟨s0, s1, s2, s3, s4⟩
              go_simp
              with_reducible rfl
            rotate_left
            · simp only [Act.put, List.setIfInBounds_toArray, List.set_cons_zero, List.set_cons_succ, i64_w, i32_w]
              rfl
            refine one_ (i := 5) (N := some 78) #[true, true, true, true, true, true, true, true, false, false, false, false] rfl rfl (one_of HT_.out (by kernel_rfl)) (by decide) (fun K hK => ?_)
            refine goes_ Try.func80 (by kernel_rfl) rfl #[.int .i64 0, .int .i64 (wrap64 (-a0_3))] (by rfl) rfl rfl (by (try simp only [List.map_toArray, List.map_cons, List.map_nil]); first | done | rfl | (simp only [List.length_drop, List.length_take]; rfl)) ?_
            with_reducible refine (spec_l1Most.calls 0 (wrap64 (-a0_3)) t113 _ A12.out).mono ?_
            rintro e w' ⟨rfl, ⟨nd, rfl⟩⟩
            refine ⟨_, rfl, ?_⟩
            refine hK.out _ _ ⟨(blk_cell BK108.out 0).trans rfl, (blk_cell BK108.out 1).trans rfl, (blk_cell BK108.out 2).trans rfl, (blk_cell BK108.out 3).trans rfl, (blk_cell BK108.out 4).trans rfl⟩ (fun hHeld => ?_)
            clear hK K
            refine norm_ (a' := ?_) ?_ ?_
            rotate_left
            · show Act.put _ (some 78) _ = _
              simp only [Act.put, List.setIfInBounds_toArray, List.set_cons_zero, List.set_cons_succ, i64_w, i32_w]
              rfl
            refine pure_ (i := 8) (N := some 81) (v := ?_) (a' := ?_) #[true, true, true, true, true, true, true, true, true, false, false, false] rfl rfl (any_of HT_.out (by kernel_rfl)) (fun _ _ _ h => h) (Or.inl ⟨by rfl, ?_⟩) ?_ ?_
            rotate_left
            · intro w'
              go_simp
              with_reducible rfl
            rotate_left
            · simp only [Act.put, List.setIfInBounds_toArray, List.set_cons_zero, List.set_cons_succ, i64_w, i32_w]
              rfl
            refine pure_ (i := 9) (N := some 82) (v := ?_) (a' := ?_) #[true, true, true, true, true, true, true, true, true, true, false, false] rfl rfl (any_of HT_.out (by kernel_rfl)) (fun _ _ _ h => h) (Or.inl ⟨by rfl, ?_⟩) ?_ ?_
            rotate_left
            · intro w'
              go_simp
              with_reducible rfl
            rotate_left
            · simp only [Act.put, List.setIfInBounds_toArray, List.set_cons_zero, List.set_cons_succ, i64_w, i32_w]
              rfl
            refine pure_ (i := 10) (N := some 83) (v := ?_) (a' := ?_) #[true, true, true, true, true, true, true, true, true, true, true, false] rfl rfl (any_of HT_.out (by kernel_rfl)) (fun _ _ _ h => h) (Or.inl ⟨by rfl, ?_⟩) ?_ ?_
            rotate_left
            · intro w'
              go_simp
              with_reducible rfl
            rotate_left
            · simp only [Act.put, List.setIfInBounds_toArray, List.set_cons_zero, List.set_cons_succ, i64_w, i32_w]
              rfl
            refine one_ (i := 11) (N := none) #[true, true, true, true, true, true, true, true, true, true, true, true] rfl rfl (one_of HT_.out (by kernel_rfl)) (by decide) (fun K hK => ?_)
            have hs25 : w24.cell? ⟨gb112, 3, none⟩ = some (.int .i64 0) := (blk_cell BK112.out 3).trans rfl
            have hfs25 := blk_frozen BK112.out 3
            have hns25_0 := NB107_112.out
            have hns25_1 := NB108_112.out
            have hms25_0 := NB112_107.out
            have hms25_1 := NB112_108.out
            refine skip_ (w1 := ?_) (by rfl) rfl ?_ ?_
            rotate_left
            · go_simp
              rfl
            refine hK.out _ _ ⟨((cell_far (p := ⟨gb112, _, none⟩) NB108_112.out _).trans (hHeld.1)), ((cell_far (p := ⟨gb112, _, none⟩) NB108_112.out _).trans (hHeld.2.1)), ((cell_far (p := ⟨gb112, _, none⟩) NB108_112.out _).trans (hHeld.2.2.1)), ((cell_far (p := ⟨gb112, _, none⟩) NB108_112.out _).trans (hHeld.2.2.2.1)), ((cell_far (p := ⟨gb112, _, none⟩) NB108_112.out _).trans (hHeld.2.2.2.2))⟩ (fun hHeld => ?_)
            clear hK K
            refine done_ (done_of HT_.out (by kernel_rfl)) ?_
            have hcz26_0 : w24.cell? ⟨gb112, 0, none⟩ = some (.int .i64 (wrap64 ((wrap64 (x109000_1 * (wrap64 (a0_3 + a0_1)))) + x109002_1))) := (blk_cell BK112.out 0).trans rfl
            have hcz26_1 : w24.cell? ⟨gb112, 1, none⟩ = some (.int .i64 (wrap64 ((wrap64 (x109001_1 * (wrap64 (a0_3 + a0_1)))) + (wrap64 ((wrap64 (-a0_3)) * x109002_1))))) := (blk_cell BK112.out 1).trans rfl
            have hcz26_2 : w24.cell? ⟨gb112, 2, none⟩ = some (.int .i64 (wrap64 (x109002_1 * (wrap64 ((wrap64 ((wrap64 (a0_3 + a0_1)) - a0_1)) - a0_2))))) := (blk_cell BK112.out 2).trans rfl
            have hcz26_3 : w24.cell? ⟨gb112, 3, none⟩ = some (.int .i64 0) := (blk_cell BK112.out 3).trans rfl
            have hcz26_4 : w24.cell? ⟨gb112, 4, none⟩ = some (.int .i64 (wrap64 (x109004_1 * (wrap64 (a0_3 + a0_1))))) := (blk_cell BK112.out 4).trans rfl
            have hfz26_0 := blk_frozen BK112.out 0
            have hfz26_1 := blk_frozen BK112.out 1
            have hfz26_2 := blk_frozen BK112.out 2
            have hfz26_3 := blk_frozen BK112.out 3
            have hfz26_4 := blk_frozen BK112.out 4
            have hcz27_0 : w24.cell? ⟨gb108, 0, none⟩ = some (.int .i64 x109000_1) := (blk_cell BK108.out 0).trans rfl
            have hcz27_1 : w24.cell? ⟨gb108, 1, none⟩ = some (.int .i64 x109001_1) := (blk_cell BK108.out 1).trans rfl
            have hcz27_2 : w24.cell? ⟨gb108, 2, none⟩ = some (.int .i64 x109002_1) := (blk_cell BK108.out 2).trans rfl
            have hcz27_3 : w24.cell? ⟨gb108, 3, none⟩ = some (.int .i64 x109003_1) := (blk_cell BK108.out 3).trans rfl
            have hcz27_4 : w24.cell? ⟨gb108, 4, none⟩ = some (.int .i64 x109004_1) := (blk_cell BK108.out 4).trans rfl
            have hfz27_0 := blk_frozen BK108.out 0
            have hfz27_1 := blk_frozen BK108.out 1
            have hfz27_2 := blk_frozen BK108.out 2
            have hfz27_3 := blk_frozen BK108.out 3
            have hfz27_4 := blk_frozen BK108.out 4
            try go_wp2_with (first | ((with_reducible refine gate_builtin (b := .append) (xs := #[.tmp 85, .tmp 87]) rfl ?_); at_builtin; refine Kd.R_append k70 (w0 := w) w.heap.size rfl (.tmp 85) (.tmp 87) 67 70 (.agg #[(.int .i64 0), (.int .i64 0), (.int .i64 0), (.int .i64 0), (.int .i64 0)]) 40 rfl Try.underlying67 info70 rfl (by decide) (by omega) u6 x6_1 (⟨wrap64 ((wrap64 (x109000_1 * (wrap64 (a0_3 + a0_1)))) + x109002_1), wrap64 ((wrap64 (x109001_1 * (wrap64 (a0_3 + a0_1)))) + (wrap64 ((wrap64 (-a0_3)) * x109002_1))), wrap64 (x109002_1 * (wrap64 ((wrap64 ((wrap64 (a0_3 + a0_1)) - a0_1)) - a0_2))), wrap64 ((wrap64 (x109003_1 * (wrap64 (a0_3 + a0_1)))) + (wrap64 (t113 * x109002_1))), wrap64 (x109004_1 * (wrap64 (a0_3 + a0_1)))⟩ : S70) [.int .i64 (wrap64 ((wrap64 (x109000_1 * (wrap64 (a0_3 + a0_1)))) + x109002_1)), .int .i64 (wrap64 ((wrap64 (x109001_1 * (wrap64 (a0_3 + a0_1)))) + (wrap64 ((wrap64 (-a0_3)) * x109002_1)))), .int .i64 (wrap64 (x109002_1 * (wrap64 ((wrap64 ((wrap64 (a0_3 + a0_1)) - a0_1)) - a0_2)))), .int .i64 (wrap64 ((wrap64 (x109003_1 * (wrap64 (a0_3 + a0_1)))) + (wrap64 (t113 * x109002_1)))), .int .i64 (wrap64 (x109004_1 * (wrap64 (a0_3 + a0_1))))] (fun k_ => k_ ≠ gb108 ∧ k_ ≠ gb112) (fun _ => False) rfl (by first | (go_simp; done) | (go_simp; rfl)) ?aP (fun _ hk => hk.elim) ?aF ?aO ?aB ?aS ?aL ?_; (case aP => exact k70_mkM _ _ _ (⟨wrap64 ((wrap64 (x109000_1 * (wrap64 (a0_3 + a0_1)))) + x109002_1), wrap64 ((wrap64 (x109001_1 * (wrap64 (a0_3 + a0_1)))) + (wrap64 ((wrap64 (-a0_3)) * x109002_1))), wrap64 (x109002_1 * (wrap64 ((wrap64 ((wrap64 (a0_3 + a0_1)) - a0_1)) - a0_2))), wrap64 ((wrap64 (x109003_1 * (wrap64 (a0_3 + a0_1)))) + (wrap64 (t113 * x109002_1))), wrap64 (x109004_1 * (wrap64 (a0_3 + a0_1)))⟩ : S70)); (case aB => exact (by repeat (first | (with_reducible first | exact HB.out | apply below_alloc | apply pw_below_drewN | apply below_drew1 | refine below_set ?_ GE107.out | refine below_set ?_ GE108.out | refine below_set ?_ GE112.out) | exact HB.out))); (case aF => exact (fun k_ hk => ⟨Kd.freshB (g := gb108) (o := .cells #[.int .i64 (wrap64 ((wrap64 (x109000_1 * (wrap64 (a0_3 + a0_1)))) + x109002_1)), .int .i64 (wrap64 ((wrap64 (x109001_1 * (wrap64 (a0_3 + a0_1)))) + (wrap64 ((wrap64 (-a0_3)) * x109002_1)))), .int .i64 (wrap64 (x109002_1 * (wrap64 ((wrap64 ((wrap64 (a0_3 + a0_1)) - a0_1)) - a0_2)))), .int .i64 (wrap64 ((wrap64 (x109003_1 * (wrap64 (a0_3 + a0_1)))) + (wrap64 (t113 * x109002_1)))), .int .i64 (wrap64 (x109004_1 * (wrap64 (a0_3 + a0_1))))] 70 (0, 0)) (by (with_reducible repeat (first | refine blk_drewN ?_ _ | refine blk_drew ?_ | refine blk_alloc ?_ _)); refine blk_put (cs := #[.int .i64 (wrap64 ((wrap64 (x109000_1 * (wrap64 (a0_3 + a0_1)))) + x109002_1)), .int .i64 (wrap64 ((wrap64 (x109001_1 * (wrap64 (a0_3 + a0_1)))) + (wrap64 ((wrap64 (-a0_3)) * x109002_1)))), .int .i64 (wrap64 (x109002_1 * (wrap64 ((wrap64 ((wrap64 (a0_3 + a0_1)) - a0_1)) - a0_2)))), .int .i64 (wrap64 ((wrap64 (x109003_1 * (wrap64 (a0_3 + a0_1)))) + (wrap64 (t113 * x109002_1)))), .int .i64 x109004_1]) ?_ 4 _ rfl; (with_reducible repeat (first | refine blk_drewN ?_ _ | refine blk_drew ?_ | refine blk_alloc ?_ _)); refine blk_put (cs := #[.int .i64 (wrap64 ((wrap64 (x109000_1 * (wrap64 (a0_3 + a0_1)))) + x109002_1)), .int .i64 (wrap64 ((wrap64 (x109001_1 * (wrap64 (a0_3 + a0_1)))) + (wrap64 ((wrap64 (-a0_3)) * x109002_1)))), .int .i64 (wrap64 (x109002_1 * (wrap64 ((wrap64 ((wrap64 (a0_3 + a0_1)) - a0_1)) - a0_2)))), .int .i64 x109003_1, .int .i64 x109004_1]) ?_ 3 _ rfl; (with_reducible repeat (first | refine blk_drewN ?_ _ | refine blk_drew ?_ | refine blk_alloc ?_ _)); refine blk_put (cs := #[.int .i64 (wrap64 ((wrap64 (x109000_1 * (wrap64 (a0_3 + a0_1)))) + x109002_1)), .int .i64 (wrap64 ((wrap64 (x109001_1 * (wrap64 (a0_3 + a0_1)))) + (wrap64 ((wrap64 (-a0_3)) * x109002_1)))), .int .i64 x109002_1, .int .i64 x109003_1, .int .i64 x109004_1]) ?_ 2 _ rfl; (with_reducible repeat (first | refine blk_drewN ?_ _ | refine blk_drew ?_ | refine blk_alloc ?_ _)); refine blk_put (cs := #[.int .i64 (wrap64 ((wrap64 (x109000_1 * (wrap64 (a0_3 + a0_1)))) + x109002_1)), .int .i64 x109001_1, .int .i64 x109002_1, .int .i64 x109003_1, .int .i64 x109004_1]) ?_ 1 _ rfl; (with_reducible repeat (first | refine blk_drewN ?_ _ | refine blk_drew ?_ | refine blk_alloc ?_ _)); refine blk_put (cs := #[.int .i64 x109000_1, .int .i64 x109001_1, .int .i64 x109002_1, .int .i64 x109003_1, .int .i64 x109004_1]) ?_ 0 _ rfl; (with_reducible repeat (first | refine blk_drewN ?_ _ | refine blk_drew ?_ | refine blk_alloc ?_ _)); refine blk_far ?_ NB108_112.out _; (with_reducible repeat (first | refine blk_drewN ?_ _ | refine blk_drew ?_ | refine blk_alloc ?_ _)); exact BK108.out) k_ hk, Kd.freshB (g := gb112) (o := .cells #[.int .i64 (wrap64 ((wrap64 (x109000_1 * (wrap64 (a0_3 + a0_1)))) + x109002_1)), .int .i64 (wrap64 ((wrap64 (x109001_1 * (wrap64 (a0_3 + a0_1)))) + (wrap64 ((wrap64 (-a0_3)) * x109002_1)))), .int .i64 (wrap64 (x109002_1 * (wrap64 ((wrap64 ((wrap64 (a0_3 + a0_1)) - a0_1)) - a0_2)))), .int .i64 (wrap64 ((wrap64 (x109003_1 * (wrap64 (a0_3 + a0_1)))) + (wrap64 (t113 * x109002_1)))), .int .i64 (wrap64 (x109004_1 * (wrap64 (a0_3 + a0_1))))] 70 (0, 0)) (by (with_reducible repeat (first | refine blk_drewN ?_ _ | refine blk_drew ?_ | refine blk_alloc ?_ _)); refine blk_far ?_ NB112_108.out _; (with_reducible repeat (first | refine blk_drewN ?_ _ | refine blk_drew ?_ | refine blk_alloc ?_ _)); refine blk_far ?_ NB112_108.out _; (with_reducible repeat (first | refine blk_drewN ?_ _ | refine blk_drew ?_ | refine blk_alloc ?_ _)); refine blk_far ?_ NB112_108.out _; (with_reducible repeat (first | refine blk_drewN ?_ _ | refine blk_drew ?_ | refine blk_alloc ?_ _)); refine blk_far ?_ NB112_108.out _; (with_reducible repeat (first | refine blk_drewN ?_ _ | refine blk_drew ?_ | refine blk_alloc ?_ _)); refine blk_far ?_ NB112_108.out _; (with_reducible repeat (first | refine blk_drewN ?_ _ | refine blk_drew ?_ | refine blk_alloc ?_ _)); refine blk_put (cs := #[.int .i64 (wrap64 ((wrap64 (x109000_1 * (wrap64 (a0_3 + a0_1)))) + x109002_1)), .int .i64 (wrap64 ((wrap64 (x109001_1 * (wrap64 (a0_3 + a0_1)))) + (wrap64 ((wrap64 (-a0_3)) * x109002_1)))), .int .i64 (wrap64 (x109002_1 * (wrap64 ((wrap64 ((wrap64 (a0_3 + a0_1)) - a0_1)) - a0_2)))), .int .i64 0, .int .i64 (wrap64 (x109004_1 * (wrap64 (a0_3 + a0_1))))]) ?_ 3 _ rfl; (with_reducible repeat (first | refine blk_drewN ?_ _ | refine blk_drew ?_ | refine blk_alloc ?_ _)); exact BK112.out) k_ hk⟩)); (case aO => exact (by (with_reducible repeat (first | apply Kd.R_alloc | apply Kd.R_drewN | apply Kd.R_drew)); exact Kd.R_mono (Kd.R_far (p := ⟨gb108, 4, none⟩) (Kd.R_far (p := ⟨gb108, 3, none⟩) (Kd.R_far (p := ⟨gb108, 2, none⟩) (Kd.R_far (p := ⟨gb108, 1, none⟩) (Kd.R_far (p := ⟨gb108, 0, none⟩) (Kd.R_far (p := ⟨gb112, 3, none⟩) (Kd.R_mono (Kd.R_mono HO_6.out (fun k_ hk => (⟨hk, hk.2⟩ : _ ∧ k_ ≠ gb112))) (fun k_ hk => (⟨hk, hk.1.1⟩ : _ ∧ k_ ≠ gb108))) (fun _ hk => hk.1.2) (.int .i64 (wrap64 ((wrap64 (x109003_1 * (wrap64 (a0_3 + a0_1)))) + (wrap64 (t113 * x109002_1)))))) (fun _ hk => hk.2) (.int .i64 (wrap64 ((wrap64 (x109000_1 * (wrap64 (a0_3 + a0_1)))) + x109002_1)))) (fun _ hk => hk.2) (.int .i64 (wrap64 ((wrap64 (x109001_1 * (wrap64 (a0_3 + a0_1)))) + (wrap64 ((wrap64 (-a0_3)) * x109002_1)))))) (fun _ hk => hk.2) (.int .i64 (wrap64 (x109002_1 * (wrap64 ((wrap64 ((wrap64 (a0_3 + a0_1)) - a0_1)) - a0_2)))))) (fun _ hk => hk.2) (.int .i64 (wrap64 ((wrap64 (x109003_1 * (wrap64 (a0_3 + a0_1)))) + (wrap64 (t113 * x109002_1)))))) (fun _ hk => hk.2) (.int .i64 (wrap64 (x109004_1 * (wrap64 (a0_3 + a0_1)))))) (fun _ hk => ⟨hk.1.1.1, hk.1.1.2⟩))); (case aS => exact (below_size (by repeat (first | (with_reducible first | exact HB.out | apply below_alloc | apply pw_below_drewN | apply below_drew1 | refine below_set ?_ GE107.out | refine below_set ?_ GE108.out | refine below_set ?_ GE112.out) | exact HB.out)))); (case aL => have := LMc13.out; omega); intro v115 w28 ho hb hg hat; rw [← Ny114.out] at ho; have n0_ := Aside0.mk (blk_grown (g := gb107) (o := .cells #[.int .i64 a0_0, .int .i64 a0_1, .int .i64 a0_2, .int .i64 a0_3] 27 (0, 0)) (by (with_reducible repeat (first | refine blk_drewN ?_ _ | refine blk_drew ?_ | refine blk_alloc ?_ _)); refine blk_far ?_ NB107_108.out _; (with_reducible repeat (first | refine blk_drewN ?_ _ | refine blk_drew ?_ | refine blk_alloc ?_ _)); refine blk_far ?_ NB107_108.out _; (with_reducible repeat (first | refine blk_drewN ?_ _ | refine blk_drew ?_ | refine blk_alloc ?_ _)); refine blk_far ?_ NB107_108.out _; (with_reducible repeat (first | refine blk_drewN ?_ _ | refine blk_drew ?_ | refine blk_alloc ?_ _)); refine blk_far ?_ NB107_108.out _; (with_reducible repeat (first | refine blk_drewN ?_ _ | refine blk_drew ?_ | refine blk_alloc ?_ _)); refine blk_far ?_ NB107_108.out _; (with_reducible repeat (first | refine blk_drewN ?_ _ | refine blk_drew ?_ | refine blk_alloc ?_ _)); refine blk_far ?_ NB107_112.out _; (with_reducible repeat (first | refine blk_drewN ?_ _ | refine blk_drew ?_ | refine blk_alloc ?_ _)); exact BK107.out) hg (Kd.R_ne HO_6.out BK107.out (by decide))); have n1_ := Aside0.mk (blk_grown (g := gb108) (o := .cells #[.int .i64 (wrap64 ((wrap64 (x109000_1 * (wrap64 (a0_3 + a0_1)))) + x109002_1)), .int .i64 (wrap64 ((wrap64 (x109001_1 * (wrap64 (a0_3 + a0_1)))) + (wrap64 ((wrap64 (-a0_3)) * x109002_1)))), .int .i64 (wrap64 (x109002_1 * (wrap64 ((wrap64 ((wrap64 (a0_3 + a0_1)) - a0_1)) - a0_2)))), .int .i64 (wrap64 ((wrap64 (x109003_1 * (wrap64 (a0_3 + a0_1)))) + (wrap64 (t113 * x109002_1)))), .int .i64 (wrap64 (x109004_1 * (wrap64 (a0_3 + a0_1))))] 70 (0, 0)) (by (with_reducible repeat (first | refine blk_drewN ?_ _ | refine blk_drew ?_ | refine blk_alloc ?_ _)); refine blk_put (cs := #[.int .i64 (wrap64 ((wrap64 (x109000_1 * (wrap64 (a0_3 + a0_1)))) + x109002_1)), .int .i64 (wrap64 ((wrap64 (x109001_1 * (wrap64 (a0_3 + a0_1)))) + (wrap64 ((wrap64 (-a0_3)) * x109002_1)))), .int .i64 (wrap64 (x109002_1 * (wrap64 ((wrap64 ((wrap64 (a0_3 + a0_1)) - a0_1)) - a0_2)))), .int .i64 (wrap64 ((wrap64 (x109003_1 * (wrap64 (a0_3 + a0_1)))) + (wrap64 (t113 * x109002_1)))), .int .i64 x109004_1]) ?_ 4 _ rfl; (with_reducible repeat (first | refine blk_drewN ?_ _ | refine blk_drew ?_ | refine blk_alloc ?_ _)); refine blk_put (cs := #[.int .i64 (wrap64 ((wrap64 (x109000_1 * (wrap64 (a0_3 + a0_1)))) + x109002_1)), .int .i64 (wrap64 ((wrap64 (x109001_1 * (wrap64 (a0_3 + a0_1)))) + (wrap64 ((wrap64 (-a0_3)) * x109002_1)))), .int .i64 (wrap64 (x109002_1 * (wrap64 ((wrap64 ((wrap64 (a0_3 + a0_1)) - a0_1)) - a0_2)))), .int .i64 x109003_1, .int .i64 x109004_1]) ?_ 3 _ rfl; (with_reducible repeat (first | refine blk_drewN ?_ _ | refine blk_drew ?_ | refine blk_alloc ?_ _)); refine blk_put (cs := #[.int .i64 (wrap64 ((wrap64 (x109000_1 * (wrap64 (a0_3 + a0_1)))) + x109002_1)), .int .i64 (wrap64 ((wrap64 (x109001_1 * (wrap64 (a0_3 + a0_1)))) + (wrap64 ((wrap64 (-a0_3)) * x109002_1)))), .int .i64 x109002_1, .int .i64 x109003_1, .int .i64 x109004_1]) ?_ 2 _ rfl; (with_reducible repeat (first | refine blk_drewN ?_ _ | refine blk_drew ?_ | refine blk_alloc ?_ _)); refine blk_put (cs := #[.int .i64 (wrap64 ((wrap64 (x109000_1 * (wrap64 (a0_3 + a0_1)))) + x109002_1)), .int .i64 x109001_1, .int .i64 x109002_1, .int .i64 x109003_1, .int .i64 x109004_1]) ?_ 1 _ rfl; (with_reducible repeat (first | refine blk_drewN ?_ _ | refine blk_drew ?_ | refine blk_alloc ?_ _)); refine blk_put (cs := #[.int .i64 x109000_1, .int .i64 x109001_1, .int .i64 x109002_1, .int .i64 x109003_1, .int .i64 x109004_1]) ?_ 0 _ rfl; (with_reducible repeat (first | refine blk_drewN ?_ _ | refine blk_drew ?_ | refine blk_alloc ?_ _)); refine blk_far ?_ NB108_112.out _; (with_reducible repeat (first | refine blk_drewN ?_ _ | refine blk_drew ?_ | refine blk_alloc ?_ _)); exact BK108.out) hg (Kd.R_away HO_6.out (fun _ hk => hk.1))); have n2_ := Aside0.mk (blk_grown (g := gb112) (o := .cells #[.int .i64 (wrap64 ((wrap64 (x109000_1 * (wrap64 (a0_3 + a0_1)))) + x109002_1)), .int .i64 (wrap64 ((wrap64 (x109001_1 * (wrap64 (a0_3 + a0_1)))) + (wrap64 ((wrap64 (-a0_3)) * x109002_1)))), .int .i64 (wrap64 (x109002_1 * (wrap64 ((wrap64 ((wrap64 (a0_3 + a0_1)) - a0_1)) - a0_2)))), .int .i64 (wrap64 ((wrap64 (x109003_1 * (wrap64 (a0_3 + a0_1)))) + (wrap64 (t113 * x109002_1)))), .int .i64 (wrap64 (x109004_1 * (wrap64 (a0_3 + a0_1))))] 70 (0, 0)) (by (with_reducible repeat (first | refine blk_drewN ?_ _ | refine blk_drew ?_ | refine blk_alloc ?_ _)); refine blk_far ?_ NB112_108.out _; (with_reducible repeat (first | refine blk_drewN ?_ _ | refine blk_drew ?_ | refine blk_alloc ?_ _)); refine blk_far ?_ NB112_108.out _; (with_reducible repeat (first | refine blk_drewN ?_ _ | refine blk_drew ?_ | refine blk_alloc ?_ _)); refine blk_far ?_ NB112_108.out _; (with_reducible repeat (first | refine blk_drewN ?_ _ | refine blk_drew ?_ | refine blk_alloc ?_ _)); refine blk_far ?_ NB112_108.out _; (with_reducible repeat (first | refine blk_drewN ?_ _ | refine blk_drew ?_ | refine blk_alloc ?_ _)); refine blk_far ?_ NB112_108.out _; (with_reducible repeat (first | refine blk_drewN ?_ _ | refine blk_drew ?_ | refine blk_alloc ?_ _)); refine blk_put (cs := #[.int .i64 (wrap64 ((wrap64 (x109000_1 * (wrap64 (a0_3 + a0_1)))) + x109002_1)), .int .i64 (wrap64 ((wrap64 (x109001_1 * (wrap64 (a0_3 + a0_1)))) + (wrap64 ((wrap64 (-a0_3)) * x109002_1)))), .int .i64 (wrap64 (x109002_1 * (wrap64 ((wrap64 ((wrap64 (a0_3 + a0_1)) - a0_1)) - a0_2)))), .int .i64 0, .int .i64 (wrap64 (x109004_1 * (wrap64 (a0_3 + a0_1))))]) ?_ 3 _ rfl; (with_reducible repeat (first | refine blk_drewN ?_ _ | refine blk_drew ?_ | refine blk_alloc ?_ _)); exact BK112.out) hg (Kd.R_away HO_6.out (fun _ hk => hk.2))); have n3_ := Aside0.mk (hb); have n4_ := Aside0.mk (ho); clear BK107; clear BK108; clear BK112; clear HB; clear HO_6; have BK107 := n0_; have BK108 := n1_; have BK112 := n2_; have HB := n3_; have HO116 := n4_; clear n0_ n1_ n2_ n3_ n4_; clear ho hb hg hat))
            go_roundg k1
            case measure => have := HK1.out; omega
            case rel => exact ⟨(y114), (wrap64 (x7_1 + 1)), (wrap64 ((wrap64 (x109000_1 * (wrap64 (a0_3 + a0_1)))) + x109002_1)), (wrap64 ((wrap64 (x109001_1 * (wrap64 (a0_3 + a0_1)))) + (wrap64 ((wrap64 (-a0_3)) * x109002_1)))), (wrap64 (x109002_1 * (wrap64 ((wrap64 ((wrap64 (a0_3 + a0_1)) - a0_1)) - a0_2)))), (wrap64 ((wrap64 (x109003_1 * (wrap64 (a0_3 + a0_1)))) + (wrap64 (t113 * x109002_1)))), (wrap64 (x109004_1 * (wrap64 (a0_3 + a0_1)))), (by first | rfl | (simp; done) | (simp [*]; done)), H', ⟨by have := HK1.out; omega⟩, ⟨by (with_reducible repeat (first | apply Kd.R_alloc | apply Kd.R_drewN | apply Kd.R_drew)); exact Kd.R_mono HO116.out (fun _ hk => hk.1)⟩, ⟨by (with_reducible repeat (first | refine blk_drewN ?_ _ | refine blk_drew ?_ | refine blk_alloc ?_ _)); exact BK107.out⟩, ⟨by (with_reducible repeat (first | refine blk_drewN ?_ _ | refine blk_drew ?_ | refine blk_alloc ?_ _)); exact BK108.out⟩, ⟨by repeat (first | (with_reducible first | exact HB.out | apply below_alloc | apply pw_below_drewN | apply below_drew1 | refine below_set ?_ GE107.out | refine below_set ?_ GE108.out | refine below_set ?_ GE112.out) | exact HB.out)⟩⟩
          · rw [if_neg c13] at H
            exact absurd H (by simp)
        · rw [if_neg c11] at H
          have c11b0 : ((Int.tmod x7_1 2) == 0) = false := beq_eq_false_iff_ne.mpr c11
          have c11b1 : ((Int.tmod x7_1 2) != 0) = true := bne_iff_ne.mpr c11
          replace H := Option.bind_eq_some_iff.mp H
          obtain ⟨t118, A290, H⟩ := H
          replace H : (if x6_1.length < 3518437208883 then (spec_doRun.l0 k1 a1 (x6_1 ++ [(⟨wrap64 ((wrap64 (x109000_1 * (wrap64 (a0_3 + a0_2)))) + x109002_1), wrap64 ((wrap64 (x109001_1 * (wrap64 (a0_3 + a0_2)))) + (wrap64 (a0_3 * x109002_1))), wrap64 (x109002_1 * (wrap64 ((wrap64 ((wrap64 (a0_3 + a0_2)) - a0_1)) - a0_2))), wrap64 ((wrap64 (x109003_1 * (wrap64 (a0_3 + a0_2)))) + (wrap64 (t118 * x109002_1))), wrap64 (x109004_1 * (wrap64 (a0_3 + a0_2)))⟩ : S70)]) (wrap64 (x7_1 + 1)) a0_0 a0_1 a0_2 a0_3 (wrap64 ((wrap64 (x109000_1 * (wrap64 (a0_3 + a0_2)))) + x109002_1)) (wrap64 ((wrap64 (x109001_1 * (wrap64 (a0_3 + a0_2)))) + (wrap64 (a0_3 * x109002_1)))) (wrap64 (x109002_1 * (wrap64 ((wrap64 ((wrap64 (a0_3 + a0_2)) - a0_1)) - a0_2)))) (wrap64 ((wrap64 (x109003_1 * (wrap64 (a0_3 + a0_2)))) + (wrap64 (t118 * x109002_1)))) (wrap64 (x109004_1 * (wrap64 (a0_3 + a0_2))))) else (none)) = some r := H
          have A29 := Aside0.mk A290
          clear A290
          by_cases c30 : x6_1.length < 3518437208883
          · rw [if_pos c30] at H
            have LMc30 := Aside0.mk c30
            clear c30
            obtain ⟨y119, hy119⟩ : ∃ y_ : List (S70), y_ = (x6_1 ++ [(⟨wrap64 ((wrap64 (x109000_1 * (wrap64 (a0_3 + a0_2)))) + x109002_1), wrap64 ((wrap64 (x109001_1 * (wrap64 (a0_3 + a0_2)))) + (wrap64 (a0_3 * x109002_1))), wrap64 (x109002_1 * (wrap64 ((wrap64 ((wrap64 (a0_3 + a0_2)) - a0_1)) - a0_2))), wrap64 ((wrap64 (x109003_1 * (wrap64 (a0_3 + a0_2)))) + (wrap64 (t118 * x109002_1))), wrap64 (x109004_1 * (wrap64 (a0_3 + a0_2)))⟩ : S70)]) := ⟨_, rfl⟩
            replace H : (spec_doRun.l0 k1 a1 y119 (wrap64 (x7_1 + 1)) a0_0 a0_1 a0_2 a0_3 (wrap64 ((wrap64 (x109000_1 * (wrap64 (a0_3 + a0_2)))) + x109002_1)) (wrap64 ((wrap64 (x109001_1 * (wrap64 (a0_3 + a0_2)))) + (wrap64 (a0_3 * x109002_1)))) (wrap64 (x109002_1 * (wrap64 ((wrap64 ((wrap64 (a0_3 + a0_2)) - a0_1)) - a0_2)))) (wrap64 ((wrap64 (x109003_1 * (wrap64 (a0_3 + a0_2)))) + (wrap64 (t118 * x109002_1)))) (wrap64 (x109004_1 * (wrap64 (a0_3 + a0_2))))) = some r := by first | (rw [hy119]; with_reducible exact H) | (have H2_ := (Option.bind_some _ _).symm.trans H; rw [hy119]; with_reducible exact H2_) | (have H2_ := (Option.bind_some _ _).symm.trans H; with_reducible exact H2_) | with_reducible exact H | (rw [hy119]; exact H) | exact H
            have Ny119 := Aside0.mk hy119
            clear hy119
            have H' := Aside0.mk H
            clear H
            have hnb31 := NB107_108.out
            have hnc31 := NB108_107.out
            have hcz32_0 : wr.cell? ⟨gb107, 0, none⟩ = some (.int .i64 a0_0) := (blk_cell BK107.out 0).trans rfl
            have hcz32_1 : wr.cell? ⟨gb107, 1, none⟩ = some (.int .i64 a0_1) := (blk_cell BK107.out 1).trans rfl
            have hcz32_2 : wr.cell? ⟨gb107, 2, none⟩ = some (.int .i64 a0_2) := (blk_cell BK107.out 2).trans rfl
            have hcz32_3 : wr.cell? ⟨gb107, 3, none⟩ = some (.int .i64 a0_3) := (blk_cell BK107.out 3).trans rfl
            have hfz32_0 := blk_frozen BK107.out 0
            have hfz32_1 := blk_frozen BK107.out 1
            have hfz32_2 := blk_frozen BK107.out 2
            have hfz32_3 := blk_frozen BK107.out 3
            have hcz33_0 : wr.cell? ⟨gb108, 0, none⟩ = some (.int .i64 x109000_1) := (blk_cell BK108.out 0).trans rfl
            have hcz33_1 : wr.cell? ⟨gb108, 1, none⟩ = some (.int .i64 x109001_1) := (blk_cell BK108.out 1).trans rfl
            have hcz33_2 : wr.cell? ⟨gb108, 2, none⟩ = some (.int .i64 x109002_1) := (blk_cell BK108.out 2).trans rfl
            have hcz33_3 : wr.cell? ⟨gb108, 3, none⟩ = some (.int .i64 x109003_1) := (blk_cell BK108.out 3).trans rfl
            have hcz33_4 : wr.cell? ⟨gb108, 4, none⟩ = some (.int .i64 x109004_1) := (blk_cell BK108.out 4).trans rfl
            have hfz33_0 := blk_frozen BK108.out 0
            have hfz33_1 := blk_frozen BK108.out 1
            have hfz33_2 := blk_frozen BK108.out 2
            have hfz33_3 := blk_frozen BK108.out 3
            have hfz33_4 := blk_frozen BK108.out 4
            try go_wp2_with (first | ((with_reducible refine gate_dst (N := 10) rfl ?_); refine box_event ?hg (N := 10) ?hd (cs := #[.int .i64 0, .int .i64 0, .int .i64 0, .int .i64 0, .int .i64 0]) (t := 70) ?hr ?_; (case hd => rfl); (case hg => rfl); (case hr => first | (go_simp; done) | (go_simp; rfl)); intro gb117 hg w34 hbox hb; have n0_ := Aside0.mk (Kd.R_below (Kd.R_elderB (by (with_reducible repeat (first | apply Kd.R_alloc | apply Kd.R_drewN | apply Kd.R_drew)); exact HO_6.out) gb117 (Nat.le_of_eq hg.symm)) hb); have n1_ := Aside0.mk (blk_below (g := gb107) (o := .cells #[.int .i64 a0_0, .int .i64 a0_1, .int .i64 a0_2, .int .i64 a0_3] 27 (0, 0)) (by (with_reducible repeat (first | refine blk_drewN ?_ _ | refine blk_drew ?_ | refine blk_alloc ?_ _)); exact BK107.out) hb); have n2_ := Aside0.mk (blk_below (g := gb108) (o := .cells #[.int .i64 x109000_1, .int .i64 x109001_1, .int .i64 x109002_1, .int .i64 x109003_1, .int .i64 x109004_1] 70 (0, 0)) (by (with_reducible repeat (first | refine blk_drewN ?_ _ | refine blk_drew ?_ | refine blk_alloc ?_ _)); exact BK108.out) hb); have n3_ := Aside0.mk (below_step (by repeat (first | (with_reducible first | exact HB.out | apply below_alloc | apply pw_below_drewN | apply below_drew1 | refine below_set ?_ GE107.out | refine below_set ?_ GE108.out) | exact HB.out)) hb); have n4_ := Aside0.mk (hbox); have n5_ := Aside0.mk ((by rw [hg]; exact (below_size (by repeat (first | (with_reducible first | exact HB.out | apply below_alloc | apply pw_below_drewN | apply below_drew1 | refine below_set ?_ GE107.out | refine below_set ?_ GE108.out) | exact HB.out))) : w.heap.size ≤ gb117)); have n6_ := Aside0.mk ((by rw [hg]; exact (below_size (by repeat (first | (with_reducible first | exact HB.out | apply below_alloc | apply pw_below_drewN | apply below_drew1 | refine below_set ?_ GE107.out | refine below_set ?_ GE108.out) | exact HB.out))) : w.heap.size ≤ gb117)); have n7_ := Aside0.mk ((by rw [hg]; exact Nat.ne_of_lt (blk_lt (g := gb107) (o := .cells #[.int .i64 a0_0, .int .i64 a0_1, .int .i64 a0_2, .int .i64 a0_3] 27 (0, 0)) (by (with_reducible repeat (first | refine blk_drewN ?_ _ | refine blk_drew ?_ | refine blk_alloc ?_ _)); exact BK107.out)) : gb107 ≠ gb117)); have n8_ := Aside0.mk ((by rw [hg]; exact Nat.ne_of_gt (blk_lt (g := gb107) (o := .cells #[.int .i64 a0_0, .int .i64 a0_1, .int .i64 a0_2, .int .i64 a0_3] 27 (0, 0)) (by (with_reducible repeat (first | refine blk_drewN ?_ _ | refine blk_drew ?_ | refine blk_alloc ?_ _)); exact BK107.out)) : gb117 ≠ gb107)); have n9_ := Aside0.mk ((by rw [hg]; exact Nat.ne_of_lt (blk_lt (g := gb108) (o := .cells #[.int .i64 x109000_1, .int .i64 x109001_1, .int .i64 x109002_1, .int .i64 x109003_1, .int .i64 x109004_1] 70 (0, 0)) (by (with_reducible repeat (first | refine blk_drewN ?_ _ | refine blk_drew ?_ | refine blk_alloc ?_ _)); exact BK108.out)) : gb108 ≠ gb117)); have n10_ := Aside0.mk ((by rw [hg]; exact Nat.ne_of_gt (blk_lt (g := gb108) (o := .cells #[.int .i64 x109000_1, .int .i64 x109001_1, .int .i64 x109002_1, .int .i64 x109003_1, .int .i64 x109004_1] 70 (0, 0)) (by (with_reducible repeat (first | refine blk_drewN ?_ _ | refine blk_drew ?_ | refine blk_alloc ?_ _)); exact BK108.out)) : gb117 ≠ gb108)); clear HO_6; clear BK107; clear BK108; clear HB; have HO_6 := n0_; have BK107 := n1_; have BK108 := n2_; have HB := n3_; have BK117 := n4_; have GW117 := n5_; have GE117 := n6_; have NB107_117 := n7_; have NB117_107 := n8_; have NB108_117 := n9_; have NB117_108 := n10_; clear n0_ n1_ n2_ n3_ n4_ n5_ n6_ n7_ n8_ n9_ n10_; clear hb hbox hg; have hnb35 := NB117_107.out; have hnc35 := NB107_117.out; have hnb36 := NB117_108.out; have hnc36 := NB108_117.out; have hcz37_0 : w34.cell? ⟨gb117, 0, none⟩ = some (.int .i64 0) := (blk_cell BK117.out 0).trans rfl; have hcz37_1 : w34.cell? ⟨gb117, 1, none⟩ = some (.int .i64 0) := (blk_cell BK117.out 1).trans rfl; have hcz37_2 : w34.cell? ⟨gb117, 2, none⟩ = some (.int .i64 0) := (blk_cell BK117.out 2).trans rfl; have hcz37_3 : w34.cell? ⟨gb117, 3, none⟩ = some (.int .i64 0) := (blk_cell BK117.out 3).trans rfl; have hcz37_4 : w34.cell? ⟨gb117, 4, none⟩ = some (.int .i64 0) := (blk_cell BK117.out 4).trans rfl; have hfz37_0 := blk_frozen BK117.out 0; have hfz37_1 := blk_frozen BK117.out 1; have hfz37_2 := blk_frozen BK117.out 2; have hfz37_3 := blk_frozen BK117.out 3; have hfz37_4 := blk_frozen BK117.out 4; have hcz38_0 : w34.cell? ⟨gb108, 0, none⟩ = some (.int .i64 x109000_1) := (blk_cell BK108.out 0).trans rfl; have hcz38_1 : w34.cell? ⟨gb108, 1, none⟩ = some (.int .i64 x109001_1) := (blk_cell BK108.out 1).trans rfl; have hcz38_2 : w34.cell? ⟨gb108, 2, none⟩ = some (.int .i64 x109002_1) := (blk_cell BK108.out 2).trans rfl; have hcz38_3 : w34.cell? ⟨gb108, 3, none⟩ = some (.int .i64 x109003_1) := (blk_cell BK108.out 3).trans rfl; have hcz38_4 : w34.cell? ⟨gb108, 4, none⟩ = some (.int .i64 x109004_1) := (blk_cell BK108.out 4).trans rfl; have hfz38_0 := blk_frozen BK108.out 0; have hfz38_1 := blk_frozen BK108.out 1; have hfz38_2 := blk_frozen BK108.out 2; have hfz38_3 := blk_frozen BK108.out 3; have hfz38_4 := blk_frozen BK108.out 4; have hcz39_0 : w34.cell? ⟨gb107, 0, none⟩ = some (.int .i64 a0_0) := (blk_cell BK107.out 0).trans rfl; have hcz39_1 : w34.cell? ⟨gb107, 1, none⟩ = some (.int .i64 a0_1) := (blk_cell BK107.out 1).trans rfl; have hcz39_2 : w34.cell? ⟨gb107, 2, none⟩ = some (.int .i64 a0_2) := (blk_cell BK107.out 2).trans rfl; have hcz39_3 : w34.cell? ⟨gb107, 3, none⟩ = some (.int .i64 a0_3) := (blk_cell BK107.out 3).trans rfl; have hfz39_0 := blk_frozen BK107.out 0; have hfz39_1 := blk_frozen BK107.out 1; have hfz39_2 := blk_frozen BK107.out 2; have hfz39_3 := blk_frozen BK107.out 3))
            have n0_ : Aside0 (Kd.R k70 70 ((((((((w34.setCell ⟨gb117, 0, none⟩ (.int .i64 0)).setCell ⟨gb117, 1, none⟩ (.int .i64 0)).setCell ⟨gb117, 2, none⟩ (.int .i64 0)).setCell ⟨gb117, 3, none⟩ (.int .i64 0)).setCell ⟨gb117, 4, none⟩ (.int .i64 (wrap64 (x109004_1 * (wrap64 (a0_3 + a0_2)))))).setCell ⟨gb117, 0, none⟩ (.int .i64 (wrap64 ((wrap64 (x109000_1 * (wrap64 (a0_3 + a0_2)))) + x109002_1)))).setCell ⟨gb117, 1, none⟩ (.int .i64 (wrap64 ((wrap64 (x109001_1 * (wrap64 (a0_3 + a0_2)))) + (wrap64 (a0_3 * x109002_1)))))).setCell ⟨gb117, 2, none⟩ (.int .i64 (wrap64 (x109002_1 * (wrap64 ((wrap64 ((wrap64 (a0_3 + a0_2)) - a0_1)) - a0_2)))))) w.heap.size (fun k_ => k_ ≠ gb108 ∧ k_ ≠ gb117) u6 x6_1) := ⟨by (with_reducible repeat (first | apply Kd.R_alloc | apply Kd.R_drewN | apply Kd.R_drew)); exact Kd.R_mono (Kd.R_far (p := ⟨gb117, 2, none⟩) (Kd.R_far (p := ⟨gb117, 1, none⟩) (Kd.R_far (p := ⟨gb117, 0, none⟩) (Kd.R_far (p := ⟨gb117, 4, none⟩) (Kd.R_far (p := ⟨gb117, 3, none⟩) (Kd.R_far (p := ⟨gb117, 2, none⟩) (Kd.R_far (p := ⟨gb117, 1, none⟩) (Kd.R_far (p := ⟨gb117, 0, none⟩) (Kd.R_mono HO_6.out (fun k_ hk => (⟨hk, hk.2⟩ : _ ∧ k_ ≠ gb117))) (fun _ hk => hk.2) (.int .i64 0)) (fun _ hk => hk.2) (.int .i64 0)) (fun _ hk => hk.2) (.int .i64 0)) (fun _ hk => hk.2) (.int .i64 0)) (fun _ hk => hk.2) (.int .i64 (wrap64 (x109004_1 * (wrap64 (a0_3 + a0_2)))))) (fun _ hk => hk.2) (.int .i64 (wrap64 ((wrap64 (x109000_1 * (wrap64 (a0_3 + a0_2)))) + x109002_1)))) (fun _ hk => hk.2) (.int .i64 (wrap64 ((wrap64 (x109001_1 * (wrap64 (a0_3 + a0_2)))) + (wrap64 (a0_3 * x109002_1)))))) (fun _ hk => hk.2) (.int .i64 (wrap64 (x109002_1 * (wrap64 ((wrap64 ((wrap64 (a0_3 + a0_2)) - a0_1)) - a0_2)))))) (fun _ hk => ⟨hk.1.1, hk.1.2⟩)⟩
            have n1_ : Aside0 (((((((((w34.setCell ⟨gb117, 0, none⟩ (.int .i64 0)).setCell ⟨gb117, 1, none⟩ (.int .i64 0)).setCell ⟨gb117, 2, none⟩ (.int .i64 0)).setCell ⟨gb117, 3, none⟩ (.int .i64 0)).setCell ⟨gb117, 4, none⟩ (.int .i64 (wrap64 (x109004_1 * (wrap64 (a0_3 + a0_2)))))).setCell ⟨gb117, 0, none⟩ (.int .i64 (wrap64 ((wrap64 (x109000_1 * (wrap64 (a0_3 + a0_2)))) + x109002_1)))).setCell ⟨gb117, 1, none⟩ (.int .i64 (wrap64 ((wrap64 (x109001_1 * (wrap64 (a0_3 + a0_2)))) + (wrap64 (a0_3 * x109002_1)))))).setCell ⟨gb117, 2, none⟩ (.int .i64 (wrap64 (x109002_1 * (wrap64 ((wrap64 ((wrap64 (a0_3 + a0_2)) - a0_1)) - a0_2)))))).heap[gb107]? = some (.cells #[.int .i64 a0_0, .int .i64 a0_1, .int .i64 a0_2, .int .i64 a0_3] 27 (0, 0))) := ⟨by (with_reducible repeat (first | refine blk_drewN ?_ _ | refine blk_drew ?_ | refine blk_alloc ?_ _)); refine blk_far ?_ NB107_117.out _; (with_reducible repeat (first | refine blk_drewN ?_ _ | refine blk_drew ?_ | refine blk_alloc ?_ _)); refine blk_far ?_ NB107_117.out _; (with_reducible repeat (first | refine blk_drewN ?_ _ | refine blk_drew ?_ | refine blk_alloc ?_ _)); refine blk_far ?_ NB107_117.out _; (with_reducible repeat (first | refine blk_drewN ?_ _ | refine blk_drew ?_ | refine blk_alloc ?_ _)); refine blk_far ?_ NB107_117.out _; (with_reducible repeat (first | refine blk_drewN ?_ _ | refine blk_drew ?_ | refine blk_alloc ?_ _)); refine blk_far ?_ NB107_117.out _; (with_reducible repeat (first | refine blk_drewN ?_ _ | refine blk_drew ?_ | refine blk_alloc ?_ _)); refine blk_far ?_ NB107_117.out _; (with_reducible repeat (first | refine blk_drewN ?_ _ | refine blk_drew ?_ | refine blk_alloc ?_ _)); refine blk_far ?_ NB107_117.out _; (with_reducible repeat (first | refine blk_drewN ?_ _ | refine blk_drew ?_ | refine blk_alloc ?_ _)); refine blk_far ?_ NB107_117.out _; (with_reducible repeat (first | refine blk_drewN ?_ _ | refine blk_drew ?_ | refine blk_alloc ?_ _)); exact BK107.out⟩
            have n2_ : Aside0 (((((((((w34.setCell ⟨gb117, 0, none⟩ (.int .i64 0)).setCell ⟨gb117, 1, none⟩ (.int .i64 0)).setCell ⟨gb117, 2, none⟩ (.int .i64 0)).setCell ⟨gb117, 3, none⟩ (.int .i64 0)).setCell ⟨gb117, 4, none⟩ (.int .i64 (wrap64 (x109004_1 * (wrap64 (a0_3 + a0_2)))))).setCell ⟨gb117, 0, none⟩ (.int .i64 (wrap64 ((wrap64 (x109000_1 * (wrap64 (a0_3 + a0_2)))) + x109002_1)))).setCell ⟨gb117, 1, none⟩ (.int .i64 (wrap64 ((wrap64 (x109001_1 * (wrap64 (a0_3 + a0_2)))) + (wrap64 (a0_3 * x109002_1)))))).setCell ⟨gb117, 2, none⟩ (.int .i64 (wrap64 (x109002_1 * (wrap64 ((wrap64 ((wrap64 (a0_3 + a0_2)) - a0_1)) - a0_2)))))).heap[gb108]? = some (.cells #[.int .i64 x109000_1, .int .i64 x109001_1, .int .i64 x109002_1, .int .i64 x109003_1, .int .i64 x109004_1] 70 (0, 0))) := ⟨by (with_reducible repeat (first | refine blk_drewN ?_ _ | refine blk_drew ?_ | refine blk_alloc ?_ _)); refine blk_far ?_ NB108_117.out _; (with_reducible repeat (first | refine blk_drewN ?_ _ | refine blk_drew ?_ | refine blk_alloc ?_ _)); refine blk_far ?_ NB108_117.out _; (with_reducible repeat (first | refine blk_drewN ?_ _ | refine blk_drew ?_ | refine blk_alloc ?_ _)); refine blk_far ?_ NB108_117.out _; (with_reducible repeat (first | refine blk_drewN ?_ _ | refine blk_drew ?_ | refine blk_alloc ?_ _)); refine blk_far ?_ NB108_117.out _; (with_reducible repeat (first | refine blk_drewN ?_ _ | refine blk_drew ?_ | refine blk_alloc ?_ _)); refine blk_far ?_ NB108_117.out _; (with_reducible repeat (first | refine blk_drewN ?_ _ | refine blk_drew ?_ | refine blk_alloc ?_ _)); refine blk_far ?_ NB108_117.out _; (with_reducible repeat (first | refine blk_drewN ?_ _ | refine blk_drew ?_ | refine blk_alloc ?_ _)); refine blk_far ?_ NB108_117.out _; (with_reducible repeat (first | refine blk_drewN ?_ _ | refine blk_drew ?_ | refine blk_alloc ?_ _)); refine blk_far ?_ NB108_117.out _; (with_reducible repeat (first | refine blk_drewN ?_ _ | refine blk_drew ?_ | refine blk_alloc ?_ _)); exact BK108.out⟩
            have n3_ : Aside0 (((((((((w34.setCell ⟨gb117, 0, none⟩ (.int .i64 0)).setCell ⟨gb117, 1, none⟩ (.int .i64 0)).setCell ⟨gb117, 2, none⟩ (.int .i64 0)).setCell ⟨gb117, 3, none⟩ (.int .i64 0)).setCell ⟨gb117, 4, none⟩ (.int .i64 (wrap64 (x109004_1 * (wrap64 (a0_3 + a0_2)))))).setCell ⟨gb117, 0, none⟩ (.int .i64 (wrap64 ((wrap64 (x109000_1 * (wrap64 (a0_3 + a0_2)))) + x109002_1)))).setCell ⟨gb117, 1, none⟩ (.int .i64 (wrap64 ((wrap64 (x109001_1 * (wrap64 (a0_3 + a0_2)))) + (wrap64 (a0_3 * x109002_1)))))).setCell ⟨gb117, 2, none⟩ (.int .i64 (wrap64 (x109002_1 * (wrap64 ((wrap64 ((wrap64 (a0_3 + a0_2)) - a0_1)) - a0_2)))))).heap[gb117]? = some (.cells #[.int .i64 (wrap64 ((wrap64 (x109000_1 * (wrap64 (a0_3 + a0_2)))) + x109002_1)), .int .i64 (wrap64 ((wrap64 (x109001_1 * (wrap64 (a0_3 + a0_2)))) + (wrap64 (a0_3 * x109002_1)))), .int .i64 (wrap64 (x109002_1 * (wrap64 ((wrap64 ((wrap64 (a0_3 + a0_2)) - a0_1)) - a0_2)))), .int .i64 0, .int .i64 (wrap64 (x109004_1 * (wrap64 (a0_3 + a0_2))))] 70 (0, 0))) := ⟨by (with_reducible repeat (first | refine blk_drewN ?_ _ | refine blk_drew ?_ | refine blk_alloc ?_ _)); refine blk_put (cs := #[.int .i64 (wrap64 ((wrap64 (x109000_1 * (wrap64 (a0_3 + a0_2)))) + x109002_1)), .int .i64 (wrap64 ((wrap64 (x109001_1 * (wrap64 (a0_3 + a0_2)))) + (wrap64 (a0_3 * x109002_1)))), .int .i64 0, .int .i64 0, .int .i64 (wrap64 (x109004_1 * (wrap64 (a0_3 + a0_2))))]) ?_ 2 _ rfl; (with_reducible repeat (first | refine blk_drewN ?_ _ | refine blk_drew ?_ | refine blk_alloc ?_ _)); refine blk_put (cs := #[.int .i64 (wrap64 ((wrap64 (x109000_1 * (wrap64 (a0_3 + a0_2)))) + x109002_1)), .int .i64 0, .int .i64 0, .int .i64 0, .int .i64 (wrap64 (x109004_1 * (wrap64 (a0_3 + a0_2))))]) ?_ 1 _ rfl; (with_reducible repeat (first | refine blk_drewN ?_ _ | refine blk_drew ?_ | refine blk_alloc ?_ _)); refine blk_put (cs := #[.int .i64 0, .int .i64 0, .int .i64 0, .int .i64 0, .int .i64 (wrap64 (x109004_1 * (wrap64 (a0_3 + a0_2))))]) ?_ 0 _ rfl; (with_reducible repeat (first | refine blk_drewN ?_ _ | refine blk_drew ?_ | refine blk_alloc ?_ _)); refine blk_put (cs := #[.int .i64 0, .int .i64 0, .int .i64 0, .int .i64 0, .int .i64 0]) ?_ 4 _ rfl; (with_reducible repeat (first | refine blk_drewN ?_ _ | refine blk_drew ?_ | refine blk_alloc ?_ _)); refine blk_put (cs := #[.int .i64 0, .int .i64 0, .int .i64 0, .int .i64 0, .int .i64 0]) ?_ 3 _ rfl; (with_reducible repeat (first | refine blk_drewN ?_ _ | refine blk_drew ?_ | refine blk_alloc ?_ _)); refine blk_put (cs := #[.int .i64 0, .int .i64 0, .int .i64 0, .int .i64 0, .int .i64 0]) ?_ 2 _ rfl; (with_reducible repeat (first | refine blk_drewN ?_ _ | refine blk_drew ?_ | refine blk_alloc ?_ _)); refine blk_put (cs := #[.int .i64 0, .int .i64 0, .int .i64 0, .int .i64 0, .int .i64 0]) ?_ 1 _ rfl; (with_reducible repeat (first | refine blk_drewN ?_ _ | refine blk_drew ?_ | refine blk_alloc ?_ _)); refine blk_put (cs := #[.int .i64 0, .int .i64 0, .int .i64 0, .int .i64 0, .int .i64 0]) ?_ 0 _ rfl; (with_reducible repeat (first | refine blk_drewN ?_ _ | refine blk_drew ?_ | refine blk_alloc ?_ _)); exact BK117.out⟩
            have n4_ : Aside0 (Below w.heap.size w ((((((((w34.setCell ⟨gb117, 0, none⟩ (.int .i64 0)).setCell ⟨gb117, 1, none⟩ (.int .i64 0)).setCell ⟨gb117, 2, none⟩ (.int .i64 0)).setCell ⟨gb117, 3, none⟩ (.int .i64 0)).setCell ⟨gb117, 4, none⟩ (.int .i64 (wrap64 (x109004_1 * (wrap64 (a0_3 + a0_2)))))).setCell ⟨gb117, 0, none⟩ (.int .i64 (wrap64 ((wrap64 (x109000_1 * (wrap64 (a0_3 + a0_2)))) + x109002_1)))).setCell ⟨gb117, 1, none⟩ (.int .i64 (wrap64 ((wrap64 (x109001_1 * (wrap64 (a0_3 + a0_2)))) + (wrap64 (a0_3 * x109002_1)))))).setCell ⟨gb117, 2, none⟩ (.int .i64 (wrap64 (x109002_1 * (wrap64 ((wrap64 ((wrap64 (a0_3 + a0_2)) - a0_1)) - a0_2))))))) := ⟨by repeat (first | (with_reducible first | exact HB.out | apply below_alloc | apply pw_below_drewN | apply below_drew1 | refine below_set ?_ GE107.out | refine below_set ?_ GE108.out | refine below_set ?_ GE117.out) | exact HB.out)⟩
            (try clear HO_6)
            (try clear BK107)
            (try clear BK108)
            (try clear BK117)
            (try clear HB)
            generalize ((((((((w34.setCell ⟨gb117, 0, none⟩ (.int .i64 0)).setCell ⟨gb117, 1, none⟩ (.int .i64 0)).setCell ⟨gb117, 2, none⟩ (.int .i64 0)).setCell ⟨gb117, 3, none⟩ (.int .i64 0)).setCell ⟨gb117, 4, none⟩ (.int .i64 (wrap64 (x109004_1 * (wrap64 (a0_3 + a0_2)))))).setCell ⟨gb117, 0, none⟩ (.int .i64 (wrap64 ((wrap64 (x109000_1 * (wrap64 (a0_3 + a0_2)))) + x109002_1)))).setCell ⟨gb117, 1, none⟩ (.int .i64 (wrap64 ((wrap64 (x109001_1 * (wrap64 (a0_3 + a0_2)))) + (wrap64 (a0_3 * x109002_1)))))).setCell ⟨gb117, 2, none⟩ (.int .i64 (wrap64 (x109002_1 * (wrap64 ((wrap64 ((wrap64 (a0_3 + a0_2)) - a0_1)) - a0_2)))))) = w40 at n0_ n1_ n2_ n3_ n4_ ⊢
            have HO_6 := n0_
            have BK107 := n1_
            have BK108 := n2_
            have BK117 := n3_
            have HB := n4_
            clear n0_ n1_ n2_ n3_ n4_
            have n0_ := Aside0.mk (Kd.R_drew HO_6.out)
            have n1_ := Aside0.mk (blk_drew BK107.out)
            have n2_ := Aside0.mk (blk_drew BK108.out)
            have n3_ := Aside0.mk (blk_drew BK117.out)
            have n4_ := Aside0.mk (below_drew1 HB.out)
            clear HO_6
            clear BK107
            clear BK108
            clear BK117
            clear HB
            have HO_6 := n0_
            have BK107 := n1_
            have BK108 := n2_
            have BK117 := n3_
            have HB := n4_
            clear n0_ n1_ n2_ n3_ n4_
            refine start_ (n := 12) (S := fun w' => w'.cell? ⟨gb108, 0, none⟩ = some (.int .i64 x109000_1) ∧ w'.cell? ⟨gb108, 1, none⟩ = some (.int .i64 x109001_1) ∧ w'.cell? ⟨gb108, 2, none⟩ = some (.int .i64 x109002_1) ∧ w'.cell? ⟨gb108, 3, none⟩ = some (.int .i64 x109003_1) ∧ w'.cell? ⟨gb108, 4, none⟩ = some (.int .i64 x109004_1)) (ds := []) #[false, false, false, false, false, false, false, false, false, false, false, false] (by kernel_rfl) rfl rfl ⟨(blk_cell BK108.out 0).trans rfl, (blk_cell BK108.out 1).trans rfl, (blk_cell BK108.out 2).trans rfl, (blk_cell BK108.out 3).trans rfl, (blk_cell BK108.out 4).trans rfl⟩ (fun hHeld => ?_); refine with_tabW spec_doRun.tab15 spec_doRun.bits15 (fun HT_ HW_ => ?_)
            generalize w40.drew = w41 at HO_6 BK107 BK108 BK117 HB hHeld ⊢
            refine pure_ (i := 0) (N := some 73) (v := ?_) (a' := ?_) #[true, false, false, false, false, false, false, false, false, false, false, false] rfl rfl (any_of HT_.out (by kernel_rfl)) (fun _ _ _ h => h) (Or.inl ⟨by rfl, ?_⟩) ?_ ?_
            rotate_left
            · intro w'
              go_simp
              with_reducible rfl
            rotate_left
            · simp only [Act.put, List.setIfInBounds_toArray, List.set_cons_zero, List.set_cons_succ, i64_w, i32_w]
              rfl
            refine pure_ (i := 2) (N := some 75) (v := ?_) (a' := ?_) #[true, false, true, false, false, false, false, false, false, false, false, false] rfl rfl (any_of HT_.out (by kernel_rfl)) (fun _ _ _ h => h) (Or.inl ⟨by rfl, ?_⟩) ?_ ?_
            rotate_left
            · intro w'
              go_simp
              with_reducible rfl
            rotate_left
            · simp only [Act.put, List.setIfInBounds_toArray, List.set_cons_zero, List.set_cons_succ, i64_w, i32_w]
              rfl
            refine pure_ (i := 4) (N := some 77) (v := ?_) (a' := ?_) #[true, false, true, false, true, false, false, false, false, false, false, false] rfl rfl (any_of HT_.out (by kernel_rfl)) (fun _ _ _ h => h) (Or.inl ⟨by rfl, ?_⟩) ?_ ?_
            rotate_left
            · intro w'
              go_simp
              with_reducible rfl
            rotate_left
            · simp only [Act.put, List.setIfInBounds_toArray, List.set_cons_zero, List.set_cons_succ, i64_w, i32_w]
              rfl
            refine pure_ (i := 6) (N := some 79) (v := ?_) (a' := ?_) #[true, false, true, false, true, false, true, false, false, false, false, false] rfl rfl (any_of HT_.out (by kernel_rfl)) (fun _ _ _ h => h) (Or.inl ⟨by rfl, ?_⟩) ?_ ?_
            rotate_left
            · intro w'
              go_simp
              with_reducible rfl
            rotate_left
            · simp only [Act.put, List.setIfInBounds_toArray, List.set_cons_zero, List.set_cons_succ, i64_w, i32_w]
              rfl
            refine take_ (i := 1) (N := some 74) (v := ?_) (a' := ?_) #[true, true, true, false, true, false, true, false, false, false, false, false] rfl rfl (take_ofW HT_.out HW_.out (by kernel_rfl)) (fun _ _ _ h => h) (Or.inl ⟨by rfl, ?_⟩) hHeld ?_ ?_
            rotate_left
            · rintro w' ⟨s0, s1, s2, s3, s4⟩
              go_simp
              with_reducible rfl
            rotate_left
            · simp only [Act.put, List.setIfInBounds_toArray, List.set_cons_zero, List.set_cons_succ, i64_w, i32_w]
              rfl
            refine pure_ (i := 3) (N := some 76) (v := ?_) (a' := ?_) #[true, true, true, true, true, false, true, false, false, false, false, false] rfl rfl (any_of HT_.out (by kernel_rfl)) (fun _ _ _ h => h) (Or.inl ⟨by rfl, ?_⟩) ?_ ?_
            rotate_left
            · intro w'
              go_simp
              with_reducible rfl
            rotate_left
            · simp only [Act.put, List.setIfInBounds_toArray, List.set_cons_zero, List.set_cons_succ, i64_w, i32_w]
              rfl
            refine take_ (i := 7) (N := some 80) (v := ?_) (a' := ?_) #[true, true, true, true, true, false, true, true, false, false, false, false] rfl rfl (take_ofW HT_.out HW_.out (by kernel_rfl)) (fun _ _ _ h => h) (Or.inl ⟨by rfl, ?_⟩) hHeld ?_ ?_
            rotate_left
            · rintro w' ⟨s0, s1, s2, s3, s4⟩
              go_simp
              with_reducible rfl
            rotate_left
            · simp only [Act.put, List.setIfInBounds_toArray, List.set_cons_zero, List.set_cons_succ, i64_w, i32_w]
              rfl
            refine one_ (i := 5) (N := some 78) #[true, true, true, true, true, true, true, true, false, false, false, false] rfl rfl (one_of HT_.out (by kernel_rfl)) (by decide) (fun K hK => ?_)
            refine goes_ Try.func80 (by kernel_rfl) rfl #[.int .i64 0, .int .i64 a0_3] (by rfl) rfl rfl (by (try simp only [List.map_toArray, List.map_cons, List.map_nil]); first | done | rfl | (simp only [List.length_drop, List.length_take]; rfl)) ?_
            with_reducible refine (spec_l1Most.calls 0 a0_3 t118 _ A29.out).mono ?_
            rintro e w' ⟨rfl, ⟨nd, rfl⟩⟩
            refine ⟨_, rfl, ?_⟩
            refine hK.out _ _ ⟨(blk_cell BK108.out 0).trans rfl, (blk_cell BK108.out 1).trans rfl, (blk_cell BK108.out 2).trans rfl, (blk_cell BK108.out 3).trans rfl, (blk_cell BK108.out 4).trans rfl⟩ (fun hHeld => ?_)
            clear hK K
            refine norm_ (a' := ?_) ?_ ?_
            rotate_left
            · show Act.put _ (some 78) _ = _
              simp only [Act.put, List.setIfInBounds_toArray, List.set_cons_zero, List.set_cons_succ, i64_w, i32_w]
              rfl
            refine pure_ (i := 8) (N := some 81) (v := ?_) (a' := ?_) #[true, true, true, true, true, true, true, true, true, false, false, false] rfl rfl (any_of HT_.out (by kernel_rfl)) (fun _ _ _ h => h) (Or.inl ⟨by rfl, ?_⟩) ?_ ?_
            rotate_left
            · intro w'
              go_simp
              with_reducible rfl
            rotate_left
            · simp only [Act.put, List.setIfInBounds_toArray, List.set_cons_zero, List.set_cons_succ, i64_w, i32_w]
              rfl
            refine pure_ (i := 9) (N := some 82) (v := ?_) (a' := ?_) #[true, true, true, true, true, true, true, true, true, true, false, false] rfl rfl (any_of HT_.out (by kernel_rfl)) (fun _ _ _ h => h) (Or.inl ⟨by rfl, ?_⟩) ?_ ?_
            rotate_left
            · intro w'
              go_simp
              with_reducible rfl
            rotate_left
            · simp only [Act.put, List.setIfInBounds_toArray, List.set_cons_zero, List.set_cons_succ, i64_w, i32_w]
              rfl
            refine pure_ (i := 10) (N := some 83) (v := ?_) (a' := ?_) #[true, true, true, true, true, true, true, true, true, true, true, false] rfl rfl (any_of HT_.out (by kernel_rfl)) (fun _ _ _ h => h) (Or.inl ⟨by rfl, ?_⟩) ?_ ?_
            rotate_left
            · intro w'
              go_simp
              with_reducible rfl
            rotate_left
            · simp only [Act.put, List.setIfInBounds_toArray, List.set_cons_zero, List.set_cons_succ, i64_w, i32_w]
              rfl
            refine one_ (i := 11) (N := none) #[true, true, true, true, true, true, true, true, true, true, true, true] rfl rfl (one_of HT_.out (by kernel_rfl)) (by decide) (fun K hK => ?_)
            have hs42 : w41.cell? ⟨gb117, 3, none⟩ = some (.int .i64 0) := (blk_cell BK117.out 3).trans rfl
            have hfs42 := blk_frozen BK117.out 3
            have hns42_0 := NB107_117.out
            have hns42_1 := NB108_117.out
            have hms42_0 := NB117_107.out
            have hms42_1 := NB117_108.out
            refine skip_ (w1 := ?_) (by rfl) rfl ?_ ?_
            rotate_left
            · go_simp
              rfl
            refine hK.out _ _ ⟨((cell_far (p := ⟨gb117, _, none⟩) NB108_117.out _).trans (hHeld.1)), ((cell_far (p := ⟨gb117, _, none⟩) NB108_117.out _).trans (hHeld.2.1)), ((cell_far (p := ⟨gb117, _, none⟩) NB108_117.out _).trans (hHeld.2.2.1)), ((cell_far (p := ⟨gb117, _, none⟩) NB108_117.out _).trans (hHeld.2.2.2.1)), ((cell_far (p := ⟨gb117, _, none⟩) NB108_117.out _).trans (hHeld.2.2.2.2))⟩ (fun hHeld => ?_)
            clear hK K
            refine done_ (done_of HT_.out (by kernel_rfl)) ?_
            have hcz43_0 : w41.cell? ⟨gb117, 0, none⟩ = some (.int .i64 (wrap64 ((wrap64 (x109000_1 * (wrap64 (a0_3 + a0_2)))) + x109002_1))) := (blk_cell BK117.out 0).trans rfl
            have hcz43_1 : w41.cell? ⟨gb117, 1, none⟩ = some (.int .i64 (wrap64 ((wrap64 (x109001_1 * (wrap64 (a0_3 + a0_2)))) + (wrap64 (a0_3 * x109002_1))))) := (blk_cell BK117.out 1).trans rfl
            have hcz43_2 : w41.cell? ⟨gb117, 2, none⟩ = some (.int .i64 (wrap64 (x109002_1 * (wrap64 ((wrap64 ((wrap64 (a0_3 + a0_2)) - a0_1)) - a0_2))))) := (blk_cell BK117.out 2).trans rfl
            have hcz43_3 : w41.cell? ⟨gb117, 3, none⟩ = some (.int .i64 0) := (blk_cell BK117.out 3).trans rfl
            have hcz43_4 : w41.cell? ⟨gb117, 4, none⟩ = some (.int .i64 (wrap64 (x109004_1 * (wrap64 (a0_3 + a0_2))))) := (blk_cell BK117.out 4).trans rfl
            have hfz43_0 := blk_frozen BK117.out 0
            have hfz43_1 := blk_frozen BK117.out 1
            have hfz43_2 := blk_frozen BK117.out 2
            have hfz43_3 := blk_frozen BK117.out 3
            have hfz43_4 := blk_frozen BK117.out 4
            have hcz44_0 : w41.cell? ⟨gb108, 0, none⟩ = some (.int .i64 x109000_1) := (blk_cell BK108.out 0).trans rfl
            have hcz44_1 : w41.cell? ⟨gb108, 1, none⟩ = some (.int .i64 x109001_1) := (blk_cell BK108.out 1).trans rfl
            have hcz44_2 : w41.cell? ⟨gb108, 2, none⟩ = some (.int .i64 x109002_1) := (blk_cell BK108.out 2).trans rfl
            have hcz44_3 : w41.cell? ⟨gb108, 3, none⟩ = some (.int .i64 x109003_1) := (blk_cell BK108.out 3).trans rfl
            have hcz44_4 : w41.cell? ⟨gb108, 4, none⟩ = some (.int .i64 x109004_1) := (blk_cell BK108.out 4).trans rfl
            have hfz44_0 := blk_frozen BK108.out 0
            have hfz44_1 := blk_frozen BK108.out 1
            have hfz44_2 := blk_frozen BK108.out 2
            have hfz44_3 := blk_frozen BK108.out 3
            have hfz44_4 := blk_frozen BK108.out 4
            try go_wp2_with (first | ((with_reducible refine gate_builtin (b := .append) (xs := #[.tmp 85, .tmp 87]) rfl ?_); at_builtin; refine Kd.R_append k70 (w0 := w) w.heap.size rfl (.tmp 85) (.tmp 87) 67 70 (.agg #[(.int .i64 0), (.int .i64 0), (.int .i64 0), (.int .i64 0), (.int .i64 0)]) 40 rfl Try.underlying67 info70 rfl (by decide) (by omega) u6 x6_1 (⟨wrap64 ((wrap64 (x109000_1 * (wrap64 (a0_3 + a0_2)))) + x109002_1), wrap64 ((wrap64 (x109001_1 * (wrap64 (a0_3 + a0_2)))) + (wrap64 (a0_3 * x109002_1))), wrap64 (x109002_1 * (wrap64 ((wrap64 ((wrap64 (a0_3 + a0_2)) - a0_1)) - a0_2))), wrap64 ((wrap64 (x109003_1 * (wrap64 (a0_3 + a0_2)))) + (wrap64 (t118 * x109002_1))), wrap64 (x109004_1 * (wrap64 (a0_3 + a0_2)))⟩ : S70) [.int .i64 (wrap64 ((wrap64 (x109000_1 * (wrap64 (a0_3 + a0_2)))) + x109002_1)), .int .i64 (wrap64 ((wrap64 (x109001_1 * (wrap64 (a0_3 + a0_2)))) + (wrap64 (a0_3 * x109002_1)))), .int .i64 (wrap64 (x109002_1 * (wrap64 ((wrap64 ((wrap64 (a0_3 + a0_2)) - a0_1)) - a0_2)))), .int .i64 (wrap64 ((wrap64 (x109003_1 * (wrap64 (a0_3 + a0_2)))) + (wrap64 (t118 * x109002_1)))), .int .i64 (wrap64 (x109004_1 * (wrap64 (a0_3 + a0_2))))] (fun k_ => k_ ≠ gb108 ∧ k_ ≠ gb117) (fun _ => False) rfl (by first | (go_simp; done) | (go_simp; rfl)) ?aP (fun _ hk => hk.elim) ?aF ?aO ?aB ?aS ?aL ?_; (case aP => exact k70_mkM _ _ _ (⟨wrap64 ((wrap64 (x109000_1 * (wrap64 (a0_3 + a0_2)))) + x109002_1), wrap64 ((wrap64 (x109001_1 * (wrap64 (a0_3 + a0_2)))) + (wrap64 (a0_3 * x109002_1))), wrap64 (x109002_1 * (wrap64 ((wrap64 ((wrap64 (a0_3 + a0_2)) - a0_1)) - a0_2))), wrap64 ((wrap64 (x109003_1 * (wrap64 (a0_3 + a0_2)))) + (wrap64 (t118 * x109002_1))), wrap64 (x109004_1 * (wrap64 (a0_3 + a0_2)))⟩ : S70)); (case aB => exact (by repeat (first | (with_reducible first | exact HB.out | apply below_alloc | apply pw_below_drewN | apply below_drew1 | refine below_set ?_ GE107.out | refine below_set ?_ GE108.out | refine below_set ?_ GE117.out) | exact HB.out))); (case aF => exact (fun k_ hk => ⟨Kd.freshB (g := gb108) (o := .cells #[.int .i64 (wrap64 ((wrap64 (x109000_1 * (wrap64 (a0_3 + a0_2)))) + x109002_1)), .int .i64 (wrap64 ((wrap64 (x109001_1 * (wrap64 (a0_3 + a0_2)))) + (wrap64 (a0_3 * x109002_1)))), .int .i64 (wrap64 (x109002_1 * (wrap64 ((wrap64 ((wrap64 (a0_3 + a0_2)) - a0_1)) - a0_2)))), .int .i64 (wrap64 ((wrap64 (x109003_1 * (wrap64 (a0_3 + a0_2)))) + (wrap64 (t118 * x109002_1)))), .int .i64 (wrap64 (x109004_1 * (wrap64 (a0_3 + a0_2))))] 70 (0, 0)) (by (with_reducible repeat (first | refine blk_drewN ?_ _ | refine blk_drew ?_ | refine blk_alloc ?_ _)); refine blk_put (cs := #[.int .i64 (wrap64 ((wrap64 (x109000_1 * (wrap64 (a0_3 + a0_2)))) + x109002_1)), .int .i64 (wrap64 ((wrap64 (x109001_1 * (wrap64 (a0_3 + a0_2)))) + (wrap64 (a0_3 * x109002_1)))), .int .i64 (wrap64 (x109002_1 * (wrap64 ((wrap64 ((wrap64 (a0_3 + a0_2)) - a0_1)) - a0_2)))), .int .i64 (wrap64 ((wrap64 (x109003_1 * (wrap64 (a0_3 + a0_2)))) + (wrap64 (t118 * x109002_1)))), .int .i64 x109004_1]) ?_ 4 _ rfl; (with_reducible repeat (first | refine blk_drewN ?_ _ | refine blk_drew ?_ | refine blk_alloc ?_ _)); refine blk_put (cs := #[.int .i64 (wrap64 ((wrap64 (x109000_1 * (wrap64 (a0_3 + a0_2)))) + x109002_1)), .int .i64 (wrap64 ((wrap64 (x109001_1 * (wrap64 (a0_3 + a0_2)))) + (wrap64 (a0_3 * x109002_1)))), .int .i64 (wrap64 (x109002_1 * (wrap64 ((wrap64 ((wrap64 (a0_3 + a0_2)) - a0_1)) - a0_2)))), .int .i64 x109003_1, .int .i64 x109004_1]) ?_ 3 _ rfl; (with_reducible repeat (first | refine blk_drewN ?_ _ | refine blk_drew ?_ | refine blk_alloc ?_ _)); refine blk_put (cs := #[.int .i64 (wrap64 ((wrap64 (x109000_1 * (wrap64 (a0_3 + a0_2)))) + x109002_1)), .int .i64 (wrap64 ((wrap64 (x109001_1 * (wrap64 (a0_3 + a0_2)))) + (wrap64 (a0_3 * x109002_1)))), .int .i64 x109002_1, .int .i64 x109003_1, .int .i64 x109004_1]) ?_ 2 _ rfl; (with_reducible repeat (first | refine blk_drewN ?_ _ | refine blk_drew ?_ | refine blk_alloc ?_ _)); refine blk_put (cs := #[.int .i64 (wrap64 ((wrap64 (x109000_1 * (wrap64 (a0_3 + a0_2)))) + x109002_1)), .int .i64 x109001_1, .int .i64 x109002_1, .int .i64 x109003_1, .int .i64 x109004_1]) ?_ 1 _ rfl; (with_reducible repeat (first | refine blk_drewN ?_ _ | refine blk_drew ?_ | refine blk_alloc ?_ _)); refine blk_put (cs := #[.int .i64 x109000_1, .int .i64 x109001_1, .int .i64 x109002_1, .int .i64 x109003_1, .int .i64 x109004_1]) ?_ 0 _ rfl; (with_reducible repeat (first | refine blk_drewN ?_ _ | refine blk_drew ?_ | refine blk_alloc ?_ _)); refine blk_far ?_ NB108_117.out _; (with_reducible repeat (first | refine blk_drewN ?_ _ | refine blk_drew ?_ | refine blk_alloc ?_ _)); exact BK108.out) k_ hk, Kd.freshB (g := gb117) (o := .cells #[.int .i64 (wrap64 ((wrap64 (x109000_1 * (wrap64 (a0_3 + a0_2)))) + x109002_1)), .int .i64 (wrap64 ((wrap64 (x109001_1 * (wrap64 (a0_3 + a0_2)))) + (wrap64 (a0_3 * x109002_1)))), .int .i64 (wrap64 (x109002_1 * (wrap64 ((wrap64 ((wrap64 (a0_3 + a0_2)) - a0_1)) - a0_2)))), .int .i64 (wrap64 ((wrap64 (x109003_1 * (wrap64 (a0_3 + a0_2)))) + (wrap64 (t118 * x109002_1)))), .int .i64 (wrap64 (x109004_1 * (wrap64 (a0_3 + a0_2))))] 70 (0, 0)) (by (with_reducible repeat (first | refine blk_drewN ?_ _ | refine blk_drew ?_ | refine blk_alloc ?_ _)); refine blk_far ?_ NB117_108.out _; (with_reducible repeat (first | refine blk_drewN ?_ _ | refine blk_drew ?_ | refine blk_alloc ?_ _)); refine blk_far ?_ NB117_108.out _; (with_reducible repeat (first | refine blk_drewN ?_ _ | refine blk_drew ?_ | refine blk_alloc ?_ _)); refine blk_far ?_ NB117_108.out _; (with_reducible repeat (first | refine blk_drewN ?_ _ | refine blk_drew ?_ | refine blk_alloc ?_ _)); refine blk_far ?_ NB117_108.out _; (with_reducible repeat (first | refine blk_drewN ?_ _ | refine blk_drew ?_ | refine blk_alloc ?_ _)); refine blk_far ?_ NB117_108.out _; (with_reducible repeat (first | refine blk_drewN ?_ _ | refine blk_drew ?_ | refine blk_alloc ?_ _)); refine blk_put (cs := #[.int .i64 (wrap64 ((wrap64 (x109000_1 * (wrap64 (a0_3 + a0_2)))) + x109002_1)), .int .i64 (wrap64 ((wrap64 (x109001_1 * (wrap64 (a0_3 + a0_2)))) + (wrap64 (a0_3 * x109002_1)))), .int .i64 (wrap64 (x109002_1 * (wrap64 ((wrap64 ((wrap64 (a0_3 + a0_2)) - a0_1)) - a0_2)))), .int .i64 0, .int .i64 (wrap64 (x109004_1 * (wrap64 (a0_3 + a0_2))))]) ?_ 3 _ rfl; (with_reducible repeat (first | refine blk_drewN ?_ _ | refine blk_drew ?_ | refine blk_alloc ?_ _)); exact BK117.out) k_ hk⟩)); (case aO => exact (by (with_reducible repeat (first | apply Kd.R_alloc | apply Kd.R_drewN | apply Kd.R_drew)); exact Kd.R_mono (Kd.R_far (p := ⟨gb108, 4, none⟩) (Kd.R_far (p := ⟨gb108, 3, none⟩) (Kd.R_far (p := ⟨gb108, 2, none⟩) (Kd.R_far (p := ⟨gb108, 1, none⟩) (Kd.R_far (p := ⟨gb108, 0, none⟩) (Kd.R_far (p := ⟨gb117, 3, none⟩) (Kd.R_mono (Kd.R_mono HO_6.out (fun k_ hk => (⟨hk, hk.2⟩ : _ ∧ k_ ≠ gb117))) (fun k_ hk => (⟨hk, hk.1.1⟩ : _ ∧ k_ ≠ gb108))) (fun _ hk => hk.1.2) (.int .i64 (wrap64 ((wrap64 (x109003_1 * (wrap64 (a0_3 + a0_2)))) + (wrap64 (t118 * x109002_1)))))) (fun _ hk => hk.2) (.int .i64 (wrap64 ((wrap64 (x109000_1 * (wrap64 (a0_3 + a0_2)))) + x109002_1)))) (fun _ hk => hk.2) (.int .i64 (wrap64 ((wrap64 (x109001_1 * (wrap64 (a0_3 + a0_2)))) + (wrap64 (a0_3 * x109002_1)))))) (fun _ hk => hk.2) (.int .i64 (wrap64 (x109002_1 * (wrap64 ((wrap64 ((wrap64 (a0_3 + a0_2)) - a0_1)) - a0_2)))))) (fun _ hk => hk.2) (.int .i64 (wrap64 ((wrap64 (x109003_1 * (wrap64 (a0_3 + a0_2)))) + (wrap64 (t118 * x109002_1)))))) (fun _ hk => hk.2) (.int .i64 (wrap64 (x109004_1 * (wrap64 (a0_3 + a0_2)))))) (fun _ hk => ⟨hk.1.1.1, hk.1.1.2⟩))); (case aS => exact (below_size (by repeat (first | (with_reducible first | exact HB.out | apply below_alloc | apply pw_below_drewN | apply below_drew1 | refine below_set ?_ GE107.out | refine below_set ?_ GE108.out | refine below_set ?_ GE117.out) | exact HB.out)))); (case aL => have := LMc30.out; omega); intro v120 w45 ho hb hg hat; rw [← Ny119.out] at ho; have n0_ := Aside0.mk (blk_grown (g := gb107) (o := .cells #[.int .i64 a0_0, .int .i64 a0_1, .int .i64 a0_2, .int .i64 a0_3] 27 (0, 0)) (by (with_reducible repeat (first | refine blk_drewN ?_ _ | refine blk_drew ?_ | refine blk_alloc ?_ _)); refine blk_far ?_ NB107_108.out _; (with_reducible repeat (first | refine blk_drewN ?_ _ | refine blk_drew ?_ | refine blk_alloc ?_ _)); refine blk_far ?_ NB107_108.out _; (with_reducible repeat (first | refine blk_drewN ?_ _ | refine blk_drew ?_ | refine blk_alloc ?_ _)); refine blk_far ?_ NB107_108.out _; (with_reducible repeat (first | refine blk_drewN ?_ _ | refine blk_drew ?_ | refine blk_alloc ?_ _)); refine blk_far ?_ NB107_108.out _; (with_reducible repeat (first | refine blk_drewN ?_ _ | refine blk_drew ?_ | refine blk_alloc ?_ _)); refine blk_far ?_ NB107_108.out _; (with_reducible repeat (first | refine blk_drewN ?_ _ | refine blk_drew ?_ | refine blk_alloc ?_ _)); refine blk_far ?_ NB107_117.out _; (with_reducible repeat (first | refine blk_drewN ?_ _ | refine blk_drew ?_ | refine blk_alloc ?_ _)); exact BK107.out) hg (Kd.R_ne HO_6.out BK107.out (by decide))); have n1_ := Aside0.mk (blk_grown (g := gb108) (o := .cells #[.int .i64 (wrap64 ((wrap64 (x109000_1 * (wrap64 (a0_3 + a0_2)))) + x109002_1)), .int .i64 (wrap64 ((wrap64 (x109001_1 * (wrap64 (a0_3 + a0_2)))) + (wrap64 (a0_3 * x109002_1)))), .int .i64 (wrap64 (x109002_1 * (wrap64 ((wrap64 ((wrap64 (a0_3 + a0_2)) - a0_1)) - a0_2)))), .int .i64 (wrap64 ((wrap64 (x109003_1 * (wrap64 (a0_3 + a0_2)))) + (wrap64 (t118 * x109002_1)))), .int .i64 (wrap64 (x109004_1 * (wrap64 (a0_3 + a0_2))))] 70 (0, 0)) (by (with_reducible repeat (first | refine blk_drewN ?_ _ | refine blk_drew ?_ | refine blk_alloc ?_ _)); refine blk_put (cs := #[.int .i64 (wrap64 ((wrap64 (x109000_1 * (wrap64 (a0_3 + a0_2)))) + x109002_1)), .int .i64 (wrap64 ((wrap64 (x109001_1 * (wrap64 (a0_3 + a0_2)))) + (wrap64 (a0_3 * x109002_1)))), .int .i64 (wrap64 (x109002_1 * (wrap64 ((wrap64 ((wrap64 (a0_3 + a0_2)) - a0_1)) - a0_2)))), .int .i64 (wrap64 ((wrap64 (x109003_1 * (wrap64 (a0_3 + a0_2)))) + (wrap64 (t118 * x109002_1)))), .int .i64 x109004_1]) ?_ 4 _ rfl; (with_reducible repeat (first | refine blk_drewN ?_ _ | refine blk_drew ?_ | refine blk_alloc ?_ _)); refine blk_put (cs := #[.int .i64 (wrap64 ((wrap64 (x109000_1 * (wrap64 (a0_3 + a0_2)))) + x109002_1)), .int .i64 (wrap64 ((wrap64 (x109001_1 * (wrap64 (a0_3 + a0_2)))) + (wrap64 (a0_3 * x109002_1)))), .int .i64 (wrap64 (x109002_1 * (wrap64 ((wrap64 ((wrap64 (a0_3 + a0_2)) - a0_1)) - a0_2)))), .int .i64 x109003_1, .int .i64 x109004_1]) ?_ 3 _ rfl; (with_reducible repeat (first | refine blk_drewN ?_ _ | refine blk_drew ?_ | refine blk_alloc ?_ _)); refine blk_put (cs := #[.int .i64 (wrap64 ((wrap64 (x109000_1 * (wrap64 (a0_3 + a0_2)))) + x109002_1)), .int .i64 (wrap64 ((wrap64 (x109001_1 * (wrap64 (a0_3 + a0_2)))) + (wrap64 (a0_3 * x109002_1)))), .int .i64 x109002_1, .int .i64 x109003_1, .int .i64 x109004_1]) ?_ 2 _ rfl; (with_reducible repeat (first | refine blk_drewN ?_ _ | refine blk_drew ?_ | refine blk_alloc ?_ _)); refine blk_put (cs := #[.int .i64 (wrap64 ((wrap64 (x109000_1 * (wrap64 (a0_3 + a0_2)))) + x109002_1)), .int .i64 x109001_1, .int .i64 x109002_1, .int .i64 x109003_1, .int .i64 x109004_1]) ?_ 1 _ rfl; (with_reducible repeat (first | refine blk_drewN ?_ _ | refine blk_drew ?_ | refine blk_alloc ?_ _)); refine blk_put (cs := #[.int .i64 x109000_1, .int .i64 x109001_1, .int .i64 x109002_1, .int .i64 x109003_1, .int .i64 x109004_1]) ?_ 0 _ rfl; (with_reducible repeat (first | refine blk_drewN ?_ _ | refine blk_drew ?_ | refine blk_alloc ?_ _)); refine blk_far ?_ NB108_117.out _; (with_reducible repeat (first | refine blk_drewN ?_ _ | refine blk_drew ?_ | refine blk_alloc ?_ _)); exact BK108.out) hg (Kd.R_away HO_6.out (fun _ hk => hk.1))); have n2_ := Aside0.mk (blk_grown (g := gb117) (o := .cells #[.int .i64 (wrap64 ((wrap64 (x109000_1 * (wrap64 (a0_3 + a0_2)))) + x109002_1)), .int .i64 (wrap64 ((wrap64 (x109001_1 * (wrap64 (a0_3 + a0_2)))) + (wrap64 (a0_3 * x109002_1)))), .int .i64 (wrap64 (x109002_1 * (wrap64 ((wrap64 ((wrap64 (a0_3 + a0_2)) - a0_1)) - a0_2)))), .int .i64 (wrap64 ((wrap64 (x109003_1 * (wrap64 (a0_3 + a0_2)))) + (wrap64 (t118 * x109002_1)))), .int .i64 (wrap64 (x109004_1 * (wrap64 (a0_3 + a0_2))))] 70 (0, 0)) (by (with_reducible repeat (first | refine blk_drewN ?_ _ | refine blk_drew ?_ | refine blk_alloc ?_ _)); refine blk_far ?_ NB117_108.out _; (with_reducible repeat (first | refine blk_drewN ?_ _ | refine blk_drew ?_ | refine blk_alloc ?_ _)); refine blk_far ?_ NB117_108.out _; (with_reducible repeat (first | refine blk_drewN ?_ _ | refine blk_drew ?_ | refine blk_alloc ?_ _)); refine blk_far ?_ NB117_108.out _; (with_reducible repeat (first | refine blk_drewN ?_ _ | refine blk_drew ?_ | refine blk_alloc ?_ _)); refine blk_far ?_ NB117_108.out _; (with_reducible repeat (first | refine blk_drewN ?_ _ | refine blk_drew ?_ | refine blk_alloc ?_ _)); refine blk_far ?_ NB117_108.out _; (with_reducible repeat (first | refine blk_drewN ?_ _ | refine blk_drew ?_ | refine blk_alloc ?_ _)); refine blk_put (cs := #[.int .i64 (wrap64 ((wrap64 (x109000_1 * (wrap64 (a0_3 + a0_2)))) + x109002_1)), .int .i64 (wrap64 ((wrap64 (x109001_1 * (wrap64 (a0_3 + a0_2)))) + (wrap64 (a0_3 * x109002_1)))), .int .i64 (wrap64 (x109002_1 * (wrap64 ((wrap64 ((wrap64 (a0_3 + a0_2)) - a0_1)) - a0_2)))), .int .i64 0, .int .i64 (wrap64 (x109004_1 * (wrap64 (a0_3 + a0_2))))]) ?_ 3 _ rfl; (with_reducible repeat (first | refine blk_drewN ?_ _ | refine blk_drew ?_ | refine blk_alloc ?_ _)); exact BK117.out) hg (Kd.R_away HO_6.out (fun _ hk => hk.2))); have n3_ := Aside0.mk (hb); have n4_ := Aside0.mk (ho); clear BK107; clear BK108; clear BK117; clear HB; clear HO_6; have BK107 := n0_; have BK108 := n1_; have BK117 := n2_; have HB := n3_; have HO121 := n4_; clear n0_ n1_ n2_ n3_ n4_; clear ho hb hg hat))
            go_roundg k1
            case measure => have := HK1.out; omega
            case rel => exact ⟨(y119), (wrap64 (x7_1 + 1)), (wrap64 ((wrap64 (x109000_1 * (wrap64 (a0_3 + a0_2)))) + x109002_1)), (wrap64 ((wrap64 (x109001_1 * (wrap64 (a0_3 + a0_2)))) + (wrap64 (a0_3 * x109002_1)))), (wrap64 (x109002_1 * (wrap64 ((wrap64 ((wrap64 (a0_3 + a0_2)) - a0_1)) - a0_2)))), (wrap64 ((wrap64 (x109003_1 * (wrap64 (a0_3 + a0_2)))) + (wrap64 (t118 * x109002_1)))), (wrap64 (x109004_1 * (wrap64 (a0_3 + a0_2)))), (by first | rfl | (simp; done) | (simp [*]; done)), H', ⟨by have := HK1.out; omega⟩, ⟨by (with_reducible repeat (first | apply Kd.R_alloc | apply Kd.R_drewN | apply Kd.R_drew)); exact Kd.R_mono HO121.out (fun _ hk => hk.1)⟩, ⟨by (with_reducible repeat (first | refine blk_drewN ?_ _ | refine blk_drew ?_ | refine blk_alloc ?_ _)); exact BK107.out⟩, ⟨by (with_reducible repeat (first | refine blk_drewN ?_ _ | refine blk_drew ?_ | refine blk_alloc ?_ _)); exact BK108.out⟩, ⟨by repeat (first | (with_reducible first | exact HB.out | apply below_alloc | apply pw_below_drewN | apply below_drew1 | refine below_set ?_ GE107.out | refine below_set ?_ GE108.out | refine below_set ?_ GE117.out) | exact HB.out)⟩⟩
          · rw [if_neg c30] at H
            exact absurd H (by simp)
      · rw [if_neg c10] at H
        have c10b0 : decide (x7_1 ≤ a1) = false := decide_eq_false c10
        clear c10
        obtain rfl := Option.some.inj H
        go_wp2
        go_ret
        exact ⟨_, by first | rfl | (simp [errW_none, errW_some] <;> rfl) | (simp [*, errW_none, errW_some] <;> rfl), by (with_reducible repeat (first | apply Kd.R_alloc | apply Kd.R_drewN | apply Kd.R_drew)); exact Kd.R_mono HO_6.out (fun _ hk => trivial), by repeat (first | (with_reducible first | exact HB.out | apply below_alloc | apply pw_below_drewN | apply below_drew1 | refine below_set ?_ GE107.out | refine below_set ?_ GE108.out) | exact HB.out)⟩

/-! ### spec_l1Abs: function 81 -/
def spec_l1Abs.f (a0 : Int) : Option (Int) := (spec_l1Most.f a0 (wrap64 (-a0))).bind fun t122 => (some t122)
set_option maxHeartbeats 8000000 in
set_option maxRecDepth 100000 in
theorem spec_l1Abs.calls (a0 : Int) (r : Int) (w : World) (h : spec_l1Abs.f a0 = some r) :
    Calls Try.prog 81 #[.int .i64 a0] w fun e w' => e = .returned (.int .i64 r) ∧ Drawn0 w w' := by
  have H : ((spec_l1Most.f a0 (wrap64 (-a0))).bind fun t122 => (some t122)) = some r := h
  clear h
  replace H := Option.bind_eq_some_iff.mp H
  obtain ⟨t122, A20, H⟩ := H
  replace H : (some t122) = some r := H
  have A2 := Aside0.mk A20
  clear A20
  obtain rfl := Option.some.inj H
  go_enter Try.func81, Try.ntmps81
  go_wp2_with (first | ((with_reducible refine gate_callee (f := 80) rfl ?_); refine goesL_ (some 6) rfl rfl Try.func80 (by kernel_rfl) rfl #[.int .i64 a0, .int .i64 (wrap64 (-a0))] rfl (by (try simp only [List.map_toArray, List.map_cons, List.map_nil]); first | done | rfl | (simp only [List.length_drop, List.length_take]; rfl)) ?_; (with_reducible refine (spec_l1Most.calls a0 (wrap64 (-a0)) t122 _ A2.out).mono ?_); rintro e w' ⟨rfl, ⟨nd, rfl⟩⟩; refine ⟨_, rfl, ?_⟩))
  go_ret
  exact ⟨by first | rfl | (simp; done) | (simp [*]; done), by repeat (first | exact Drawn0.refl _ | apply Drawn0.step)⟩

/-! ### spec_meLow: function 48 -/
mutual
def spec_meLow.j0 : Nat → Int → Int → Option (Int × Int)
  | 0, _, _ => none
  | k + 1, x0, x1 => (spec_l1Abs.f x0).bind fun t123 => (spec_meLow.l0 k x0 x1 t123 x1)
def spec_meLow.l0 : Nat → Int → Int → Int → Int → Option (Int × Int)
  | 0, _, _, _, _ => none
  | k + 1, x0, x1, x6, x7 => if x7 > 0 then (if x7 = 0 then (none) else (spec_meLow.l0 k x0 x1 x7 (Int.tmod x6 x7))) else (if x6 = 0 then (none) else (some (wrap64 (Int.tdiv x0 x6), wrap64 (Int.tdiv x1 x6))))
end
def spec_meLow.f (k : Nat) (a0 : Int) (a1 : Int) : Option (Int × Int) := if a1 < 0 then (spec_meLow.j0 k (wrap64 (-a0)) (wrap64 (-a1))) else (spec_meLow.j0 k a0 a1)
theorem spec_meLow.mono_l : ∀ k, (∀ y0 y1, LeO (spec_meLow.j0 k y0 y1) (spec_meLow.j0 (k + 1) y0 y1)) ∧ (∀ y0 y1 y2 y3, LeO (spec_meLow.l0 k y0 y1 y2 y3) (spec_meLow.l0 (k + 1) y0 y1 y2 y3))
  | 0 => ⟨fun _ _ r h => by simp [spec_meLow.j0] at h, fun _ _ _ _ r h => by simp [spec_meLow.l0] at h⟩
  | k + 1 => by
    obtain ⟨ih0, ih1⟩ := spec_meLow.mono_l k
    refine ⟨?_, ?_⟩
    · intro y0 y1
      unfold spec_meLow.j0
      repeat' first
      | (with_reducible exact ih0 _ _)
      | (with_reducible exact ih1 _ _ _ _)
      | (with_reducible exact LeO.refl _)
      | (with_reducible exact LeO.none _)
      | (with_reducible refine LeO.ite ?_ ?_)
      | (with_reducible refine LeO.bind ?_ (fun _ => ?_))
      | exact ih0 _ _
      | exact ih1 _ _ _ _
      | exact LeO.none _
      | refine LeO.ite ?_ ?_
      | refine LeO.bind ?_ (fun _ => ?_)
    · intro y0 y1 y2 y3
      unfold spec_meLow.l0
      repeat' first
      | (with_reducible exact ih0 _ _)
      | (with_reducible exact ih1 _ _ _ _)
      | (with_reducible exact LeO.refl _)
      | (with_reducible exact LeO.none _)
      | (with_reducible refine LeO.ite ?_ ?_)
      | (with_reducible refine LeO.bind ?_ (fun _ => ?_))
      | exact ih0 _ _
      | exact ih1 _ _ _ _
      | exact LeO.none _
      | refine LeO.ite ?_ ?_
      | refine LeO.bind ?_ (fun _ => ?_)
theorem spec_meLow.mono : ∀ a0 a1 k, LeO (spec_meLow.f k a0 a1) (spec_meLow.f (k + 1) a0 a1) := by
  intro a0 a1 k
  obtain ⟨ih0, ih1⟩ := spec_meLow.mono_l k
  unfold spec_meLow.f
  repeat' first
      | (with_reducible exact ih0 _ _)
      | (with_reducible exact ih1 _ _ _ _)
      | (with_reducible exact LeO.refl _)
      | (with_reducible exact LeO.none _)
      | (with_reducible refine LeO.ite ?_ ?_)
      | (with_reducible refine LeO.bind ?_ (fun _ => ?_))
      | exact ih0 _ _
      | exact ih1 _ _ _ _
      | exact LeO.none _
      | refine LeO.ite ?_ ?_
      | refine LeO.bind ?_ (fun _ => ?_)
set_option maxHeartbeats 8000000 in
set_option maxRecDepth 100000 in
theorem spec_meLow.calls (k : Nat) (a0 : Int) (a1 : Int) (r1 : Int) (r2 : Int) (w : World) (h : spec_meLow.f k a0 a1 = some (r1, r2)) :
    Calls Try.prog 48 #[.int .i64 a0, .int .i64 a1] w fun e w' => e = .returned (.tuple #[.int .i64 r1, .int .i64 r2]) ∧ Drawn0 w w' := by
  have H : (if a1 < 0 then (spec_meLow.j0 k (wrap64 (-a0)) (wrap64 (-a1))) else (spec_meLow.j0 k a0 a1)) = some (r1, r2) := h
  clear h
  have HC3 := Aside0.mk H
  clear H
  go_enter Try.func48, Try.ntmps48
  go_upto_if 9 with (fail)
  repeat (go_quiet (fail); go_upto_if 9 with (fail))
  go_cut [0, 1] (fun v0 v1 wc => ∃ (kq : Nat) (x0_2 : Int) (x1_2 : Int), v0 = .int .i64 x0_2 ∧ v1 = .int .i64 x1_2 ∧ Aside0 (spec_meLow.j0 kq x0_2 x1_2 = some (r1, r2)) ∧ Aside0 (kq ≤ k) ∧ Drawn0 w wc)
  case first =>
    have H := HC3.out
    clear HC3
    by_cases c4 : a1 < 0
    · rw [if_pos c4] at H
      have c4b0 : decide (a1 < 0) = true := decide_eq_true c4
      clear c4
      (first | rw [c4b0] | (simp only [i64_w, i32_w]; rw [c4b0]) | skip)
      have H' := Aside0.mk H
      clear H
      go_wp2
      repeat (go_quiet (fail); try go_wp2)
      go_meet
      case rel => exact ⟨_, (wrap64 (-a0)), (wrap64 (-a1)), (by first | rfl | (simp; done) | (simp [*]; done)), (by first | rfl | (simp; done) | (simp [*]; done)), H', ⟨by first | omega | exact Nat.le_refl _⟩, by repeat (first | exact Drawn0.refl _ | apply Drawn0.step)⟩
    · rw [if_neg c4] at H
      have c4b0 : decide (a1 < 0) = false := decide_eq_false c4
      clear c4
      (first | rw [c4b0] | (simp only [i64_w, i32_w]; rw [c4b0]) | skip)
      have H' := Aside0.mk H
      clear H
      go_wp2
      repeat (go_quiet (fail); try go_wp2)
      go_meet
      case rel => exact ⟨_, (a0), (a1), (by first | rfl | (simp; done) | (simp [*]; done)), (by first | rfl | (simp; done) | (simp [*]; done)), H', ⟨by first | omega | exact Nat.le_refl _⟩, by repeat (first | exact Drawn0.refl _ | apply Drawn0.step)⟩
  case rest =>
    clear HC3
    try clear p2
    try clear c4
    try clear c4b0
    obtain ⟨kq, x0_2, x1_2, rfl, rfl, HA, HJ2, ⟨mc2, rfl⟩⟩ := hcut
    cases kq with
    | zero => exact absurd HA.out (by simp [spec_meLow.j0])
    | succ kj2 =>
      have H := HA.out
      clear HA
      simp only [spec_meLow.j0] at H
      replace H := Option.bind_eq_some_iff.mp H
      obtain ⟨t123, A50, H⟩ := H
      replace H : (spec_meLow.l0 kj2 x0_2 x1_2 t123 x1_2) = some (r1, r2) := H
      have A5 := Aside0.mk A50
      clear A50
      have H' := Aside0.mk H
      clear H
      go_wp2_with (first | (go_at_call 81; (with_reducible refine (spec_l1Abs.calls x0_2 t123 _ A5.out).mono ?_); rintro e w' ⟨rfl, ⟨nd, rfl⟩⟩; (try first | exact ⟨rfl, _, World.drewN_drewN _ _ _⟩ | exact ⟨rfl, _, Eq.trans (World.drewN_drewN _ _ _) (congrArg (World.drewN _) (Nat.add_assoc _ _ _))⟩)))
      repeat (go_quiet (first | (go_at_call 81; (with_reducible refine (spec_l1Abs.calls x0_2 t123 _ A5.out).mono ?_); rintro e w' ⟨rfl, ⟨nd, rfl⟩⟩; (try first | exact ⟨rfl, _, World.drewN_drewN _ _ _⟩ | exact ⟨rfl, _, Eq.trans (World.drewN_drewN _ _ _) (congrArg (World.drewN _) (Nat.add_assoc _ _ _))⟩))); try go_wp2_with (first | (go_at_call 81; (with_reducible refine (spec_l1Abs.calls x0_2 t123 _ A5.out).mono ?_); rintro e w' ⟨rfl, ⟨nd, rfl⟩⟩; (try first | exact ⟨rfl, _, World.drewN_drewN _ _ _⟩ | exact ⟨rfl, _, Eq.trans (World.drewN_drewN _ _ _) (congrArg (World.drewN _) (Nat.add_assoc _ _ _))⟩))))
      go_loopg [6, 7] kj2 (fun kq v6 v7 w' => ∃ (x6_2 : Int) (x7_2 : Int), v6 = .int .i64 x6_2 ∧ v7 = .int .i64 x7_2 ∧ Aside0 (spec_meLow.l0 kq x0_2 x1_2 x6_2 x7_2 = some (r1, r2)) ∧ Aside0 (kq ≤ kj2) ∧ Drawn0 w w')
      case atStart => exact ⟨(t123), (x1_2), (by first | rfl | (simp; done) | (simp [*]; done)), (by first | rfl | (simp; done) | (simp [*]; done)), H', ⟨Nat.le_refl _⟩, by repeat (first | exact Drawn0.refl _ | apply Drawn0.step)⟩
      case round =>
        clear H'
        try clear c2
        try clear p2
        try clear c4
        try clear c4b0
        try clear p2
        obtain ⟨x6_2, x7_2, rfl, rfl, HA, HK2, ⟨m2, rfl⟩⟩ := hrel
        cases gk with
        | zero => exact absurd HA.out (by simp [spec_meLow.l0])
        | succ k2 =>
          have H := HA.out
          clear HA
          simp only [spec_meLow.l0] at H
          by_cases c6 : x7_2 > 0
          · rw [if_pos c6] at H
            have c6b0 : decide (0 < x7_2) = true := decide_eq_true c6
            clear c6
            by_cases c7 : x7_2 = 0
            · rw [if_pos c7] at H
              exact absurd H (by simp)
            · rw [if_neg c7] at H
              have c7b0 : (x7_2 == 0) = false := beq_eq_false_iff_ne.mpr c7
              have c7b1 : (x7_2 != 0) = true := bne_iff_ne.mpr c7
              have H' := Aside0.mk H
              clear H
              go_wp2
              repeat (go_quiet (fail); try go_wp2)
              go_roundg k2
              case measure => have := HJ2.out; have := HK2.out; omega
              case rel => exact ⟨(x7_2), (Int.tmod x6_2 x7_2), (by first | rfl | (simp; done) | (simp [*]; done)), (by first | rfl | (simp; done) | (simp [*]; done)), H', ⟨by have := HJ2.out; have := HK2.out; omega⟩, by repeat (first | exact Drawn0.refl _ | apply Drawn0.step)⟩
          · rw [if_neg c6] at H
            have c6b0 : decide (0 < x7_2) = false := decide_eq_false c6
            clear c6
            by_cases c8 : x6_2 = 0
            · rw [if_pos c8] at H
              exact absurd H (by simp)
            · rw [if_neg c8] at H
              have c8b0 : (x6_2 == 0) = false := beq_eq_false_iff_ne.mpr c8
              have c8b1 : (x6_2 != 0) = true := bne_iff_ne.mpr c8
              simp only [Option.some.injEq, Prod.mk.injEq] at H
              obtain ⟨rfl, rfl⟩ := H
              go_wp2
              repeat (go_quiet (fail); try go_wp2)
              go_ret2
              exact ⟨by first | rfl | (simp; done) | (simp [*]; done), by repeat (first | exact Drawn0.refl _ | apply Drawn0.step)⟩


/-! ### spec_DogTurns: function 7 -/
/-- the rows of the turns from one on -/
def spec_DogTurns.l (k : Nat) (T : List S70) : Nat → Int → List (List Int) → Option (List (List Int))
  | 0, _, acc => some acc
  | d + 1, x, acc => (spec_meLow.f k (rd_T70 T x).f0 (rd_T70 T x).f4).bind fun p => (spec_meLow.f k (rd_T70 T x).f1 (rd_T70 T x).f4).bind fun q => spec_DogTurns.l k T d (x + 1) (acc ++ [[p.1, p.2, q.1, q.2]])
def spec_DogTurns.f (k : Nat) (a0_0 : Int) (a0_1 : Int) (a0_2 : Int) (a0_3 : Int) (a1 : Int) : Option (List (List Int) × Bool) := (spec_doGood.f a0_0 a0_1 a0_2 a0_3).bind fun g => if g = true then (spec_l1In.f a1 1 6).bind fun t => (if t = true then (spec_doRun.f k a0_0 a0_1 a0_2 a0_3 a1).bind fun T => (if 2 ≤ T.length ∧ T.length ≤ 1000 then (spec_DogTurns.l k (T.drop 1) (T.drop 1).length 0 []).bind fun o => some (o, true) else none) else some ([], false)) else some ([], false)
theorem spec_DogTurns.mono_l (T : List S70) (k : Nat) : ∀ (d : Nat) (x : Int) (acc : List (List Int)), LeO (spec_DogTurns.l k T d x acc) (spec_DogTurns.l (k + 1) T d x acc)
  | 0, _, _ => LeO.refl _
  | d + 1, x, acc => LeO.bind (spec_meLow.mono _ _ _) (fun _ => LeO.bind (spec_meLow.mono _ _ _) (fun _ => spec_DogTurns.mono_l T k d _ _))
theorem spec_DogTurns.mono : ∀ a0 a1 a2 a3 a4 k, LeO (spec_DogTurns.f k a0 a1 a2 a3 a4) (spec_DogTurns.f (k + 1) a0 a1 a2 a3 a4) := by
  intro a0 a1 a2 a3 a4 k
  unfold spec_DogTurns.f
  exact LeO.bind (LeO.refl _) (fun _ => LeO.ite (LeO.bind (LeO.refl _) (fun _ => LeO.ite (LeO.bind (spec_doRun.mono _ _ _ _ _ _) (fun _ => LeO.ite (LeO.bind (spec_DogTurns.mono_l _ _ _ _ _) (fun _ => LeO.refl _)) (LeO.none _))) (LeO.refl _))) (LeO.refl _))
set_option maxHeartbeats 8000000 in
set_option maxRecDepth 100000 in
theorem spec_DogTurns.calls (k : Nat) (a0_0 : Int) (a0_1 : Int) (a0_2 : Int) (a0_3 : Int) (a1 : Int) (r1 : List (List Int)) (r2 : Bool) (w : World) (h : spec_DogTurns.f k a0_0 a0_1 a0_2 a0_3 a1 = some (r1, r2)) :
    Calls Try.prog 7 #[.agg #[.int .i64 a0_0, .int .i64 a0_1, .int .i64 a0_2, .int .i64 a0_3], .int .i64 a1] w fun e w' => ∃ v0_ : Value, e = .returned (.tuple #[v0_, .bool r2]) ∧ Kd.S (Kd.slice 3 (Kd.int .i64)) 34 w' w.heap.size (fun _ => True) v0_ r1 ∧ Below w.heap.size w w' := by
  have hu26 := Try.underlying27
  have hu41 := Try.underlying70
  unfold spec_DogTurns.f at h
  obtain ⟨g, A1, H⟩ := Option.bind_eq_some_iff.mp h
  clear h
  have HA1 := Aside0.mk A1
  clear A1
  cases g with
  | false =>
    simp only [Bool.false_eq_true, if_false, Option.some.injEq, Prod.mk.injEq] at H
    obtain ⟨rfl, rfl⟩ := H
    go_enter Try.func7, Try.ntmps7
    go_wp2_with (go_at_call 45; refine (spec_doGood.calls a0_0 a0_1 a0_2 a0_3 false _ HA1.out).mono ?_; rintro e w1 ⟨rfl, hb⟩)
    go_ret2
    exact ⟨_, rfl, Kd.S_nil _ _ _ _ _, below_step (below_alloc (Below.refl _ _) _) hb⟩
  | true =>
    rw [if_pos rfl] at H
    obtain ⟨t, A2, H⟩ := Option.bind_eq_some_iff.mp H
    have HA2 := Aside0.mk A2
    clear A2
    cases t with
    | false =>
      simp only [Bool.false_eq_true, if_false, Option.some.injEq, Prod.mk.injEq] at H
      obtain ⟨rfl, rfl⟩ := H
      go_enter Try.func7, Try.ntmps7
      go_wp2_with (first | (go_at_call 45; refine (spec_doGood.calls a0_0 a0_1 a0_2 a0_3 true _ HA1.out).mono ?_; rintro e w1 ⟨rfl, hb⟩) | (go_at_call 46; refine (spec_l1In.calls a1 1 6 false _ HA2.out).mono ?_; rintro e w2 ⟨rfl, ⟨nd, rfl⟩⟩))
      go_ret2
      exact ⟨_, rfl, Kd.S_nil _ _ _ _ _, pw_below_drewN (below_step (below_alloc (Below.refl _ _) _) hb) _⟩
    | true =>
      rw [if_pos rfl] at H
      obtain ⟨t, A3, H⟩ := Option.bind_eq_some_iff.mp H
      have HA := Aside0.mk A3
      clear A3
      by_cases hl : 2 ≤ t.length ∧ t.length ≤ 1000
      case neg => rw [if_neg hl] at H; cases H
      rw [if_pos hl] at H
      obtain ⟨o, H2, e⟩ := Option.bind_eq_some_iff.mp H
      clear H
      simp only [Option.some.injEq, Prod.mk.injEq] at e
      obtain ⟨rfl, rfl⟩ := e
      obtain ⟨t0, T, rfl⟩ : ∃ t0 T, t = t0 :: T := by
        cases t with
        | nil => simp at hl
        | cons t0 T => exact ⟨t0, T, rfl⟩
      have HR := Aside0.mk (show spec_DogTurns.l k T T.length 0 [] = some o from H2)
      clear H2
      simp only [List.length_cons] at hl
      have HT := Aside0.mk hl.2
      go_enter Try.func7, Try.ntmps7
      go_upto_block 0 with (first | (go_at_call 45; refine (spec_doGood.calls a0_0 a0_1 a0_2 a0_3 true _ HA1.out).mono ?_; rintro e w1 ⟨rfl, hb⟩; have HB1 := Aside0.mk (below_step (below_alloc (Below.refl _ _) _) hb); have HE := Aside0.mk hb; have hq0 := (hb.cell (World.block_lt_of_cell? _ _ (show (w.alloc (.cells #[.int .i64 a0_0, .int .i64 a0_1, .int .i64 a0_2, .int .i64 a0_3] 27)).cell? ⟨w.heap.size, 0, none⟩ = some (.int .i64 a0_0) from by simp))).trans (show (w.alloc (.cells #[.int .i64 a0_0, .int .i64 a0_1, .int .i64 a0_2, .int .i64 a0_3] 27)).cell? ⟨w.heap.size, 0, none⟩ = some (.int .i64 a0_0) from by simp); have hq1 := (hb.cell (World.block_lt_of_cell? _ _ (show (w.alloc (.cells #[.int .i64 a0_0, .int .i64 a0_1, .int .i64 a0_2, .int .i64 a0_3] 27)).cell? ⟨w.heap.size, 1, none⟩ = some (.int .i64 a0_1) from by simp))).trans (show (w.alloc (.cells #[.int .i64 a0_0, .int .i64 a0_1, .int .i64 a0_2, .int .i64 a0_3] 27)).cell? ⟨w.heap.size, 1, none⟩ = some (.int .i64 a0_1) from by simp); have hq2 := (hb.cell (World.block_lt_of_cell? _ _ (show (w.alloc (.cells #[.int .i64 a0_0, .int .i64 a0_1, .int .i64 a0_2, .int .i64 a0_3] 27)).cell? ⟨w.heap.size, 2, none⟩ = some (.int .i64 a0_2) from by simp))).trans (show (w.alloc (.cells #[.int .i64 a0_0, .int .i64 a0_1, .int .i64 a0_2, .int .i64 a0_3] 27)).cell? ⟨w.heap.size, 2, none⟩ = some (.int .i64 a0_2) from by simp); have hq3 := (hb.cell (World.block_lt_of_cell? _ _ (show (w.alloc (.cells #[.int .i64 a0_0, .int .i64 a0_1, .int .i64 a0_2, .int .i64 a0_3] 27)).cell? ⟨w.heap.size, 3, none⟩ = some (.int .i64 a0_3) from by simp))).trans (show (w.alloc (.cells #[.int .i64 a0_0, .int .i64 a0_1, .int .i64 a0_2, .int .i64 a0_3] 27)).cell? ⟨w.heap.size, 3, none⟩ = some (.int .i64 a0_3) from by simp); clear hb) | (go_at_call 46; refine (spec_l1In.calls a1 1 6 true _ HA2.out).mono ?_; rintro e w2 ⟨rfl, ⟨nd, rfl⟩⟩) | (go_at_call 47; refine (spec_doRun.calls k a0_0 a0_1 a0_2 a0_3 a1 (t0 :: T) _ HA.out).mono ?_; rintro e w3 ⟨v0, rfl, hR, hb⟩; obtain ⟨A0, c0, rfl, hc0, hC⟩ := Kd.R_reads hR; obtain ⟨ad, rfl, hcells⟩ := hC.2.2 (Nat.succ_pos _); clear hcells; replace hc0 : T.length + 1 ≤ c0 := hc0; have c0lt : 1 < c0 := Nat.lt_of_lt_of_le (by omega) hc0; have HB3 := Aside0.mk (below_step (pw_below_drewN HB1.out _) hb); have HC1 := Aside0.mk hC; clear hR hb hC))
      have HB0 := HB3
      have HC := Aside0.mk (show Kd.C k70 w3 (some ⟨ad.block, ad.off + 5, none⟩) T.length T from by
        have z := Kd.C_drop (m := 1) (c := c0) (show Kd.C k70 w3 (some ad) (t0 :: T).length (t0 :: T) from HC1.out) (by simp) (by simpa using hc0)
        rw [if_neg (by omega)] at z
        exact z)
      clear HC1 HA HB1 HE HB3 hq0 hq1 hq2 hq3 hc0 c0lt HA1 HA2
      go_wp2
      go_loopg [6, 26] T.length (fun gg v6 v26 wr => ∃ (x : Int) (acc : List (List Int)), v26 = .int .i64 x ∧ Aside0 (0 ≤ x) ∧ Aside0 (x + gg = T.length) ∧ Aside0 (acc.length ≤ x.toNat) ∧ Aside0 (spec_DogTurns.l k T gg x acc = some o) ∧ Aside0 (Kd.S (Kd.slice 3 (Kd.int .i64)) 34 wr w3.heap.size (fun _ => True) v6 acc) ∧ Aside0 (Below w3.heap.size w3 wr))
      case atStart => exact ⟨0, [], rfl, ⟨Int.le_refl 0⟩, ⟨by omega⟩, ⟨Nat.le_refl 0⟩, HR, ⟨Kd.S_nil _ _ _ _ _⟩, ⟨Below.refl _ _⟩⟩
      case round =>
        obtain ⟨x, acc, rfl, HX, HG, HL, HN, HO, HB⟩ := hrel
        cases gk with
        | zero =>
          have c5b0 : decide (x < (T.length : Int)) = false := decide_eq_false (by have := HG.out; omega)
          go_wp2
          go_ret2
          have e : acc = o := Option.some.inj HN.out
          subst e
          exact ⟨_, rfl, Kd.S_lower HO.out HB0.out.size, below_step HB0.out HB.out⟩
        | succ d =>
          have c5 : x < (T.length : Int) := by have := HG.out; omega
          have c5b0 : decide (x < (T.length : Int)) = true := decide_eq_true c5
          have c6b0 : decide (0 ≤ x) = true := decide_eq_true HX.out
          obtain ⟨ad1, e1, hx0, hx1, hx2, hx3, hx4⟩ := at_T70 HC.out x HX.out c5
          cases e1
          have ea : (⟨ad.block, ad.off + 5, none⟩ : Addr).add (x.toNat * 5) = ⟨ad.block, ad.off + 5 + x.toNat * 5, none⟩ := by
            unfold Addr.add
            split
            · rename_i h
              rw [h]
            · rfl
          rw [ea] at hx0 hx1 hx2 hx3 hx4
          clear ea
          have p1 : (0 ≤ x) = True := eq_true HX.out
          have q1 : (x < (T.length : Int)) = True := eq_true c5
          clear c5
          replace hx0 : wr.cell? ⟨ad.block, ad.off + 5 + x.toNat * 5, none⟩ = some (.int .i64 (rd_T70 T x).f0) := (HB.out.cell (World.block_lt_of_cell? w3 _ hx0)).trans hx0
          replace hx1 : wr.cell? ⟨ad.block, ad.off + 5 + x.toNat * 5 + 1, none⟩ = some (.int .i64 (rd_T70 T x).f1) := (HB.out.cell (World.block_lt_of_cell? w3 _ hx1)).trans hx1
          replace hx2 : wr.cell? ⟨ad.block, ad.off + 5 + x.toNat * 5 + 2, none⟩ = some (.int .i64 (rd_T70 T x).f2) := (HB.out.cell (World.block_lt_of_cell? w3 _ hx2)).trans hx2
          replace hx3 : wr.cell? ⟨ad.block, ad.off + 5 + x.toNat * 5 + 3, none⟩ = some (.int .i64 (rd_T70 T x).f3) := (HB.out.cell (World.block_lt_of_cell? w3 _ hx3)).trans hx3
          replace hx4 : wr.cell? ⟨ad.block, ad.off + 5 + x.toNat * 5 + 4, none⟩ = some (.int .i64 (rd_T70 T x).f4) := (HB.out.cell (World.block_lt_of_cell? w3 _ hx4)).trans hx4
          have E1 := Aside0.mk (show wrap64 (x + 1) = x + 1 from by have h1 := HG.out; have h2 := HX.out; have h3 := HT.out; unfold wrap64; omega)
          obtain ⟨⟨a, b⟩, F1, HN2⟩ := Option.bind_eq_some_iff.mp (show (spec_meLow.f k (rd_T70 T x).f0 (rd_T70 T x).f4).bind _ = some o from HN.out)
          obtain ⟨⟨p, q⟩, F2, HN3⟩ := Option.bind_eq_some_iff.mp HN2
          have G1 := Aside0.mk F1
          have G2 := Aside0.mk F2
          have HN4 := Aside0.mk (show spec_DogTurns.l k T d (x + 1) (acc ++ [[a, b, p, q]]) = some o from HN3)
          clear F1 F2 HN2 HN3 HN
          generalize rd_T70 T x = y at *
          go_wp2_with (first
            | (go_at_call 48; (with_reducible refine (spec_meLow.calls k y.f0 y.f4 a b _ G1.out).mono ?_); rintro e w4 ⟨rfl, ⟨nd4, rfl⟩⟩)
            | (go_at_call 48; (with_reducible refine (spec_meLow.calls k y.f1 y.f4 p q _ G2.out).mono ?_); rintro e w5 ⟨rfl, ⟨nd5, rfl⟩⟩)
            | ((with_reducible refine gate_dst (N := 51) rfl ?_); refine Kd.R_lit (Kd.int .i64) _ 3 ?hg (N := 51) ?hd (xs := ([a, b, p, q] : List Int)) (inner := [.int .i64 a, .int .i64 b, .int .i64 p, .int .i64 q]) (ok := fun _ => True) (okp := fun _ => True) ?hr ?hp (fun _ hk => hk) trivial (Below.refl _ _) (Nat.le_refl _) (by simp) ?_; (case hd => rfl); (case hg => rfl); (case hr => first | (go_simp; done) | (go_simp; rfl)); (case hp => exact (Reps.one (show Kd.M (Kd.int .i64) _ _ _ a [.int .i64 a] from rfl) (Reps.one (show Kd.M (Kd.int .i64) _ _ _ b [.int .i64 b] from rfl) (Reps.one (show Kd.M (Kd.int .i64) _ _ _ p [.int .i64 p] from rfl) (Reps.one (show Kd.M (Kd.int .i64) _ _ _ q [.int .i64 q] from rfl) (Reps.none _ _)))))); intro v7 w7 ho7 hb7 hg_ hnew_; clear hg_ hnew_; have HB7 := Aside0.mk (below_step (below_step HB.out (w2 := _) (by repeat (first | exact Below.refl _ _ | apply below_alloc | apply pw_below_drewN | apply below_drew1 | refine below_set ?_ (Nat.le_refl _)))) hb7); have HS7 := Aside0.mk (Kd.S_elder' (Kd.S_below HO.out (by repeat (first | exact Below.refl _ _ | apply below_alloc | apply pw_below_drewN | apply below_drew1 | refine below_set ?_ (Nat.le_refl _)))) (Kd.R_base ho7) hb7); have HR7 := Aside0.mk (Kd.R_tight rfl (Kd.R_lower ho7 (below_size (below_step HB.out (by repeat (first | exact Below.refl _ _ | apply below_alloc | apply pw_below_drewN | apply below_drew1 | refine below_set ?_ (Nat.le_refl _))))))); obtain ⟨A7, c7, e7⟩ := Kd.R_slice ho7; subst e7; clear ho7 hb7)
            | ((with_reducible refine gate_builtin (b := .append) (xs := #[.tmp 46, .tmp 52]) rfl ?_); at_builtin; refine Kd.S_append (Kd.slice 3 (Kd.int .i64)) (w0 := w3) w3.heap.size rfl (.tmp 46) (.tmp 52) 24 34 (.slice none 0 0) 24 rfl Try.underlying24 info34 rfl (by decide) (by decide) u6 acc [a, b, p, q] [.slice A7 4 c7] (fun _ => True) (fun k_ => some k_ = (Value.slice A7 4 c7).ownBlock) rfl (by first | (go_simp; done) | (go_simp; rfl)) ?aP ?aQ (fun _ _ => trivial) ?aO ?aB ?aS ?aL ?_; (case aP => exact ⟨_, rfl, HR7.out⟩); (case aQ => exact fun k_ hk => ⟨trivial, fun he => ((Kd.S_R HS7.out).1 k_ he.symm).2 hk⟩); (case aO => exact HS7.out); (case aB => exact HB7.out); (case aS => exact HB7.out.size); (case aL => have h1 := HL.out; have h2 := HG.out; have h3 := HT.out; omega); intro v8 w8 hs8 hb8 hg_ hat_; have HS8 := Aside0.mk hs8; have HB8 := Aside0.mk hb8; clear hg_ hat_ hs8 hb8 HS7 HB7 HR7))
          go_roundg d
          case measure => omega
          case rel => exact ⟨x + 1, acc ++ [[a, b, p, q]], (by first | rfl | rw [E1.out] | (simp [E1.out]; done)), ⟨by have := HX.out; omega⟩, ⟨by have := HG.out; omega⟩, ⟨by have := HL.out; have := HX.out; rw [List.length_append]; simp only [List.length_cons, List.length_nil]; omega⟩, HN4, ⟨by (with_reducible repeat (first | apply Kd.S_alloc | apply Kd.S_drewN | apply Kd.S_drew)); exact HS8.out⟩, ⟨by repeat (first | (with_reducible first | exact HB8.out | apply below_alloc | apply pw_below_drewN | apply below_drew1) | exact HB8.out)⟩⟩

/-! ### laws_toChase: function 8 -/
def laws_toChase.f (a0_0 : Int) (a0_1 : Int) (a0_2 : Int) (a0_3 : Int) : Option (Int × Int × Int × Int) := some (a0_0, a0_1, a0_2, a0_3)
set_option maxHeartbeats 8000000 in
set_option maxRecDepth 100000 in
theorem laws_toChase.calls (a0_0 : Int) (a0_1 : Int) (a0_2 : Int) (a0_3 : Int) (r1 : Int) (r2 : Int) (r3 : Int) (r4 : Int) (w : World) (h : laws_toChase.f a0_0 a0_1 a0_2 a0_3 = some (r1, r2, r3, r4)) :
    Calls Try.prog 8 #[.agg #[.int .i64 a0_0, .int .i64 a0_1, .int .i64 a0_2, .int .i64 a0_3]] w fun e w' => e = .returned (.agg #[.int .i64 r1, .int .i64 r2, .int .i64 r3, .int .i64 r4]) ∧ Below w.heap.size w w' := by
  have hu23 := Try.underlying23
  have hu27 := Try.underlying27
  have HB := Aside0.mk (Below.refl w.heap.size w)
  have H : (some (a0_0, a0_1, a0_2, a0_3)) = some (r1, r2, r3, r4) := h
  clear h
  simp only [Option.some.injEq, Prod.mk.injEq] at H
  obtain ⟨rfl, rfl, rfl, rfl⟩ := H
  go_enter Try.func8, Try.ntmps8
  go_wp2_with (first | ((with_reducible refine gate_dst (N := 1) rfl ?_); refine box_event ?hg (N := 1) ?hd (cs := #[.int .i64 a0_0, .int .i64 a0_1, .int .i64 a0_2, .int .i64 a0_3]) (t := 23) ?hr ?_; (case hd => rfl); (case hg => rfl); (case hr => first | (go_simp; done) | (go_simp; rfl)); intro gb124 hg w2 hbox hb; have n0_ := Aside0.mk (below_step (by repeat (first | (with_reducible first | exact HB.out | apply below_alloc | apply pw_below_drewN | apply below_drew1) | exact HB.out)) hb); have n1_ := Aside0.mk (hbox); have n2_ := Aside0.mk ((by rw [hg]; exact (below_size (by repeat (first | (with_reducible first | exact HB.out | apply below_alloc | apply pw_below_drewN | apply below_drew1) | exact HB.out))) : w.heap.size ≤ gb124)); have n3_ := Aside0.mk ((by rw [hg]; exact (below_size (by repeat (first | (with_reducible first | exact HB.out | apply below_alloc | apply pw_below_drewN | apply below_drew1) | exact HB.out))) : w.heap.size ≤ gb124)); clear HB; have HB := n0_; have BK124 := n1_; have GW124 := n2_; have GE124 := n3_; clear n0_ n1_ n2_ n3_; clear hb hbox hg) | ((with_reducible refine gate_dst (N := 2) rfl ?_); refine box_event ?hg (N := 2) ?hd (cs := #[.int .i64 0, .int .i64 0, .int .i64 0, .int .i64 0]) (t := 27) ?hr ?_; (case hd => rfl); (case hg => rfl); (case hr => first | (go_simp; done) | (go_simp; rfl)); intro gb125 hg w3 hbox hb; have n0_ := Aside0.mk (blk_below (g := gb124) (o := .cells #[.int .i64 a0_0, .int .i64 a0_1, .int .i64 a0_2, .int .i64 a0_3] 23 (0, 0)) (by (with_reducible repeat (first | refine blk_drewN ?_ _ | refine blk_drew ?_ | refine blk_alloc ?_ _)); exact BK124.out) hb); have n1_ := Aside0.mk (below_step (by repeat (first | (with_reducible first | exact HB.out | apply below_alloc | apply pw_below_drewN | apply below_drew1 | refine below_set ?_ GE124.out) | exact HB.out)) hb); have n2_ := Aside0.mk (hbox); have n3_ := Aside0.mk ((by rw [hg]; exact (below_size (by repeat (first | (with_reducible first | exact HB.out | apply below_alloc | apply pw_below_drewN | apply below_drew1 | refine below_set ?_ GE124.out) | exact HB.out))) : w.heap.size ≤ gb125)); have n4_ := Aside0.mk ((by rw [hg]; exact (below_size (by repeat (first | (with_reducible first | exact HB.out | apply below_alloc | apply pw_below_drewN | apply below_drew1 | refine below_set ?_ GE124.out) | exact HB.out))) : w.heap.size ≤ gb125)); have n5_ := Aside0.mk ((by rw [hg]; exact Nat.ne_of_lt (blk_lt (g := gb124) (o := .cells #[.int .i64 a0_0, .int .i64 a0_1, .int .i64 a0_2, .int .i64 a0_3] 23 (0, 0)) (by (with_reducible repeat (first | refine blk_drewN ?_ _ | refine blk_drew ?_ | refine blk_alloc ?_ _)); exact BK124.out)) : gb124 ≠ gb125)); have n6_ := Aside0.mk ((by rw [hg]; exact Nat.ne_of_gt (blk_lt (g := gb124) (o := .cells #[.int .i64 a0_0, .int .i64 a0_1, .int .i64 a0_2, .int .i64 a0_3] 23 (0, 0)) (by (with_reducible repeat (first | refine blk_drewN ?_ _ | refine blk_drew ?_ | refine blk_alloc ?_ _)); exact BK124.out)) : gb125 ≠ gb124)); clear BK124; clear HB; have BK124 := n0_; have HB := n1_; have BK125 := n2_; have GW125 := n3_; have GE125 := n4_; have NB124_125 := n5_; have NB125_124 := n6_; clear n0_ n1_ n2_ n3_ n4_ n5_ n6_; clear hb hbox hg) | ((with_reducible refine gate_dst (N := 3) rfl ?_); refine box_event ?hg (N := 3) ?hd (cs := #[.int .i64 0, .int .i64 0, .int .i64 0, .int .i64 0]) (t := 27) ?hr ?_; (case hd => rfl); (case hg => rfl); (case hr => first | (go_simp; done) | (go_simp; rfl)); intro gb126 hg w4 hbox hb; have n0_ := Aside0.mk (blk_below (g := gb124) (o := .cells #[.int .i64 a0_0, .int .i64 a0_1, .int .i64 a0_2, .int .i64 a0_3] 23 (0, 0)) (by (with_reducible repeat (first | refine blk_drewN ?_ _ | refine blk_drew ?_ | refine blk_alloc ?_ _)); exact BK124.out) hb); have n1_ := Aside0.mk (blk_below (g := gb125) (o := .cells #[.int .i64 0, .int .i64 0, .int .i64 0, .int .i64 0] 27 (0, 0)) (by (with_reducible repeat (first | refine blk_drewN ?_ _ | refine blk_drew ?_ | refine blk_alloc ?_ _)); exact BK125.out) hb); have n2_ := Aside0.mk (below_step (by repeat (first | (with_reducible first | exact HB.out | apply below_alloc | apply pw_below_drewN | apply below_drew1 | refine below_set ?_ GE124.out | refine below_set ?_ GE125.out) | exact HB.out)) hb); have n3_ := Aside0.mk (hbox); have n4_ := Aside0.mk ((by rw [hg]; exact (below_size (by repeat (first | (with_reducible first | exact HB.out | apply below_alloc | apply pw_below_drewN | apply below_drew1 | refine below_set ?_ GE124.out | refine below_set ?_ GE125.out) | exact HB.out))) : w.heap.size ≤ gb126)); have n5_ := Aside0.mk ((by rw [hg]; exact (below_size (by repeat (first | (with_reducible first | exact HB.out | apply below_alloc | apply pw_below_drewN | apply below_drew1 | refine below_set ?_ GE124.out | refine below_set ?_ GE125.out) | exact HB.out))) : w.heap.size ≤ gb126)); have n6_ := Aside0.mk ((by rw [hg]; exact Nat.ne_of_lt (blk_lt (g := gb124) (o := .cells #[.int .i64 a0_0, .int .i64 a0_1, .int .i64 a0_2, .int .i64 a0_3] 23 (0, 0)) (by (with_reducible repeat (first | refine blk_drewN ?_ _ | refine blk_drew ?_ | refine blk_alloc ?_ _)); exact BK124.out)) : gb124 ≠ gb126)); have n7_ := Aside0.mk ((by rw [hg]; exact Nat.ne_of_gt (blk_lt (g := gb124) (o := .cells #[.int .i64 a0_0, .int .i64 a0_1, .int .i64 a0_2, .int .i64 a0_3] 23 (0, 0)) (by (with_reducible repeat (first | refine blk_drewN ?_ _ | refine blk_drew ?_ | refine blk_alloc ?_ _)); exact BK124.out)) : gb126 ≠ gb124)); have n8_ := Aside0.mk ((by rw [hg]; exact Nat.ne_of_lt (blk_lt (g := gb125) (o := .cells #[.int .i64 0, .int .i64 0, .int .i64 0, .int .i64 0] 27 (0, 0)) (by (with_reducible repeat (first | refine blk_drewN ?_ _ | refine blk_drew ?_ | refine blk_alloc ?_ _)); exact BK125.out)) : gb125 ≠ gb126)); have n9_ := Aside0.mk ((by rw [hg]; exact Nat.ne_of_gt (blk_lt (g := gb125) (o := .cells #[.int .i64 0, .int .i64 0, .int .i64 0, .int .i64 0] 27 (0, 0)) (by (with_reducible repeat (first | refine blk_drewN ?_ _ | refine blk_drew ?_ | refine blk_alloc ?_ _)); exact BK125.out)) : gb126 ≠ gb125)); clear BK124; clear BK125; clear HB; have BK124 := n0_; have BK125 := n1_; have HB := n2_; have BK126 := n3_; have GW126 := n4_; have GE126 := n5_; have NB124_126 := n6_; have NB126_124 := n7_; have NB125_126 := n8_; have NB126_125 := n9_; clear n0_ n1_ n2_ n3_ n4_ n5_ n6_ n7_ n8_ n9_; clear hb hbox hg; have hnb5 := NB124_125.out; have hnc5 := NB125_124.out; have hnb6 := NB124_126.out; have hnc6 := NB126_124.out; have hcz7_0 : w4.cell? ⟨gb124, 0, none⟩ = some (.int .i64 a0_0) := (blk_cell BK124.out 0).trans rfl; have hcz7_1 : w4.cell? ⟨gb124, 1, none⟩ = some (.int .i64 a0_1) := (blk_cell BK124.out 1).trans rfl; have hcz7_2 : w4.cell? ⟨gb124, 2, none⟩ = some (.int .i64 a0_2) := (blk_cell BK124.out 2).trans rfl; have hcz7_3 : w4.cell? ⟨gb124, 3, none⟩ = some (.int .i64 a0_3) := (blk_cell BK124.out 3).trans rfl; have hfz7_0 := blk_frozen BK124.out 0; have hfz7_1 := blk_frozen BK124.out 1; have hfz7_2 := blk_frozen BK124.out 2; have hfz7_3 := blk_frozen BK124.out 3; have hnb8 := NB126_125.out; have hnc8 := NB125_126.out; have hcz9_0 : w4.cell? ⟨gb126, 0, none⟩ = some (.int .i64 0) := (blk_cell BK126.out 0).trans rfl; have hcz9_1 : w4.cell? ⟨gb126, 1, none⟩ = some (.int .i64 0) := (blk_cell BK126.out 1).trans rfl; have hcz9_2 : w4.cell? ⟨gb126, 2, none⟩ = some (.int .i64 0) := (blk_cell BK126.out 2).trans rfl; have hcz9_3 : w4.cell? ⟨gb126, 3, none⟩ = some (.int .i64 0) := (blk_cell BK126.out 3).trans rfl; have hfz9_0 := blk_frozen BK126.out 0; have hfz9_1 := blk_frozen BK126.out 1; have hfz9_2 := blk_frozen BK126.out 2; have hfz9_3 := blk_frozen BK126.out 3; have hcz10_0 : w4.cell? ⟨gb125, 0, none⟩ = some (.int .i64 0) := (blk_cell BK125.out 0).trans rfl; have hcz10_1 : w4.cell? ⟨gb125, 1, none⟩ = some (.int .i64 0) := (blk_cell BK125.out 1).trans rfl; have hcz10_2 : w4.cell? ⟨gb125, 2, none⟩ = some (.int .i64 0) := (blk_cell BK125.out 2).trans rfl; have hcz10_3 : w4.cell? ⟨gb125, 3, none⟩ = some (.int .i64 0) := (blk_cell BK125.out 3).trans rfl; have hfz10_0 := blk_frozen BK125.out 0; have hfz10_1 := blk_frozen BK125.out 1; have hfz10_2 := blk_frozen BK125.out 2; have hfz10_3 := blk_frozen BK125.out 3))
  refine bodyPost_ret (results_cell_row rfl _ _ gb125 27 #[.int .i64 a0_0, .int .i64 a0_1, .int .i64 a0_2, .int .i64 a0_3] (0, 0) _ rfl (by (with_reducible repeat (first | refine blk_drewN ?_ _ | refine blk_drew ?_ | refine blk_alloc ?_ _)); refine blk_put (cs := #[.int .i64 a0_0, .int .i64 a0_1, .int .i64 a0_2, .int .i64 0]) ?_ 3 _ rfl; (with_reducible repeat (first | refine blk_drewN ?_ _ | refine blk_drew ?_ | refine blk_alloc ?_ _)); refine blk_put (cs := #[.int .i64 a0_0, .int .i64 a0_1, .int .i64 0, .int .i64 0]) ?_ 2 _ rfl; (with_reducible repeat (first | refine blk_drewN ?_ _ | refine blk_drew ?_ | refine blk_alloc ?_ _)); refine blk_put (cs := #[.int .i64 a0_0, .int .i64 0, .int .i64 0, .int .i64 0]) ?_ 1 _ rfl; (with_reducible repeat (first | refine blk_drewN ?_ _ | refine blk_drew ?_ | refine blk_alloc ?_ _)); refine blk_put (cs := #[.int .i64 0, .int .i64 0, .int .i64 0, .int .i64 0]) ?_ 0 _ rfl; (with_reducible repeat (first | refine blk_drewN ?_ _ | refine blk_drew ?_ | refine blk_alloc ?_ _)); refine blk_far ?_ NB125_126.out _; (with_reducible repeat (first | refine blk_drewN ?_ _ | refine blk_drew ?_ | refine blk_alloc ?_ _)); refine blk_far ?_ NB125_126.out _; (with_reducible repeat (first | refine blk_drewN ?_ _ | refine blk_drew ?_ | refine blk_alloc ?_ _)); refine blk_far ?_ NB125_126.out _; (with_reducible repeat (first | refine blk_drewN ?_ _ | refine blk_drew ?_ | refine blk_alloc ?_ _)); refine blk_far ?_ NB125_126.out _; (with_reducible repeat (first | refine blk_drewN ?_ _ | refine blk_drew ?_ | refine blk_alloc ?_ _)); exact BK125.out) Try.underlying27 rfl (by kernel_rfl)) rfl ?_
  exact ⟨by first | rfl | (simp [errW_none, errW_some] <;> rfl) | (simp [*, errW_none, errW_some] <;> rfl), by repeat (first | (with_reducible first | exact HB.out | apply below_alloc | apply pw_below_drewN | apply below_drew1 | refine below_set ?_ GE124.out | refine below_set ?_ GE125.out | refine below_set ?_ GE126.out) | exact HB.out)⟩

/-! ### impl_within: function 65 -/
def impl_within.f (a0 : Int) (a1 : Int) (a2 : Int) : Option (Bool) := if a0 ≥ a1 then (some (decide (a0 ≤ a2))) else (some false)
set_option maxHeartbeats 8000000 in
set_option maxRecDepth 100000 in
theorem impl_within.calls (a0 : Int) (a1 : Int) (a2 : Int) (r : Bool) (w : World) (h : impl_within.f a0 a1 a2 = some r) :
    Calls Try.prog 65 #[.int .i64 a0, .int .i64 a1, .int .i64 a2] w fun e w' => e = .returned (.bool r) ∧ Drawn0 w w' := by
  have H : (if a0 ≥ a1 then (some (decide (a0 ≤ a2))) else (some false)) = some r := h
  clear h
  by_cases c4 : a0 ≥ a1
  · rw [if_pos c4] at H
    have c4b0 : decide (a1 ≤ a0) = true := decide_eq_true c4
    clear c4
    obtain rfl := Option.some.inj H
    go_enter Try.func65, Try.ntmps65
    go_wp2
    go_ret
    exact ⟨by first | rfl | (simp; done) | (simp [*]; done), by repeat (first | exact Drawn0.refl _ | apply Drawn0.step)⟩
  · rw [if_neg c4] at H
    have c4b0 : decide (a1 ≤ a0) = false := decide_eq_false c4
    clear c4
    obtain rfl := Option.some.inj H
    go_enter Try.func65, Try.ntmps65
    go_wp2
    go_ret
    exact ⟨by first | rfl | (simp; done) | (simp [*]; done), by repeat (first | exact Drawn0.refl _ | apply Drawn0.step)⟩

end Go.Proofs.Ytgobnhoblofglaa.PFnExactDogTurns
