-- Laid by a program of this session's (wip/gen/printp.sh): the functions that the law reaches, each with its walk.
import Derived.Test.YtigjjeecoplpnaaPFnExactDogPlacex0
import Derived.Test.YtigjjeecoplpnaaPFnExactDogPlacex1
namespace Go.Proofs.Ytigjjeecoplpnaa.PFnExactDogPlace
open Go.RowKit Go.Proofs.YtigjjeecoplpnaaW.PrintWords Go.Proofs.YtigjjeecoplpnaaW.PrintLast Go.Proofs.YtigjjeecoplpnaaW.PrintMore
attribute [local go_sem] max2_int min2_int max_two min_two max_three min_three max_four min_four   -- for this text's walks alone
set_option linter.unusedVariables false
set_option linter.unusedSimpArgs false

/-! ### spec_doRun: function 24 -/
def spec_doRun.l0 : Nat → Int → List (S41) → Int → Int → Int → Int → Int → Int → Int → Int → Int → Int → Option ((List (S41)))
  | 0, _, _, _, _, _, _, _, _, _, _, _, _ => none
  | k + 1, x1, x6, x7, x111000, x111001, x111002, x111003, x112000, x112001, x112002, x112003, x112004 => if x7 ≤ x1 then (if (Int.tmod x7 2) = 0 then ((spec_l1Most.f 0 (wrap64 (-x111003))).bind fun t116 => (if x6.length < 3518437208883 then (spec_doRun.l0 k x1 (x6 ++ [(⟨wrap64 ((wrap64 (x112000 * (wrap64 (x111003 + x111001)))) + x112002), wrap64 ((wrap64 (x112001 * (wrap64 (x111003 + x111001)))) + (wrap64 ((wrap64 (-x111003)) * x112002))), wrap64 (x112002 * (wrap64 ((wrap64 ((wrap64 (x111003 + x111001)) - x111001)) - x111002))), wrap64 ((wrap64 (x112003 * (wrap64 (x111003 + x111001)))) + (wrap64 (t116 * x112002))), wrap64 (x112004 * (wrap64 (x111003 + x111001)))⟩ : S41)]) (wrap64 (x7 + 1)) x111000 x111001 x111002 x111003 (wrap64 ((wrap64 (x112000 * (wrap64 (x111003 + x111001)))) + x112002)) (wrap64 ((wrap64 (x112001 * (wrap64 (x111003 + x111001)))) + (wrap64 ((wrap64 (-x111003)) * x112002)))) (wrap64 (x112002 * (wrap64 ((wrap64 ((wrap64 (x111003 + x111001)) - x111001)) - x111002)))) (wrap64 ((wrap64 (x112003 * (wrap64 (x111003 + x111001)))) + (wrap64 (t116 * x112002)))) (wrap64 (x112004 * (wrap64 (x111003 + x111001))))) else (none))) else ((spec_l1Most.f 0 x111003).bind fun t121 => (if x6.length < 3518437208883 then (spec_doRun.l0 k x1 (x6 ++ [(⟨wrap64 ((wrap64 (x112000 * (wrap64 (x111003 + x111002)))) + x112002), wrap64 ((wrap64 (x112001 * (wrap64 (x111003 + x111002)))) + (wrap64 (x111003 * x112002))), wrap64 (x112002 * (wrap64 ((wrap64 ((wrap64 (x111003 + x111002)) - x111001)) - x111002))), wrap64 ((wrap64 (x112003 * (wrap64 (x111003 + x111002)))) + (wrap64 (t121 * x112002))), wrap64 (x112004 * (wrap64 (x111003 + x111002)))⟩ : S41)]) (wrap64 (x7 + 1)) x111000 x111001 x111002 x111003 (wrap64 ((wrap64 (x112000 * (wrap64 (x111003 + x111002)))) + x112002)) (wrap64 ((wrap64 (x112001 * (wrap64 (x111003 + x111002)))) + (wrap64 (x111003 * x112002)))) (wrap64 (x112002 * (wrap64 ((wrap64 ((wrap64 (x111003 + x111002)) - x111001)) - x111002)))) (wrap64 ((wrap64 (x112003 * (wrap64 (x111003 + x111002)))) + (wrap64 (t121 * x112002)))) (wrap64 (x112004 * (wrap64 (x111003 + x111002))))) else (none)))) else (some x6)
def spec_doRun.f (k : Nat) (a0_0 : Int) (a0_1 : Int) (a0_2 : Int) (a0_3 : Int) (a1 : Int) : Option ((List (S41))) := spec_doRun.l0 k a1 (([(⟨0, 0, a0_0, 0, 1⟩ : S41)] : List (S41))) 1 a0_0 a0_1 a0_2 a0_3 0 0 a0_0 0 1
theorem spec_doRun.mono_l : ∀ k, (∀ y0 y1 y2 y3 y4 y5 y6 y7 y8 y9 y10 y11, LeO (spec_doRun.l0 k y0 y1 y2 y3 y4 y5 y6 y7 y8 y9 y10 y11) (spec_doRun.l0 (k + 1) y0 y1 y2 y3 y4 y5 y6 y7 y8 y9 y10 y11))
  | 0 => fun _ _ _ _ _ _ _ _ _ _ _ _ r h => by simp [spec_doRun.l0] at h
  | k + 1 => by
    have ih0 := spec_doRun.mono_l k
    · intro y0 y1 y2 y3 y4 y5 y6 y7 y8 y9 y10 y11
      unfold spec_doRun.l0
      repeat' first
      | (with_reducible exact ih0 _ _ _ _ _ _ _ _ _ _ _ _)
      | (with_reducible exact LeO.refl _)
      | (with_reducible exact LeO.none _)
      | (with_reducible refine LeO.ite ?_ ?_)
      | (with_reducible refine LeO.bind ?_ (fun _ => ?_))
      | exact ih0 _ _ _ _ _ _ _ _ _ _ _ _
      | exact LeO.none _
      | refine LeO.ite ?_ ?_
      | refine LeO.bind ?_ (fun _ => ?_)
theorem spec_doRun.mono : ∀ a0 a1 a2 a3 a4 k, LeO (spec_doRun.f k a0 a1 a2 a3 a4) (spec_doRun.f (k + 1) a0 a1 a2 a3 a4) := by
  intro a0 a1 a2 a3 a4 k
  have ih0 := spec_doRun.mono_l k
  unfold spec_doRun.f
  repeat' first
      | (with_reducible exact ih0 _ _ _ _ _ _ _ _ _ _ _ _)
      | (with_reducible exact LeO.refl _)
      | (with_reducible exact LeO.none _)
      | (with_reducible refine LeO.ite ?_ ?_)
      | (with_reducible refine LeO.bind ?_ (fun _ => ?_))
      | exact ih0 _ _ _ _ _ _ _ _ _ _ _ _
      | exact LeO.none _
      | refine LeO.ite ?_ ?_
      | refine LeO.bind ?_ (fun _ => ?_)
def spec_doRun.T15 : Bool × List (List Nat × List Nat) := (true, [([], []), ([0], [0]), ([], []), ([1, 2], [1, 2]), ([], []), ([4], [4]), ([], []), ([6], [6]), ([5, 7], [5, 7]), ([3, 8], [3, 8]), ([0, 1, 2, 3, 4, 5, 6, 7, 8, 9], []), ([10, 9, 5, 0, 1, 2, 3, 4, 5, 6, 7, 8, 9], [9, 10])])
def spec_doRun.B15 : List Nat := [0, 1, 0, 7, 0, 16, 0, 64, 240, 511, 1023, 2047]
theorem spec_doRun.tab15 : rtab .any (opsOf Try.f24 15) = spec_doRun.T15 := by kernel_rfl
theorem spec_doRun.bits15 : waitsOk spec_doRun.T15.2 spec_doRun.B15 = true := by kernel_rfl
set_option maxHeartbeats 8000000 in
set_option maxRecDepth 100000 in
theorem spec_doRun.calls (k : Nat) (a0_0 : Int) (a0_1 : Int) (a0_2 : Int) (a0_3 : Int) (a1 : Int) (r : List (S41)) (w : World) (h : spec_doRun.f k a0_0 a0_1 a0_2 a0_3 a1 = some r) :
    Calls Try.prog 24 #[.agg #[.int .i64 a0_0, .int .i64 a0_1, .int .i64 a0_2, .int .i64 a0_3], .int .i64 a1] w fun e w' => ∃ v0_ : Value, e = .returned (v0_) ∧ Kd.R k41 41 w' w.heap.size (fun _ => True) v0_ r ∧ Below w.heap.size w w' := by
  have hu26 := Try.underlying26
  have hu41 := Try.underlying41
  have HB := Aside0.mk (Below.refl w.heap.size w)
  have H : (spec_doRun.l0 k a1 (([(⟨0, 0, a0_0, 0, 1⟩ : S41)] : List (S41))) 1 a0_0 a0_1 a0_2 a0_3 0 0 a0_0 0 1) = some r := h
  clear h
  obtain ⟨y112, hy112⟩ : ∃ y_ : List (S41), y_ = (([(⟨0, 0, a0_0, 0, 1⟩ : S41)] : List (S41))) := ⟨_, rfl⟩
  replace H : (spec_doRun.l0 k a1 y112 1 a0_0 a0_1 a0_2 a0_3 0 0 a0_0 0 1) = some r := by first | (rw [hy112]; with_reducible exact H) | (have H2_ := (Option.bind_some _ _).symm.trans H; rw [hy112]; with_reducible exact H2_) | (have H2_ := (Option.bind_some _ _).symm.trans H; with_reducible exact H2_) | with_reducible exact H | (rw [hy112]; exact H) | exact H
  have Ny112 := Aside0.mk hy112
  clear hy112
  have H' := Aside0.mk H
  clear H
  go_enter Try.func24, Try.ntmps24
  go_wp2_with (first | ((with_reducible refine gate_dst (N := 2) rfl ?_); refine box_event ?hg (N := 2) ?hd (cs := #[.int .i64 a0_0, .int .i64 a0_1, .int .i64 a0_2, .int .i64 a0_3]) (t := 26) ?hr ?_; (case hd => rfl); (case hg => rfl); (case hr => first | (go_simp; done) | (go_simp; rfl)); intro gb110 hg w3 hbox hb; have n0_ := Aside0.mk (below_step (by repeat (first | (with_reducible first | exact HB.out | apply below_alloc | apply pw_below_drewN | apply below_drew1) | exact HB.out)) hb); have n1_ := Aside0.mk (hbox); have n2_ := Aside0.mk ((by rw [hg]; exact (below_size (by repeat (first | (with_reducible first | exact HB.out | apply below_alloc | apply pw_below_drewN | apply below_drew1) | exact HB.out))) : w.heap.size ≤ gb110)); have n3_ := Aside0.mk ((by rw [hg]; exact (below_size (by repeat (first | (with_reducible first | exact HB.out | apply below_alloc | apply pw_below_drewN | apply below_drew1) | exact HB.out))) : w.heap.size ≤ gb110)); clear HB; have HB := n0_; have BK110 := n1_; have GW110 := n2_; have GE110 := n3_; clear n0_ n1_ n2_ n3_; clear hb hbox hg; have hcz4_0 : w3.cell? ⟨gb110, 0, none⟩ = some (.int .i64 a0_0) := (blk_cell BK110.out 0).trans rfl; have hcz4_1 : w3.cell? ⟨gb110, 1, none⟩ = some (.int .i64 a0_1) := (blk_cell BK110.out 1).trans rfl; have hcz4_2 : w3.cell? ⟨gb110, 2, none⟩ = some (.int .i64 a0_2) := (blk_cell BK110.out 2).trans rfl; have hcz4_3 : w3.cell? ⟨gb110, 3, none⟩ = some (.int .i64 a0_3) := (blk_cell BK110.out 3).trans rfl; have hfz4_0 := blk_frozen BK110.out 0; have hfz4_1 := blk_frozen BK110.out 1; have hfz4_2 := blk_frozen BK110.out 2; have hfz4_3 := blk_frozen BK110.out 3) | ((with_reducible refine gate_dst (N := 5) rfl ?_); refine box_event ?hg (N := 5) ?hd (cs := #[.int .i64 0, .int .i64 0, .int .i64 0, .int .i64 0, .int .i64 0]) (t := 41) ?hr ?_; (case hd => rfl); (case hg => rfl); (case hr => first | (go_simp; done) | (go_simp; rfl)); intro gb111 hg w5 hbox hb; have n0_ := Aside0.mk (blk_below (g := gb110) (o := .cells #[.int .i64 a0_0, .int .i64 a0_1, .int .i64 a0_2, .int .i64 a0_3] 26 (0, 0)) (by (with_reducible repeat (first | refine blk_drewN ?_ _ | refine blk_drew ?_ | refine blk_alloc ?_ _)); exact BK110.out) hb); have n1_ := Aside0.mk (below_step (by repeat (first | (with_reducible first | exact HB.out | apply below_alloc | apply pw_below_drewN | apply below_drew1 | refine below_set ?_ GE110.out) | exact HB.out)) hb); have n2_ := Aside0.mk (hbox); have n3_ := Aside0.mk ((by rw [hg]; exact (below_size (by repeat (first | (with_reducible first | exact HB.out | apply below_alloc | apply pw_below_drewN | apply below_drew1 | refine below_set ?_ GE110.out) | exact HB.out))) : w.heap.size ≤ gb111)); have n4_ := Aside0.mk ((by rw [hg]; exact (below_size (by repeat (first | (with_reducible first | exact HB.out | apply below_alloc | apply pw_below_drewN | apply below_drew1 | refine below_set ?_ GE110.out) | exact HB.out))) : w.heap.size ≤ gb111)); have n5_ := Aside0.mk ((by rw [hg]; exact Nat.ne_of_lt (blk_lt (g := gb110) (o := .cells #[.int .i64 a0_0, .int .i64 a0_1, .int .i64 a0_2, .int .i64 a0_3] 26 (0, 0)) (by (with_reducible repeat (first | refine blk_drewN ?_ _ | refine blk_drew ?_ | refine blk_alloc ?_ _)); exact BK110.out)) : gb110 ≠ gb111)); have n6_ := Aside0.mk ((by rw [hg]; exact Nat.ne_of_gt (blk_lt (g := gb110) (o := .cells #[.int .i64 a0_0, .int .i64 a0_1, .int .i64 a0_2, .int .i64 a0_3] 26 (0, 0)) (by (with_reducible repeat (first | refine blk_drewN ?_ _ | refine blk_drew ?_ | refine blk_alloc ?_ _)); exact BK110.out)) : gb111 ≠ gb110)); clear BK110; clear HB; have BK110 := n0_; have HB := n1_; have BK111 := n2_; have GW111 := n3_; have GE111 := n4_; have NB110_111 := n5_; have NB111_110 := n6_; clear n0_ n1_ n2_ n3_ n4_ n5_ n6_; clear hb hbox hg; have hnb6 := NB111_110.out; have hnc6 := NB110_111.out; have hcz7_0 : w5.cell? ⟨gb111, 0, none⟩ = some (.int .i64 0) := (blk_cell BK111.out 0).trans rfl; have hcz7_1 : w5.cell? ⟨gb111, 1, none⟩ = some (.int .i64 0) := (blk_cell BK111.out 1).trans rfl; have hcz7_2 : w5.cell? ⟨gb111, 2, none⟩ = some (.int .i64 0) := (blk_cell BK111.out 2).trans rfl; have hcz7_3 : w5.cell? ⟨gb111, 3, none⟩ = some (.int .i64 0) := (blk_cell BK111.out 3).trans rfl; have hcz7_4 : w5.cell? ⟨gb111, 4, none⟩ = some (.int .i64 0) := (blk_cell BK111.out 4).trans rfl; have hfz7_0 := blk_frozen BK111.out 0; have hfz7_1 := blk_frozen BK111.out 1; have hfz7_2 := blk_frozen BK111.out 2; have hfz7_3 := blk_frozen BK111.out 3; have hfz7_4 := blk_frozen BK111.out 4) | ((with_reducible refine gate_dst (N := 15) rfl ?_); refine Kd.R_lit k41 _ 41 ?hg (N := 15) ?hd (xs := ([(⟨0, 0, a0_0, 0, 1⟩ : S41)] : List (S41))) (inner := [.int .i64 0, .int .i64 0, .int .i64 a0_0, .int .i64 0, .int .i64 1]) (ok := fun _ => True) (okp := fun _ => True) ?hr ?hp (fun _ hk => hk) trivial (Below.refl _ _) (Nat.le_refl _) (by simp) ?_; (case hd => rfl); (case hg => rfl); (case hr => first | (go_simp; done) | (go_simp; rfl)); (case hp => exact (Reps.c5 (show Kd.M k41 _ _ _ (⟨0, 0, a0_0, 0, 1⟩ : S41) [.int .i64 0, .int .i64 0, .int .i64 a0_0, .int .i64 0, .int .i64 1] from (k41_mkM _ _ _ (⟨0, 0, a0_0, 0, 1⟩ : S41) )) (Reps.none _ _))); intro v113 w8 ho9 hb hg_ hnew_; clear hg_ hnew_; (first | rw [← Ny112.out] at ho9 | (simp only [Int.reduceToNat] at ho9; rw [← Ny112.out] at ho9)); have n0_ := Aside0.mk (Kd.R_lower (Kd.R_newB ho9 (g := gb111) (o := .cells #[.int .i64 0, .int .i64 0, .int .i64 a0_0, .int .i64 0, .int .i64 1] 41 (0, 0)) (by (with_reducible repeat (first | refine blk_drewN ?_ _ | refine blk_drew ?_ | refine blk_alloc ?_ _)); refine blk_put (cs := #[.int .i64 0, .int .i64 0, .int .i64 a0_0, .int .i64 0, .int .i64 0]) ?_ 4 _ rfl; (with_reducible repeat (first | refine blk_drewN ?_ _ | refine blk_drew ?_ | refine blk_alloc ?_ _)); refine blk_put (cs := #[.int .i64 0, .int .i64 0, .int .i64 a0_0, .int .i64 0, .int .i64 0]) ?_ 3 _ rfl; (with_reducible repeat (first | refine blk_drewN ?_ _ | refine blk_drew ?_ | refine blk_alloc ?_ _)); refine blk_put (cs := #[.int .i64 0, .int .i64 0, .int .i64 0, .int .i64 0, .int .i64 0]) ?_ 2 _ rfl; (with_reducible repeat (first | refine blk_drewN ?_ _ | refine blk_drew ?_ | refine blk_alloc ?_ _)); refine blk_put (cs := #[.int .i64 0, .int .i64 0, .int .i64 0, .int .i64 0, .int .i64 0]) ?_ 1 _ rfl; (with_reducible repeat (first | refine blk_drewN ?_ _ | refine blk_drew ?_ | refine blk_alloc ?_ _)); refine blk_put (cs := #[.int .i64 0, .int .i64 0, .int .i64 0, .int .i64 0, .int .i64 0]) ?_ 0 _ rfl; (with_reducible repeat (first | refine blk_drewN ?_ _ | refine blk_drew ?_ | refine blk_alloc ?_ _)); exact BK111.out)) (below_size (by repeat (first | (with_reducible first | exact HB.out | apply below_alloc | apply pw_below_drewN | apply below_drew1 | refine below_set ?_ GE110.out | refine below_set ?_ GE111.out) | exact HB.out)))); have n1_ := Aside0.mk (blk_below (g := gb110) (o := .cells #[.int .i64 a0_0, .int .i64 a0_1, .int .i64 a0_2, .int .i64 a0_3] 26 (0, 0)) (by (with_reducible repeat (first | refine blk_drewN ?_ _ | refine blk_drew ?_ | refine blk_alloc ?_ _)); refine blk_far ?_ NB110_111.out _; (with_reducible repeat (first | refine blk_drewN ?_ _ | refine blk_drew ?_ | refine blk_alloc ?_ _)); refine blk_far ?_ NB110_111.out _; (with_reducible repeat (first | refine blk_drewN ?_ _ | refine blk_drew ?_ | refine blk_alloc ?_ _)); refine blk_far ?_ NB110_111.out _; (with_reducible repeat (first | refine blk_drewN ?_ _ | refine blk_drew ?_ | refine blk_alloc ?_ _)); refine blk_far ?_ NB110_111.out _; (with_reducible repeat (first | refine blk_drewN ?_ _ | refine blk_drew ?_ | refine blk_alloc ?_ _)); refine blk_far ?_ NB110_111.out _; (with_reducible repeat (first | refine blk_drewN ?_ _ | refine blk_drew ?_ | refine blk_alloc ?_ _)); exact BK110.out) hb); have n2_ := Aside0.mk (blk_below (g := gb111) (o := .cells #[.int .i64 0, .int .i64 0, .int .i64 a0_0, .int .i64 0, .int .i64 1] 41 (0, 0)) (by (with_reducible repeat (first | refine blk_drewN ?_ _ | refine blk_drew ?_ | refine blk_alloc ?_ _)); refine blk_put (cs := #[.int .i64 0, .int .i64 0, .int .i64 a0_0, .int .i64 0, .int .i64 0]) ?_ 4 _ rfl; (with_reducible repeat (first | refine blk_drewN ?_ _ | refine blk_drew ?_ | refine blk_alloc ?_ _)); refine blk_put (cs := #[.int .i64 0, .int .i64 0, .int .i64 a0_0, .int .i64 0, .int .i64 0]) ?_ 3 _ rfl; (with_reducible repeat (first | refine blk_drewN ?_ _ | refine blk_drew ?_ | refine blk_alloc ?_ _)); refine blk_put (cs := #[.int .i64 0, .int .i64 0, .int .i64 0, .int .i64 0, .int .i64 0]) ?_ 2 _ rfl; (with_reducible repeat (first | refine blk_drewN ?_ _ | refine blk_drew ?_ | refine blk_alloc ?_ _)); refine blk_put (cs := #[.int .i64 0, .int .i64 0, .int .i64 0, .int .i64 0, .int .i64 0]) ?_ 1 _ rfl; (with_reducible repeat (first | refine blk_drewN ?_ _ | refine blk_drew ?_ | refine blk_alloc ?_ _)); refine blk_put (cs := #[.int .i64 0, .int .i64 0, .int .i64 0, .int .i64 0, .int .i64 0]) ?_ 0 _ rfl; (with_reducible repeat (first | refine blk_drewN ?_ _ | refine blk_drew ?_ | refine blk_alloc ?_ _)); exact BK111.out) hb); have n3_ := Aside0.mk (below_step (by repeat (first | (with_reducible first | exact HB.out | apply below_alloc | apply pw_below_drewN | apply below_drew1 | refine below_set ?_ GE110.out | refine below_set ?_ GE111.out) | exact HB.out)) hb); clear BK110; clear BK111; clear HB; have HO114 := n0_; have BK110 := n1_; have BK111 := n2_; have HB := n3_; clear n0_ n1_ n2_ n3_; clear hb ho9))
  go_loopg [6, 7] k (fun kq v6 v7 w' => ∃ (x6_1 : List (S41)) (x7_1 : Int) (x112000_1 : Int) (x112001_1 : Int) (x112002_1 : Int) (x112003_1 : Int) (x112004_1 : Int), v7 = .int .i64 x7_1 ∧ Aside0 (spec_doRun.l0 kq a1 x6_1 x7_1 a0_0 a0_1 a0_2 a0_3 x112000_1 x112001_1 x112002_1 x112003_1 x112004_1 = some r) ∧ Aside0 (kq ≤ k) ∧ Aside0 (Kd.R k41 41 w' w.heap.size (fun k_ => k_ ≠ gb111) v6 x6_1) ∧ Aside0 (w'.heap[gb110]? = some (.cells #[.int .i64 a0_0, .int .i64 a0_1, .int .i64 a0_2, .int .i64 a0_3] 26 (0, 0))) ∧ Aside0 (w'.heap[gb111]? = some (.cells #[.int .i64 x112000_1, .int .i64 x112001_1, .int .i64 x112002_1, .int .i64 x112003_1, .int .i64 x112004_1] 41 (0, 0))) ∧ Aside0 (Below w.heap.size w w'))
  case atStart => exact ⟨(y112), (1), (0), (0), (a0_0), (0), (1), (by first | rfl | (simp; done) | (simp [*]; done)), H', ⟨Nat.le_refl _⟩, ⟨by (with_reducible repeat (first | apply Kd.R_alloc | apply Kd.R_drewN | apply Kd.R_drew)); exact Kd.R_mono HO114.out (fun _ hk => hk.2)⟩, ⟨by (with_reducible repeat (first | refine blk_drewN ?_ _ | refine blk_drew ?_ | refine blk_alloc ?_ _)); exact BK110.out⟩, ⟨by (with_reducible repeat (first | refine blk_drewN ?_ _ | refine blk_drew ?_ | refine blk_alloc ?_ _)); exact BK111.out⟩, ⟨by repeat (first | (with_reducible first | exact HB.out | apply below_alloc | apply pw_below_drewN | apply below_drew1 | refine below_set ?_ GE110.out | refine below_set ?_ GE111.out) | exact HB.out)⟩⟩
  case round =>
    clear H'
    try clear c2
    try clear p2
    try clear c5
    try clear c6
    try clear hcz4_0
    try clear hcz4_1
    try clear hcz4_2
    try clear hcz4_3
    try clear hcz7_0
    try clear hcz7_1
    try clear hcz7_2
    try clear hcz7_3
    try clear hcz7_4
    try clear hfz4_0
    try clear hfz4_1
    try clear hfz4_2
    try clear hfz4_3
    try clear hfz7_0
    try clear hfz7_1
    try clear hfz7_2
    try clear hfz7_3
    try clear hfz7_4
    obtain ⟨x6_1, x7_1, x112000_1, x112001_1, x112002_1, x112003_1, x112004_1, rfl, HA, HK1, HO_6, BK110, BK111, HB⟩ := hrel
    cases gk with
    | zero => exact absurd HA.out (by simp [spec_doRun.l0])
    | succ k1 =>
      have H := HA.out
      clear HA
      simp only [spec_doRun.l0] at H
      by_cases c10 : x7_1 ≤ a1
      · rw [if_pos c10] at H
        have c10b0 : decide (x7_1 ≤ a1) = true := decide_eq_true c10
        clear c10
        by_cases c11 : (Int.tmod x7_1 2) = 0
        · rw [if_pos c11] at H
          have c11b0 : ((Int.tmod x7_1 2) == 0) = true := beq_iff_eq.mpr c11
          have c11b1 : ((Int.tmod x7_1 2) != 0) = false := bne_eq_false_iff_eq.mpr c11
          clear c11
          replace H := Option.bind_eq_some_iff.mp H
          obtain ⟨t116, A120, H⟩ := H
          replace H : (if x6_1.length < 3518437208883 then (spec_doRun.l0 k1 a1 (x6_1 ++ [(⟨wrap64 ((wrap64 (x112000_1 * (wrap64 (a0_3 + a0_1)))) + x112002_1), wrap64 ((wrap64 (x112001_1 * (wrap64 (a0_3 + a0_1)))) + (wrap64 ((wrap64 (-a0_3)) * x112002_1))), wrap64 (x112002_1 * (wrap64 ((wrap64 ((wrap64 (a0_3 + a0_1)) - a0_1)) - a0_2))), wrap64 ((wrap64 (x112003_1 * (wrap64 (a0_3 + a0_1)))) + (wrap64 (t116 * x112002_1))), wrap64 (x112004_1 * (wrap64 (a0_3 + a0_1)))⟩ : S41)]) (wrap64 (x7_1 + 1)) a0_0 a0_1 a0_2 a0_3 (wrap64 ((wrap64 (x112000_1 * (wrap64 (a0_3 + a0_1)))) + x112002_1)) (wrap64 ((wrap64 (x112001_1 * (wrap64 (a0_3 + a0_1)))) + (wrap64 ((wrap64 (-a0_3)) * x112002_1)))) (wrap64 (x112002_1 * (wrap64 ((wrap64 ((wrap64 (a0_3 + a0_1)) - a0_1)) - a0_2)))) (wrap64 ((wrap64 (x112003_1 * (wrap64 (a0_3 + a0_1)))) + (wrap64 (t116 * x112002_1)))) (wrap64 (x112004_1 * (wrap64 (a0_3 + a0_1))))) else (none)) = some r := H
          have A12 := Aside0.mk A120
          clear A120
          by_cases c13 : x6_1.length < 3518437208883
          · rw [if_pos c13] at H
            have LMc13 := Aside0.mk c13
            clear c13
            obtain ⟨y117, hy117⟩ : ∃ y_ : List (S41), y_ = (x6_1 ++ [(⟨wrap64 ((wrap64 (x112000_1 * (wrap64 (a0_3 + a0_1)))) + x112002_1), wrap64 ((wrap64 (x112001_1 * (wrap64 (a0_3 + a0_1)))) + (wrap64 ((wrap64 (-a0_3)) * x112002_1))), wrap64 (x112002_1 * (wrap64 ((wrap64 ((wrap64 (a0_3 + a0_1)) - a0_1)) - a0_2))), wrap64 ((wrap64 (x112003_1 * (wrap64 (a0_3 + a0_1)))) + (wrap64 (t116 * x112002_1))), wrap64 (x112004_1 * (wrap64 (a0_3 + a0_1)))⟩ : S41)]) := ⟨_, rfl⟩
            replace H : (spec_doRun.l0 k1 a1 y117 (wrap64 (x7_1 + 1)) a0_0 a0_1 a0_2 a0_3 (wrap64 ((wrap64 (x112000_1 * (wrap64 (a0_3 + a0_1)))) + x112002_1)) (wrap64 ((wrap64 (x112001_1 * (wrap64 (a0_3 + a0_1)))) + (wrap64 ((wrap64 (-a0_3)) * x112002_1)))) (wrap64 (x112002_1 * (wrap64 ((wrap64 ((wrap64 (a0_3 + a0_1)) - a0_1)) - a0_2)))) (wrap64 ((wrap64 (x112003_1 * (wrap64 (a0_3 + a0_1)))) + (wrap64 (t116 * x112002_1)))) (wrap64 (x112004_1 * (wrap64 (a0_3 + a0_1))))) = some r := by first | (rw [hy117]; with_reducible exact H) | (have H2_ := (Option.bind_some _ _).symm.trans H; rw [hy117]; with_reducible exact H2_) | (have H2_ := (Option.bind_some _ _).symm.trans H; with_reducible exact H2_) | with_reducible exact H | (rw [hy117]; exact H) | exact H
            have Ny117 := Aside0.mk hy117
            clear hy117
            have H' := Aside0.mk H
            clear H
            have hnb14 := NB110_111.out
            have hnc14 := NB111_110.out
            have hcz15_0 : wr.cell? ⟨gb110, 0, none⟩ = some (.int .i64 a0_0) := (blk_cell BK110.out 0).trans rfl
            have hcz15_1 : wr.cell? ⟨gb110, 1, none⟩ = some (.int .i64 a0_1) := (blk_cell BK110.out 1).trans rfl
            have hcz15_2 : wr.cell? ⟨gb110, 2, none⟩ = some (.int .i64 a0_2) := (blk_cell BK110.out 2).trans rfl
            have hcz15_3 : wr.cell? ⟨gb110, 3, none⟩ = some (.int .i64 a0_3) := (blk_cell BK110.out 3).trans rfl
            have hfz15_0 := blk_frozen BK110.out 0
            have hfz15_1 := blk_frozen BK110.out 1
            have hfz15_2 := blk_frozen BK110.out 2
            have hfz15_3 := blk_frozen BK110.out 3
            have hcz16_0 : wr.cell? ⟨gb111, 0, none⟩ = some (.int .i64 x112000_1) := (blk_cell BK111.out 0).trans rfl
            have hcz16_1 : wr.cell? ⟨gb111, 1, none⟩ = some (.int .i64 x112001_1) := (blk_cell BK111.out 1).trans rfl
            have hcz16_2 : wr.cell? ⟨gb111, 2, none⟩ = some (.int .i64 x112002_1) := (blk_cell BK111.out 2).trans rfl
            have hcz16_3 : wr.cell? ⟨gb111, 3, none⟩ = some (.int .i64 x112003_1) := (blk_cell BK111.out 3).trans rfl
            have hcz16_4 : wr.cell? ⟨gb111, 4, none⟩ = some (.int .i64 x112004_1) := (blk_cell BK111.out 4).trans rfl
            have hfz16_0 := blk_frozen BK111.out 0
            have hfz16_1 := blk_frozen BK111.out 1
            have hfz16_2 := blk_frozen BK111.out 2
            have hfz16_3 := blk_frozen BK111.out 3
            have hfz16_4 := blk_frozen BK111.out 4
            try go_wp2_with (first | ((with_reducible refine gate_dst (N := 10) rfl ?_); refine box_event ?hg (N := 10) ?hd (cs := #[.int .i64 0, .int .i64 0, .int .i64 0, .int .i64 0, .int .i64 0]) (t := 41) ?hr ?_; (case hd => rfl); (case hg => rfl); (case hr => first | (go_simp; done) | (go_simp; rfl)); intro gb115 hg w17 hbox hb; have n0_ := Aside0.mk (Kd.R_below (Kd.R_elderB (by (with_reducible repeat (first | apply Kd.R_alloc | apply Kd.R_drewN | apply Kd.R_drew)); exact HO_6.out) gb115 (Nat.le_of_eq hg.symm)) hb); have n1_ := Aside0.mk (blk_below (g := gb110) (o := .cells #[.int .i64 a0_0, .int .i64 a0_1, .int .i64 a0_2, .int .i64 a0_3] 26 (0, 0)) (by (with_reducible repeat (first | refine blk_drewN ?_ _ | refine blk_drew ?_ | refine blk_alloc ?_ _)); exact BK110.out) hb); have n2_ := Aside0.mk (blk_below (g := gb111) (o := .cells #[.int .i64 x112000_1, .int .i64 x112001_1, .int .i64 x112002_1, .int .i64 x112003_1, .int .i64 x112004_1] 41 (0, 0)) (by (with_reducible repeat (first | refine blk_drewN ?_ _ | refine blk_drew ?_ | refine blk_alloc ?_ _)); exact BK111.out) hb); have n3_ := Aside0.mk (below_step (by repeat (first | (with_reducible first | exact HB.out | apply below_alloc | apply pw_below_drewN | apply below_drew1 | refine below_set ?_ GE110.out | refine below_set ?_ GE111.out) | exact HB.out)) hb); have n4_ := Aside0.mk (hbox); have n5_ := Aside0.mk ((by rw [hg]; exact (below_size (by repeat (first | (with_reducible first | exact HB.out | apply below_alloc | apply pw_below_drewN | apply below_drew1 | refine below_set ?_ GE110.out | refine below_set ?_ GE111.out) | exact HB.out))) : w.heap.size ≤ gb115)); have n6_ := Aside0.mk ((by rw [hg]; exact (below_size (by repeat (first | (with_reducible first | exact HB.out | apply below_alloc | apply pw_below_drewN | apply below_drew1 | refine below_set ?_ GE110.out | refine below_set ?_ GE111.out) | exact HB.out))) : w.heap.size ≤ gb115)); have n7_ := Aside0.mk ((by rw [hg]; exact Nat.ne_of_lt (blk_lt (g := gb110) (o := .cells #[.int .i64 a0_0, .int .i64 a0_1, .int .i64 a0_2, .int .i64 a0_3] 26 (0, 0)) (by (with_reducible repeat (first | refine blk_drewN ?_ _ | refine blk_drew ?_ | refine blk_alloc ?_ _)); exact BK110.out)) : gb110 ≠ gb115)); have n8_ := Aside0.mk ((by rw [hg]; exact Nat.ne_of_gt (blk_lt (g := gb110) (o := .cells #[.int .i64 a0_0, .int .i64 a0_1, .int .i64 a0_2, .int .i64 a0_3] 26 (0, 0)) (by (with_reducible repeat (first | refine blk_drewN ?_ _ | refine blk_drew ?_ | refine blk_alloc ?_ _)); exact BK110.out)) : gb115 ≠ gb110)); have n9_ := Aside0.mk ((by rw [hg]; exact Nat.ne_of_lt (blk_lt (g := gb111) (o := .cells #[.int .i64 x112000_1, .int .i64 x112001_1, .int .i64 x112002_1, .int .i64 x112003_1, .int .i64 x112004_1] 41 (0, 0)) (by (with_reducible repeat (first | refine blk_drewN ?_ _ | refine blk_drew ?_ | refine blk_alloc ?_ _)); exact BK111.out)) : gb111 ≠ gb115)); have n10_ := Aside0.mk ((by rw [hg]; exact Nat.ne_of_gt (blk_lt (g := gb111) (o := .cells #[.int .i64 x112000_1, .int .i64 x112001_1, .int .i64 x112002_1, .int .i64 x112003_1, .int .i64 x112004_1] 41 (0, 0)) (by (with_reducible repeat (first | refine blk_drewN ?_ _ | refine blk_drew ?_ | refine blk_alloc ?_ _)); exact BK111.out)) : gb115 ≠ gb111)); clear HO_6; clear BK110; clear BK111; clear HB; have HO_6 := n0_; have BK110 := n1_; have BK111 := n2_; have HB := n3_; have BK115 := n4_; have GW115 := n5_; have GE115 := n6_; have NB110_115 := n7_; have NB115_110 := n8_; have NB111_115 := n9_; have NB115_111 := n10_; clear n0_ n1_ n2_ n3_ n4_ n5_ n6_ n7_ n8_ n9_ n10_; clear hb hbox hg; have hnb18 := NB115_110.out; have hnc18 := NB110_115.out; have hnb19 := NB115_111.out; have hnc19 := NB111_115.out; have hcz20_0 : w17.cell? ⟨gb115, 0, none⟩ = some (.int .i64 0) := (blk_cell BK115.out 0).trans rfl; have hcz20_1 : w17.cell? ⟨gb115, 1, none⟩ = some (.int .i64 0) := (blk_cell BK115.out 1).trans rfl; have hcz20_2 : w17.cell? ⟨gb115, 2, none⟩ = some (.int .i64 0) := (blk_cell BK115.out 2).trans rfl; have hcz20_3 : w17.cell? ⟨gb115, 3, none⟩ = some (.int .i64 0) := (blk_cell BK115.out 3).trans rfl; have hcz20_4 : w17.cell? ⟨gb115, 4, none⟩ = some (.int .i64 0) := (blk_cell BK115.out 4).trans rfl; have hfz20_0 := blk_frozen BK115.out 0; have hfz20_1 := blk_frozen BK115.out 1; have hfz20_2 := blk_frozen BK115.out 2; have hfz20_3 := blk_frozen BK115.out 3; have hfz20_4 := blk_frozen BK115.out 4; have hcz21_0 : w17.cell? ⟨gb111, 0, none⟩ = some (.int .i64 x112000_1) := (blk_cell BK111.out 0).trans rfl; have hcz21_1 : w17.cell? ⟨gb111, 1, none⟩ = some (.int .i64 x112001_1) := (blk_cell BK111.out 1).trans rfl; have hcz21_2 : w17.cell? ⟨gb111, 2, none⟩ = some (.int .i64 x112002_1) := (blk_cell BK111.out 2).trans rfl; have hcz21_3 : w17.cell? ⟨gb111, 3, none⟩ = some (.int .i64 x112003_1) := (blk_cell BK111.out 3).trans rfl; have hcz21_4 : w17.cell? ⟨gb111, 4, none⟩ = some (.int .i64 x112004_1) := (blk_cell BK111.out 4).trans rfl; have hfz21_0 := blk_frozen BK111.out 0; have hfz21_1 := blk_frozen BK111.out 1; have hfz21_2 := blk_frozen BK111.out 2; have hfz21_3 := blk_frozen BK111.out 3; have hfz21_4 := blk_frozen BK111.out 4; have hcz22_0 : w17.cell? ⟨gb110, 0, none⟩ = some (.int .i64 a0_0) := (blk_cell BK110.out 0).trans rfl; have hcz22_1 : w17.cell? ⟨gb110, 1, none⟩ = some (.int .i64 a0_1) := (blk_cell BK110.out 1).trans rfl; have hcz22_2 : w17.cell? ⟨gb110, 2, none⟩ = some (.int .i64 a0_2) := (blk_cell BK110.out 2).trans rfl; have hcz22_3 : w17.cell? ⟨gb110, 3, none⟩ = some (.int .i64 a0_3) := (blk_cell BK110.out 3).trans rfl; have hfz22_0 := blk_frozen BK110.out 0; have hfz22_1 := blk_frozen BK110.out 1; have hfz22_2 := blk_frozen BK110.out 2; have hfz22_3 := blk_frozen BK110.out 3))
            have n0_ : Aside0 (Kd.R k41 41 ((((((((w17.setCell ⟨gb115, 0, none⟩ (.int .i64 0)).setCell ⟨gb115, 1, none⟩ (.int .i64 0)).setCell ⟨gb115, 2, none⟩ (.int .i64 0)).setCell ⟨gb115, 3, none⟩ (.int .i64 0)).setCell ⟨gb115, 4, none⟩ (.int .i64 (wrap64 (x112004_1 * (wrap64 (a0_3 + a0_1)))))).setCell ⟨gb115, 0, none⟩ (.int .i64 (wrap64 ((wrap64 (x112000_1 * (wrap64 (a0_3 + a0_1)))) + x112002_1)))).setCell ⟨gb115, 1, none⟩ (.int .i64 (wrap64 ((wrap64 (x112001_1 * (wrap64 (a0_3 + a0_1)))) + (wrap64 ((wrap64 (-a0_3)) * x112002_1)))))).setCell ⟨gb115, 2, none⟩ (.int .i64 (wrap64 (x112002_1 * (wrap64 ((wrap64 ((wrap64 (a0_3 + a0_1)) - a0_1)) - a0_2)))))) w.heap.size (fun k_ => k_ ≠ gb111 ∧ k_ ≠ gb115) u6 x6_1) := ⟨by (with_reducible repeat (first | apply Kd.R_alloc | apply Kd.R_drewN | apply Kd.R_drew)); exact Kd.R_mono (Kd.R_far (p := ⟨gb115, 2, none⟩) (Kd.R_far (p := ⟨gb115, 1, none⟩) (Kd.R_far (p := ⟨gb115, 0, none⟩) (Kd.R_far (p := ⟨gb115, 4, none⟩) (Kd.R_far (p := ⟨gb115, 3, none⟩) (Kd.R_far (p := ⟨gb115, 2, none⟩) (Kd.R_far (p := ⟨gb115, 1, none⟩) (Kd.R_far (p := ⟨gb115, 0, none⟩) (Kd.R_mono HO_6.out (fun k_ hk => (⟨hk, hk.2⟩ : _ ∧ k_ ≠ gb115))) (fun _ hk => hk.2) (.int .i64 0)) (fun _ hk => hk.2) (.int .i64 0)) (fun _ hk => hk.2) (.int .i64 0)) (fun _ hk => hk.2) (.int .i64 0)) (fun _ hk => hk.2) (.int .i64 (wrap64 (x112004_1 * (wrap64 (a0_3 + a0_1)))))) (fun _ hk => hk.2) (.int .i64 (wrap64 ((wrap64 (x112000_1 * (wrap64 (a0_3 + a0_1)))) + x112002_1)))) (fun _ hk => hk.2) (.int .i64 (wrap64 ((wrap64 (x112001_1 * (wrap64 (a0_3 + a0_1)))) + (wrap64 ((wrap64 (-a0_3)) * x112002_1)))))) (fun _ hk => hk.2) (.int .i64 (wrap64 (x112002_1 * (wrap64 ((wrap64 ((wrap64 (a0_3 + a0_1)) - a0_1)) - a0_2)))))) (fun _ hk => ⟨hk.1.1, hk.1.2⟩)⟩
            have n1_ : Aside0 (((((((((w17.setCell ⟨gb115, 0, none⟩ (.int .i64 0)).setCell ⟨gb115, 1, none⟩ (.int .i64 0)).setCell ⟨gb115, 2, none⟩ (.int .i64 0)).setCell ⟨gb115, 3, none⟩ (.int .i64 0)).setCell ⟨gb115, 4, none⟩ (.int .i64 (wrap64 (x112004_1 * (wrap64 (a0_3 + a0_1)))))).setCell ⟨gb115, 0, none⟩ (.int .i64 (wrap64 ((wrap64 (x112000_1 * (wrap64 (a0_3 + a0_1)))) + x112002_1)))).setCell ⟨gb115, 1, none⟩ (.int .i64 (wrap64 ((wrap64 (x112001_1 * (wrap64 (a0_3 + a0_1)))) + (wrap64 ((wrap64 (-a0_3)) * x112002_1)))))).setCell ⟨gb115, 2, none⟩ (.int .i64 (wrap64 (x112002_1 * (wrap64 ((wrap64 ((wrap64 (a0_3 + a0_1)) - a0_1)) - a0_2)))))).heap[gb110]? = some (.cells #[.int .i64 a0_0, .int .i64 a0_1, .int .i64 a0_2, .int .i64 a0_3] 26 (0, 0))) := ⟨by (with_reducible repeat (first | refine blk_drewN ?_ _ | refine blk_drew ?_ | refine blk_alloc ?_ _)); refine blk_far ?_ NB110_115.out _; (with_reducible repeat (first | refine blk_drewN ?_ _ | refine blk_drew ?_ | refine blk_alloc ?_ _)); refine blk_far ?_ NB110_115.out _; (with_reducible repeat (first | refine blk_drewN ?_ _ | refine blk_drew ?_ | refine blk_alloc ?_ _)); refine blk_far ?_ NB110_115.out _; (with_reducible repeat (first | refine blk_drewN ?_ _ | refine blk_drew ?_ | refine blk_alloc ?_ _)); refine blk_far ?_ NB110_115.out _; (with_reducible repeat (first | refine blk_drewN ?_ _ | refine blk_drew ?_ | refine blk_alloc ?_ _)); refine blk_far ?_ NB110_115.out _; (with_reducible repeat (first | refine blk_drewN ?_ _ | refine blk_drew ?_ | refine blk_alloc ?_ _)); refine blk_far ?_ NB110_115.out _; (with_reducible repeat (first | refine blk_drewN ?_ _ | refine blk_drew ?_ | refine blk_alloc ?_ _)); refine blk_far ?_ NB110_115.out _; (with_reducible repeat (first | refine blk_drewN ?_ _ | refine blk_drew ?_ | refine blk_alloc ?_ _)); refine blk_far ?_ NB110_115.out _; (with_reducible repeat (first | refine blk_drewN ?_ _ | refine blk_drew ?_ | refine blk_alloc ?_ _)); exact BK110.out⟩
            have n2_ : Aside0 (((((((((w17.setCell ⟨gb115, 0, none⟩ (.int .i64 0)).setCell ⟨gb115, 1, none⟩ (.int .i64 0)).setCell ⟨gb115, 2, none⟩ (.int .i64 0)).setCell ⟨gb115, 3, none⟩ (.int .i64 0)).setCell ⟨gb115, 4, none⟩ (.int .i64 (wrap64 (x112004_1 * (wrap64 (a0_3 + a0_1)))))).setCell ⟨gb115, 0, none⟩ (.int .i64 (wrap64 ((wrap64 (x112000_1 * (wrap64 (a0_3 + a0_1)))) + x112002_1)))).setCell ⟨gb115, 1, none⟩ (.int .i64 (wrap64 ((wrap64 (x112001_1 * (wrap64 (a0_3 + a0_1)))) + (wrap64 ((wrap64 (-a0_3)) * x112002_1)))))).setCell ⟨gb115, 2, none⟩ (.int .i64 (wrap64 (x112002_1 * (wrap64 ((wrap64 ((wrap64 (a0_3 + a0_1)) - a0_1)) - a0_2)))))).heap[gb111]? = some (.cells #[.int .i64 x112000_1, .int .i64 x112001_1, .int .i64 x112002_1, .int .i64 x112003_1, .int .i64 x112004_1] 41 (0, 0))) := ⟨by (with_reducible repeat (first | refine blk_drewN ?_ _ | refine blk_drew ?_ | refine blk_alloc ?_ _)); refine blk_far ?_ NB111_115.out _; (with_reducible repeat (first | refine blk_drewN ?_ _ | refine blk_drew ?_ | refine blk_alloc ?_ _)); refine blk_far ?_ NB111_115.out _; (with_reducible repeat (first | refine blk_drewN ?_ _ | refine blk_drew ?_ | refine blk_alloc ?_ _)); refine blk_far ?_ NB111_115.out _; (with_reducible repeat (first | refine blk_drewN ?_ _ | refine blk_drew ?_ | refine blk_alloc ?_ _)); refine blk_far ?_ NB111_115.out _; (with_reducible repeat (first | refine blk_drewN ?_ _ | refine blk_drew ?_ | refine blk_alloc ?_ _)); refine blk_far ?_ NB111_115.out _; (with_reducible repeat (first | refine blk_drewN ?_ _ | refine blk_drew ?_ | refine blk_alloc ?_ _)); refine blk_far ?_ NB111_115.out _; (with_reducible repeat (first | refine blk_drewN ?_ _ | refine blk_drew ?_ | refine blk_alloc ?_ _)); refine blk_far ?_ NB111_115.out _; (with_reducible repeat (first | refine blk_drewN ?_ _ | refine blk_drew ?_ | refine blk_alloc ?_ _)); refine blk_far ?_ NB111_115.out _; (with_reducible repeat (first | refine blk_drewN ?_ _ | refine blk_drew ?_ | refine blk_alloc ?_ _)); exact BK111.out⟩
            have n3_ : Aside0 (((((((((w17.setCell ⟨gb115, 0, none⟩ (.int .i64 0)).setCell ⟨gb115, 1, none⟩ (.int .i64 0)).setCell ⟨gb115, 2, none⟩ (.int .i64 0)).setCell ⟨gb115, 3, none⟩ (.int .i64 0)).setCell ⟨gb115, 4, none⟩ (.int .i64 (wrap64 (x112004_1 * (wrap64 (a0_3 + a0_1)))))).setCell ⟨gb115, 0, none⟩ (.int .i64 (wrap64 ((wrap64 (x112000_1 * (wrap64 (a0_3 + a0_1)))) + x112002_1)))).setCell ⟨gb115, 1, none⟩ (.int .i64 (wrap64 ((wrap64 (x112001_1 * (wrap64 (a0_3 + a0_1)))) + (wrap64 ((wrap64 (-a0_3)) * x112002_1)))))).setCell ⟨gb115, 2, none⟩ (.int .i64 (wrap64 (x112002_1 * (wrap64 ((wrap64 ((wrap64 (a0_3 + a0_1)) - a0_1)) - a0_2)))))).heap[gb115]? = some (.cells #[.int .i64 (wrap64 ((wrap64 (x112000_1 * (wrap64 (a0_3 + a0_1)))) + x112002_1)), .int .i64 (wrap64 ((wrap64 (x112001_1 * (wrap64 (a0_3 + a0_1)))) + (wrap64 ((wrap64 (-a0_3)) * x112002_1)))), .int .i64 (wrap64 (x112002_1 * (wrap64 ((wrap64 ((wrap64 (a0_3 + a0_1)) - a0_1)) - a0_2)))), .int .i64 0, .int .i64 (wrap64 (x112004_1 * (wrap64 (a0_3 + a0_1))))] 41 (0, 0))) := ⟨by (with_reducible repeat (first | refine blk_drewN ?_ _ | refine blk_drew ?_ | refine blk_alloc ?_ _)); refine blk_put (cs := #[.int .i64 (wrap64 ((wrap64 (x112000_1 * (wrap64 (a0_3 + a0_1)))) + x112002_1)), .int .i64 (wrap64 ((wrap64 (x112001_1 * (wrap64 (a0_3 + a0_1)))) + (wrap64 ((wrap64 (-a0_3)) * x112002_1)))), .int .i64 0, .int .i64 0, .int .i64 (wrap64 (x112004_1 * (wrap64 (a0_3 + a0_1))))]) ?_ 2 _ rfl; (with_reducible repeat (first | refine blk_drewN ?_ _ | refine blk_drew ?_ | refine blk_alloc ?_ _)); refine blk_put (cs := #[.int .i64 (wrap64 ((wrap64 (x112000_1 * (wrap64 (a0_3 + a0_1)))) + x112002_1)), .int .i64 0, .int .i64 0, .int .i64 0, .int .i64 (wrap64 (x112004_1 * (wrap64 (a0_3 + a0_1))))]) ?_ 1 _ rfl; (with_reducible repeat (first | refine blk_drewN ?_ _ | refine blk_drew ?_ | refine blk_alloc ?_ _)); refine blk_put (cs := #[.int .i64 0, .int .i64 0, .int .i64 0, .int .i64 0, .int .i64 (wrap64 (x112004_1 * (wrap64 (a0_3 + a0_1))))]) ?_ 0 _ rfl; (with_reducible repeat (first | refine blk_drewN ?_ _ | refine blk_drew ?_ | refine blk_alloc ?_ _)); refine blk_put (cs := #[.int .i64 0, .int .i64 0, .int .i64 0, .int .i64 0, .int .i64 0]) ?_ 4 _ rfl; (with_reducible repeat (first | refine blk_drewN ?_ _ | refine blk_drew ?_ | refine blk_alloc ?_ _)); refine blk_put (cs := #[.int .i64 0, .int .i64 0, .int .i64 0, .int .i64 0, .int .i64 0]) ?_ 3 _ rfl; (with_reducible repeat (first | refine blk_drewN ?_ _ | refine blk_drew ?_ | refine blk_alloc ?_ _)); refine blk_put (cs := #[.int .i64 0, .int .i64 0, .int .i64 0, .int .i64 0, .int .i64 0]) ?_ 2 _ rfl; (with_reducible repeat (first | refine blk_drewN ?_ _ | refine blk_drew ?_ | refine blk_alloc ?_ _)); refine blk_put (cs := #[.int .i64 0, .int .i64 0, .int .i64 0, .int .i64 0, .int .i64 0]) ?_ 1 _ rfl; (with_reducible repeat (first | refine blk_drewN ?_ _ | refine blk_drew ?_ | refine blk_alloc ?_ _)); refine blk_put (cs := #[.int .i64 0, .int .i64 0, .int .i64 0, .int .i64 0, .int .i64 0]) ?_ 0 _ rfl; (with_reducible repeat (first | refine blk_drewN ?_ _ | refine blk_drew ?_ | refine blk_alloc ?_ _)); exact BK115.out⟩
            have n4_ : Aside0 (Below w.heap.size w ((((((((w17.setCell ⟨gb115, 0, none⟩ (.int .i64 0)).setCell ⟨gb115, 1, none⟩ (.int .i64 0)).setCell ⟨gb115, 2, none⟩ (.int .i64 0)).setCell ⟨gb115, 3, none⟩ (.int .i64 0)).setCell ⟨gb115, 4, none⟩ (.int .i64 (wrap64 (x112004_1 * (wrap64 (a0_3 + a0_1)))))).setCell ⟨gb115, 0, none⟩ (.int .i64 (wrap64 ((wrap64 (x112000_1 * (wrap64 (a0_3 + a0_1)))) + x112002_1)))).setCell ⟨gb115, 1, none⟩ (.int .i64 (wrap64 ((wrap64 (x112001_1 * (wrap64 (a0_3 + a0_1)))) + (wrap64 ((wrap64 (-a0_3)) * x112002_1)))))).setCell ⟨gb115, 2, none⟩ (.int .i64 (wrap64 (x112002_1 * (wrap64 ((wrap64 ((wrap64 (a0_3 + a0_1)) - a0_1)) - a0_2))))))) := ⟨by repeat (first | (with_reducible first | exact HB.out | apply below_alloc | apply pw_below_drewN | apply below_drew1 | refine below_set ?_ GE110.out | refine below_set ?_ GE111.out | refine below_set ?_ GE115.out) | exact HB.out)⟩
            (try clear HO_6)
            (try clear BK110)
            (try clear BK111)
            (try clear BK115)
            (try clear HB)
            generalize ((((((((w17.setCell ⟨gb115, 0, none⟩ (.int .i64 0)).setCell ⟨gb115, 1, none⟩ (.int .i64 0)).setCell ⟨gb115, 2, none⟩ (.int .i64 0)).setCell ⟨gb115, 3, none⟩ (.int .i64 0)).setCell ⟨gb115, 4, none⟩ (.int .i64 (wrap64 (x112004_1 * (wrap64 (a0_3 + a0_1)))))).setCell ⟨gb115, 0, none⟩ (.int .i64 (wrap64 ((wrap64 (x112000_1 * (wrap64 (a0_3 + a0_1)))) + x112002_1)))).setCell ⟨gb115, 1, none⟩ (.int .i64 (wrap64 ((wrap64 (x112001_1 * (wrap64 (a0_3 + a0_1)))) + (wrap64 ((wrap64 (-a0_3)) * x112002_1)))))).setCell ⟨gb115, 2, none⟩ (.int .i64 (wrap64 (x112002_1 * (wrap64 ((wrap64 ((wrap64 (a0_3 + a0_1)) - a0_1)) - a0_2)))))) = w23 at n0_ n1_ n2_ n3_ n4_ ⊢
            have HO_6 := n0_
            have BK110 := n1_
            have BK111 := n2_
            have BK115 := n3_
            have HB := n4_
            clear n0_ n1_ n2_ n3_ n4_
            have n0_ := Aside0.mk (Kd.R_drew HO_6.out)
            have n1_ := Aside0.mk (blk_drew BK110.out)
            have n2_ := Aside0.mk (blk_drew BK111.out)
            have n3_ := Aside0.mk (blk_drew BK115.out)
            have n4_ := Aside0.mk (below_drew1 HB.out)
            clear HO_6
            clear BK110
            clear BK111
            clear BK115
            clear HB
            have HO_6 := n0_
            have BK110 := n1_
            have BK111 := n2_
            have BK115 := n3_
            have HB := n4_
            clear n0_ n1_ n2_ n3_ n4_
            refine start_ (n := 12) (S := fun w' => w'.cell? ⟨gb111, 0, none⟩ = some (.int .i64 x112000_1) ∧ w'.cell? ⟨gb111, 1, none⟩ = some (.int .i64 x112001_1) ∧ w'.cell? ⟨gb111, 2, none⟩ = some (.int .i64 x112002_1) ∧ w'.cell? ⟨gb111, 3, none⟩ = some (.int .i64 x112003_1) ∧ w'.cell? ⟨gb111, 4, none⟩ = some (.int .i64 x112004_1)) (ds := []) #[false, false, false, false, false, false, false, false, false, false, false, false] (by kernel_rfl) rfl rfl ⟨(blk_cell BK111.out 0).trans rfl, (blk_cell BK111.out 1).trans rfl, (blk_cell BK111.out 2).trans rfl, (blk_cell BK111.out 3).trans rfl, (blk_cell BK111.out 4).trans rfl⟩ (fun hHeld => ?_); refine with_tabW spec_doRun.tab15 spec_doRun.bits15 (fun HT_ HW_ => ?_)
            generalize w23.drew = w24 at HO_6 BK110 BK111 BK115 HB hHeld ⊢
            refine pure_ (i := 0) (N := some 73) (v := ?_) (a' := ?_) #[true, false, false, false, false, false, false, false, false, false, false, false] rfl rfl (any_of HT_.out (by kernel_rfl)) (fun _ _ _ h => h) (Or.inl ⟨by rfl, ?_⟩) ?_ ?_
            rotate_left
            · intro w'
              go_simp
              with_reducible rfl
            rotate_left
            · simp only [Act.put, List.setIfInBounds_toArray, List.set_cons_zero, List.set_cons_succ, i64_w, i32_w]
              rfl
            refine pure_ (i := 2) (N := some 75) (v := ?_) (a' := ?_) #[true, false, true, false, false, false, false, false, false, false, false, false] rfl rfl (any_of HT_.out (by kernel_rfl)) (fun _ _ _ h => h) (Or.inl ⟨by rfl, ?_⟩) ?_ ?_
            rotate_left
            · intro w'
              go_simp
              with_reducible rfl
            rotate_left
            · simp only [Act.put, List.setIfInBounds_toArray, List.set_cons_zero, List.set_cons_succ, i64_w, i32_w]
              rfl
            refine pure_ (i := 4) (N := some 77) (v := ?_) (a' := ?_) #[true, false, true, false, true, false, false, false, false, false, false, false] rfl rfl (any_of HT_.out (by kernel_rfl)) (fun _ _ _ h => h) (Or.inl ⟨by rfl, ?_⟩) ?_ ?_
            rotate_left
            · intro w'
              go_simp
              with_reducible rfl
            rotate_left
            · simp only [Act.put, List.setIfInBounds_toArray, List.set_cons_zero, List.set_cons_succ, i64_w, i32_w]
              rfl
            refine pure_ (i := 6) (N := some 79) (v := ?_) (a' := ?_) #[true, false, true, false, true, false, true, false, false, false, false, false] rfl rfl (any_of HT_.out (by kernel_rfl)) (fun _ _ _ h => h) (Or.inl ⟨by rfl, ?_⟩) ?_ ?_
            rotate_left
            · intro w'
              go_simp
              with_reducible rfl
            rotate_left
            · simp only [Act.put, List.setIfInBounds_toArray, List.set_cons_zero, List.set_cons_succ, i64_w, i32_w]
              rfl
            refine take_ (i := 1) (N := some 74) (v := ?_) (a' := ?_) #[true, true, true, false, true, false, true, false, false, false, false, false] rfl rfl (take_ofW HT_.out HW_.out (by kernel_rfl)) (fun _ _ _ h => h) (Or.inl ⟨by rfl, ?_⟩) hHeld ?_ ?_
            rotate_left
            · rintro w' ⟨s0, s1, s2, s3, s4⟩
              go_simp
              with_reducible rfl
            rotate_left
            · simp only [Act.put, List.setIfInBounds_toArray, List.set_cons_zero, List.set_cons_succ, i64_w, i32_w]
              rfl
            refine pure_ (i := 3) (N := some 76) (v := ?_) (a' := ?_) #[true, true, true, true, true, false, true, false, false, false, false, false] rfl rfl (any_of HT_.out (by kernel_rfl)) (fun _ _ _ h => h) (Or.inl ⟨by rfl, ?_⟩) ?_ ?_
            rotate_left
            · intro w'
              go_simp
              with_reducible rfl
            rotate_left
            · simp only [Act.put, List.setIfInBounds_toArray, List.set_cons_zero, List.set_cons_succ, i64_w, i32_w]
              rfl
            refine take_ (i := 7) (N := some 80) (v := ?_) (a' := ?_) #[true, true, true, true, true, false, true, true, false, false, false, false] rfl rfl (take_ofW HT_.out HW_.out (by kernel_rfl)) (fun _ _ _ h => h) (Or.inl ⟨by rfl, ?_⟩) hHeld ?_ ?_
            rotate_left
            · rintro w' ⟨s0, s1, s2, s3, s4⟩
              go_simp
              with_reducible rfl
            rotate_left
            · simp only [Act.put, List.setIfInBounds_toArray, List.set_cons_zero, List.set_cons_succ, i64_w, i32_w]
              rfl
            refine one_ (i := 5) (N := some 78) #[true, true, true, true, true, true, true, true, false, false, false, false] rfl rfl (one_of HT_.out (by kernel_rfl)) (by decide) (fun K hK => ?_)
            refine goes_ Try.func39 (by kernel_rfl) rfl #[.int .i64 0, .int .i64 (wrap64 (-a0_3))] (by rfl) rfl rfl (by (try simp only [List.map_toArray, List.map_cons, List.map_nil]); first | done | rfl | (simp only [List.length_drop, List.length_take]; rfl)) ?_
            with_reducible refine (spec_l1Most.calls 0 (wrap64 (-a0_3)) t116 _ A12.out).mono ?_
            rintro e w' ⟨rfl, ⟨nd, rfl⟩⟩
            refine ⟨_, rfl, ?_⟩
            refine hK.out _ _ ⟨(blk_cell BK111.out 0).trans rfl, (blk_cell BK111.out 1).trans rfl, (blk_cell BK111.out 2).trans rfl, (blk_cell BK111.out 3).trans rfl, (blk_cell BK111.out 4).trans rfl⟩ (fun hHeld => ?_)
            clear hK K
            refine norm_ (a' := ?_) ?_ ?_
            rotate_left
            · show Act.put _ (some 78) _ = _
              simp only [Act.put, List.setIfInBounds_toArray, List.set_cons_zero, List.set_cons_succ, i64_w, i32_w]
              rfl
            refine pure_ (i := 8) (N := some 81) (v := ?_) (a' := ?_) #[true, true, true, true, true, true, true, true, true, false, false, false] rfl rfl (any_of HT_.out (by kernel_rfl)) (fun _ _ _ h => h) (Or.inl ⟨by rfl, ?_⟩) ?_ ?_
            rotate_left
            · intro w'
              go_simp
              with_reducible rfl
            rotate_left
            · simp only [Act.put, List.setIfInBounds_toArray, List.set_cons_zero, List.set_cons_succ, i64_w, i32_w]
              rfl
            refine pure_ (i := 9) (N := some 82) (v := ?_) (a' := ?_) #[true, true, true, true, true, true, true, true, true, true, false, false] rfl rfl (any_of HT_.out (by kernel_rfl)) (fun _ _ _ h => h) (Or.inl ⟨by rfl, ?_⟩) ?_ ?_
            rotate_left
            · intro w'
              go_simp
              with_reducible rfl
            rotate_left
            · simp only [Act.put, List.setIfInBounds_toArray, List.set_cons_zero, List.set_cons_succ, i64_w, i32_w]
              rfl
            refine pure_ (i := 10) (N := some 83) (v := ?_) (a' := ?_) #[true, true, true, true, true, true, true, true, true, true, true, false] rfl rfl (any_of HT_.out (by kernel_rfl)) (fun _ _ _ h => h) (Or.inl ⟨by rfl, ?_⟩) ?_ ?_
            rotate_left
            · intro w'
              go_simp
              with_reducible rfl
            rotate_left
            · simp only [Act.put, List.setIfInBounds_toArray, List.set_cons_zero, List.set_cons_succ, i64_w, i32_w]
              rfl
            refine one_ (i := 11) (N := none) #[true, true, true, true, true, true, true, true, true, true, true, true] rfl rfl (one_of HT_.out (by kernel_rfl)) (by decide) (fun K hK => ?_)
            have hs25 : w24.cell? ⟨gb115, 3, none⟩ = some (.int .i64 0) := (blk_cell BK115.out 3).trans rfl
            have hfs25 := blk_frozen BK115.out 3
            have hns25_0 := NB110_115.out
            have hns25_1 := NB111_115.out
            have hms25_0 := NB115_110.out
            have hms25_1 := NB115_111.out
            refine skip_ (w1 := ?_) (by rfl) rfl ?_ ?_
            rotate_left
            · go_simp
              rfl
            refine hK.out _ _ ⟨((cell_far (p := ⟨gb115, _, none⟩) NB111_115.out _).trans (hHeld.1)), ((cell_far (p := ⟨gb115, _, none⟩) NB111_115.out _).trans (hHeld.2.1)), ((cell_far (p := ⟨gb115, _, none⟩) NB111_115.out _).trans (hHeld.2.2.1)), ((cell_far (p := ⟨gb115, _, none⟩) NB111_115.out _).trans (hHeld.2.2.2.1)), ((cell_far (p := ⟨gb115, _, none⟩) NB111_115.out _).trans (hHeld.2.2.2.2))⟩ (fun hHeld => ?_)
            clear hK K
            refine done_ (done_of HT_.out (by kernel_rfl)) ?_
            have hcz26_0 : w24.cell? ⟨gb115, 0, none⟩ = some (.int .i64 (wrap64 ((wrap64 (x112000_1 * (wrap64 (a0_3 + a0_1)))) + x112002_1))) := (blk_cell BK115.out 0).trans rfl
            have hcz26_1 : w24.cell? ⟨gb115, 1, none⟩ = some (.int .i64 (wrap64 ((wrap64 (x112001_1 * (wrap64 (a0_3 + a0_1)))) + (wrap64 ((wrap64 (-a0_3)) * x112002_1))))) := (blk_cell BK115.out 1).trans rfl
            have hcz26_2 : w24.cell? ⟨gb115, 2, none⟩ = some (.int .i64 (wrap64 (x112002_1 * (wrap64 ((wrap64 ((wrap64 (a0_3 + a0_1)) - a0_1)) - a0_2))))) := (blk_cell BK115.out 2).trans rfl
            have hcz26_3 : w24.cell? ⟨gb115, 3, none⟩ = some (.int .i64 0) := (blk_cell BK115.out 3).trans rfl
            have hcz26_4 : w24.cell? ⟨gb115, 4, none⟩ = some (.int .i64 (wrap64 (x112004_1 * (wrap64 (a0_3 + a0_1))))) := (blk_cell BK115.out 4).trans rfl
            have hfz26_0 := blk_frozen BK115.out 0
            have hfz26_1 := blk_frozen BK115.out 1
            have hfz26_2 := blk_frozen BK115.out 2
            have hfz26_3 := blk_frozen BK115.out 3
            have hfz26_4 := blk_frozen BK115.out 4
            have hcz27_0 : w24.cell? ⟨gb111, 0, none⟩ = some (.int .i64 x112000_1) := (blk_cell BK111.out 0).trans rfl
            have hcz27_1 : w24.cell? ⟨gb111, 1, none⟩ = some (.int .i64 x112001_1) := (blk_cell BK111.out 1).trans rfl
            have hcz27_2 : w24.cell? ⟨gb111, 2, none⟩ = some (.int .i64 x112002_1) := (blk_cell BK111.out 2).trans rfl
            have hcz27_3 : w24.cell? ⟨gb111, 3, none⟩ = some (.int .i64 x112003_1) := (blk_cell BK111.out 3).trans rfl
            have hcz27_4 : w24.cell? ⟨gb111, 4, none⟩ = some (.int .i64 x112004_1) := (blk_cell BK111.out 4).trans rfl
            have hfz27_0 := blk_frozen BK111.out 0
            have hfz27_1 := blk_frozen BK111.out 1
            have hfz27_2 := blk_frozen BK111.out 2
            have hfz27_3 := blk_frozen BK111.out 3
            have hfz27_4 := blk_frozen BK111.out 4
            try go_wp2_with (first | ((with_reducible refine gate_builtin (b := .append) (xs := #[.tmp 85, .tmp 87]) rfl ?_); at_builtin; refine Kd.R_append k41 (w0 := w) w.heap.size rfl (.tmp 85) (.tmp 87) 42 41 (.agg #[(.int .i64 0), (.int .i64 0), (.int .i64 0), (.int .i64 0), (.int .i64 0)]) 40 rfl Try.underlying42 info41 rfl (by decide) (by omega) u6 x6_1 (⟨wrap64 ((wrap64 (x112000_1 * (wrap64 (a0_3 + a0_1)))) + x112002_1), wrap64 ((wrap64 (x112001_1 * (wrap64 (a0_3 + a0_1)))) + (wrap64 ((wrap64 (-a0_3)) * x112002_1))), wrap64 (x112002_1 * (wrap64 ((wrap64 ((wrap64 (a0_3 + a0_1)) - a0_1)) - a0_2))), wrap64 ((wrap64 (x112003_1 * (wrap64 (a0_3 + a0_1)))) + (wrap64 (t116 * x112002_1))), wrap64 (x112004_1 * (wrap64 (a0_3 + a0_1)))⟩ : S41) [.int .i64 (wrap64 ((wrap64 (x112000_1 * (wrap64 (a0_3 + a0_1)))) + x112002_1)), .int .i64 (wrap64 ((wrap64 (x112001_1 * (wrap64 (a0_3 + a0_1)))) + (wrap64 ((wrap64 (-a0_3)) * x112002_1)))), .int .i64 (wrap64 (x112002_1 * (wrap64 ((wrap64 ((wrap64 (a0_3 + a0_1)) - a0_1)) - a0_2)))), .int .i64 (wrap64 ((wrap64 (x112003_1 * (wrap64 (a0_3 + a0_1)))) + (wrap64 (t116 * x112002_1)))), .int .i64 (wrap64 (x112004_1 * (wrap64 (a0_3 + a0_1))))] (fun k_ => k_ ≠ gb111 ∧ k_ ≠ gb115) (fun _ => False) rfl (by first | (go_simp; done) | (go_simp; rfl)) ?aP (fun _ hk => hk.elim) ?aF ?aO ?aB ?aS ?aL ?_; (case aP => exact k41_mkM _ _ _ (⟨wrap64 ((wrap64 (x112000_1 * (wrap64 (a0_3 + a0_1)))) + x112002_1), wrap64 ((wrap64 (x112001_1 * (wrap64 (a0_3 + a0_1)))) + (wrap64 ((wrap64 (-a0_3)) * x112002_1))), wrap64 (x112002_1 * (wrap64 ((wrap64 ((wrap64 (a0_3 + a0_1)) - a0_1)) - a0_2))), wrap64 ((wrap64 (x112003_1 * (wrap64 (a0_3 + a0_1)))) + (wrap64 (t116 * x112002_1))), wrap64 (x112004_1 * (wrap64 (a0_3 + a0_1)))⟩ : S41)); (case aB => exact (by repeat (first | (with_reducible first | exact HB.out | apply below_alloc | apply pw_below_drewN | apply below_drew1 | refine below_set ?_ GE110.out | refine below_set ?_ GE111.out | refine below_set ?_ GE115.out) | exact HB.out))); (case aF => exact (fun k_ hk => ⟨Kd.freshB (g := gb111) (o := .cells #[.int .i64 (wrap64 ((wrap64 (x112000_1 * (wrap64 (a0_3 + a0_1)))) + x112002_1)), .int .i64 (wrap64 ((wrap64 (x112001_1 * (wrap64 (a0_3 + a0_1)))) + (wrap64 ((wrap64 (-a0_3)) * x112002_1)))), .int .i64 (wrap64 (x112002_1 * (wrap64 ((wrap64 ((wrap64 (a0_3 + a0_1)) - a0_1)) - a0_2)))), .int .i64 (wrap64 ((wrap64 (x112003_1 * (wrap64 (a0_3 + a0_1)))) + (wrap64 (t116 * x112002_1)))), .int .i64 (wrap64 (x112004_1 * (wrap64 (a0_3 + a0_1))))] 41 (0, 0)) (by (with_reducible repeat (first | refine blk_drewN ?_ _ | refine blk_drew ?_ | refine blk_alloc ?_ _)); refine blk_put (cs := #[.int .i64 (wrap64 ((wrap64 (x112000_1 * (wrap64 (a0_3 + a0_1)))) + x112002_1)), .int .i64 (wrap64 ((wrap64 (x112001_1 * (wrap64 (a0_3 + a0_1)))) + (wrap64 ((wrap64 (-a0_3)) * x112002_1)))), .int .i64 (wrap64 (x112002_1 * (wrap64 ((wrap64 ((wrap64 (a0_3 + a0_1)) - a0_1)) - a0_2)))), .int .i64 (wrap64 ((wrap64 (x112003_1 * (wrap64 (a0_3 + a0_1)))) + (wrap64 (t116 * x112002_1)))), .int .i64 x112004_1]) ?_ 4 _ rfl; (with_reducible repeat (first | refine blk_drewN ?_ _ | refine blk_drew ?_ | refine blk_alloc ?_ _)); refine blk_put (cs := #[.int .i64 (wrap64 ((wrap64 (x112000_1 * (wrap64 (a0_3 + a0_1)))) + x112002_1)), .int .i64 (wrap64 ((wrap64 (x112001_1 * (wrap64 (a0_3 + a0_1)))) + (wrap64 ((wrap64 (-a0_3)) * x112002_1)))), .int .i64 (wrap64 (x112002_1 * (wrap64 ((wrap64 ((wrap64 (a0_3 + a0_1)) - a0_1)) - a0_2)))), .int .i64 x112003_1, .int .i64 x112004_1]) ?_ 3 _ rfl; (with_reducible repeat (first | refine blk_drewN ?_ _ | refine blk_drew ?_ | refine blk_alloc ?_ _)); refine blk_put (cs := #[.int .i64 (wrap64 ((wrap64 (x112000_1 * (wrap64 (a0_3 + a0_1)))) + x112002_1)), .int .i64 (wrap64 ((wrap64 (x112001_1 * (wrap64 (a0_3 + a0_1)))) + (wrap64 ((wrap64 (-a0_3)) * x112002_1)))), .int .i64 x112002_1, .int .i64 x112003_1, .int .i64 x112004_1]) ?_ 2 _ rfl; (with_reducible repeat (first | refine blk_drewN ?_ _ | refine blk_drew ?_ | refine blk_alloc ?_ _)); refine blk_put (cs := #[.int .i64 (wrap64 ((wrap64 (x112000_1 * (wrap64 (a0_3 + a0_1)))) + x112002_1)), .int .i64 x112001_1, .int .i64 x112002_1, .int .i64 x112003_1, .int .i64 x112004_1]) ?_ 1 _ rfl; (with_reducible repeat (first | refine blk_drewN ?_ _ | refine blk_drew ?_ | refine blk_alloc ?_ _)); refine blk_put (cs := #[.int .i64 x112000_1, .int .i64 x112001_1, .int .i64 x112002_1, .int .i64 x112003_1, .int .i64 x112004_1]) ?_ 0 _ rfl; (with_reducible repeat (first | refine blk_drewN ?_ _ | refine blk_drew ?_ | refine blk_alloc ?_ _)); refine blk_far ?_ NB111_115.out _; (with_reducible repeat (first | refine blk_drewN ?_ _ | refine blk_drew ?_ | refine blk_alloc ?_ _)); exact BK111.out) k_ hk, Kd.freshB (g := gb115) (o := .cells #[.int .i64 (wrap64 ((wrap64 (x112000_1 * (wrap64 (a0_3 + a0_1)))) + x112002_1)), .int .i64 (wrap64 ((wrap64 (x112001_1 * (wrap64 (a0_3 + a0_1)))) + (wrap64 ((wrap64 (-a0_3)) * x112002_1)))), .int .i64 (wrap64 (x112002_1 * (wrap64 ((wrap64 ((wrap64 (a0_3 + a0_1)) - a0_1)) - a0_2)))), .int .i64 (wrap64 ((wrap64 (x112003_1 * (wrap64 (a0_3 + a0_1)))) + (wrap64 (t116 * x112002_1)))), .int .i64 (wrap64 (x112004_1 * (wrap64 (a0_3 + a0_1))))] 41 (0, 0)) (by (with_reducible repeat (first | refine blk_drewN ?_ _ | refine blk_drew ?_ | refine blk_alloc ?_ _)); refine blk_far ?_ NB115_111.out _; (with_reducible repeat (first | refine blk_drewN ?_ _ | refine blk_drew ?_ | refine blk_alloc ?_ _)); refine blk_far ?_ NB115_111.out _; (with_reducible repeat (first | refine blk_drewN ?_ _ | refine blk_drew ?_ | refine blk_alloc ?_ _)); refine blk_far ?_ NB115_111.out _; (with_reducible repeat (first | refine blk_drewN ?_ _ | refine blk_drew ?_ | refine blk_alloc ?_ _)); refine blk_far ?_ NB115_111.out _; (with_reducible repeat (first | refine blk_drewN ?_ _ | refine blk_drew ?_ | refine blk_alloc ?_ _)); refine blk_far ?_ NB115_111.out _; (with_reducible repeat (first | refine blk_drewN ?_ _ | refine blk_drew ?_ | refine blk_alloc ?_ _)); refine blk_put (cs := #[.int .i64 (wrap64 ((wrap64 (x112000_1 * (wrap64 (a0_3 + a0_1)))) + x112002_1)), .int .i64 (wrap64 ((wrap64 (x112001_1 * (wrap64 (a0_3 + a0_1)))) + (wrap64 ((wrap64 (-a0_3)) * x112002_1)))), .int .i64 (wrap64 (x112002_1 * (wrap64 ((wrap64 ((wrap64 (a0_3 + a0_1)) - a0_1)) - a0_2)))), .int .i64 0, .int .i64 (wrap64 (x112004_1 * (wrap64 (a0_3 + a0_1))))]) ?_ 3 _ rfl; (with_reducible repeat (first | refine blk_drewN ?_ _ | refine blk_drew ?_ | refine blk_alloc ?_ _)); exact BK115.out) k_ hk⟩)); (case aO => exact (by (with_reducible repeat (first | apply Kd.R_alloc | apply Kd.R_drewN | apply Kd.R_drew)); exact Kd.R_mono (Kd.R_far (p := ⟨gb111, 4, none⟩) (Kd.R_far (p := ⟨gb111, 3, none⟩) (Kd.R_far (p := ⟨gb111, 2, none⟩) (Kd.R_far (p := ⟨gb111, 1, none⟩) (Kd.R_far (p := ⟨gb111, 0, none⟩) (Kd.R_far (p := ⟨gb115, 3, none⟩) (Kd.R_mono (Kd.R_mono HO_6.out (fun k_ hk => (⟨hk, hk.2⟩ : _ ∧ k_ ≠ gb115))) (fun k_ hk => (⟨hk, hk.1.1⟩ : _ ∧ k_ ≠ gb111))) (fun _ hk => hk.1.2) (.int .i64 (wrap64 ((wrap64 (x112003_1 * (wrap64 (a0_3 + a0_1)))) + (wrap64 (t116 * x112002_1)))))) (fun _ hk => hk.2) (.int .i64 (wrap64 ((wrap64 (x112000_1 * (wrap64 (a0_3 + a0_1)))) + x112002_1)))) (fun _ hk => hk.2) (.int .i64 (wrap64 ((wrap64 (x112001_1 * (wrap64 (a0_3 + a0_1)))) + (wrap64 ((wrap64 (-a0_3)) * x112002_1)))))) (fun _ hk => hk.2) (.int .i64 (wrap64 (x112002_1 * (wrap64 ((wrap64 ((wrap64 (a0_3 + a0_1)) - a0_1)) - a0_2)))))) (fun _ hk => hk.2) (.int .i64 (wrap64 ((wrap64 (x112003_1 * (wrap64 (a0_3 + a0_1)))) + (wrap64 (t116 * x112002_1)))))) (fun _ hk => hk.2) (.int .i64 (wrap64 (x112004_1 * (wrap64 (a0_3 + a0_1)))))) (fun _ hk => ⟨hk.1.1.1, hk.1.1.2⟩))); (case aS => exact (below_size (by repeat (first | (with_reducible first | exact HB.out | apply below_alloc | apply pw_below_drewN | apply below_drew1 | refine below_set ?_ GE110.out | refine below_set ?_ GE111.out | refine below_set ?_ GE115.out) | exact HB.out)))); (case aL => have := LMc13.out; omega); intro v118 w28 ho hb hg hat; rw [← Ny117.out] at ho; have n0_ := Aside0.mk (blk_grown (g := gb110) (o := .cells #[.int .i64 a0_0, .int .i64 a0_1, .int .i64 a0_2, .int .i64 a0_3] 26 (0, 0)) (by (with_reducible repeat (first | refine blk_drewN ?_ _ | refine blk_drew ?_ | refine blk_alloc ?_ _)); refine blk_far ?_ NB110_111.out _; (with_reducible repeat (first | refine blk_drewN ?_ _ | refine blk_drew ?_ | refine blk_alloc ?_ _)); refine blk_far ?_ NB110_111.out _; (with_reducible repeat (first | refine blk_drewN ?_ _ | refine blk_drew ?_ | refine blk_alloc ?_ _)); refine blk_far ?_ NB110_111.out _; (with_reducible repeat (first | refine blk_drewN ?_ _ | refine blk_drew ?_ | refine blk_alloc ?_ _)); refine blk_far ?_ NB110_111.out _; (with_reducible repeat (first | refine blk_drewN ?_ _ | refine blk_drew ?_ | refine blk_alloc ?_ _)); refine blk_far ?_ NB110_111.out _; (with_reducible repeat (first | refine blk_drewN ?_ _ | refine blk_drew ?_ | refine blk_alloc ?_ _)); refine blk_far ?_ NB110_115.out _; (with_reducible repeat (first | refine blk_drewN ?_ _ | refine blk_drew ?_ | refine blk_alloc ?_ _)); exact BK110.out) hg (Kd.R_ne HO_6.out BK110.out (by decide))); have n1_ := Aside0.mk (blk_grown (g := gb111) (o := .cells #[.int .i64 (wrap64 ((wrap64 (x112000_1 * (wrap64 (a0_3 + a0_1)))) + x112002_1)), .int .i64 (wrap64 ((wrap64 (x112001_1 * (wrap64 (a0_3 + a0_1)))) + (wrap64 ((wrap64 (-a0_3)) * x112002_1)))), .int .i64 (wrap64 (x112002_1 * (wrap64 ((wrap64 ((wrap64 (a0_3 + a0_1)) - a0_1)) - a0_2)))), .int .i64 (wrap64 ((wrap64 (x112003_1 * (wrap64 (a0_3 + a0_1)))) + (wrap64 (t116 * x112002_1)))), .int .i64 (wrap64 (x112004_1 * (wrap64 (a0_3 + a0_1))))] 41 (0, 0)) (by (with_reducible repeat (first | refine blk_drewN ?_ _ | refine blk_drew ?_ | refine blk_alloc ?_ _)); refine blk_put (cs := #[.int .i64 (wrap64 ((wrap64 (x112000_1 * (wrap64 (a0_3 + a0_1)))) + x112002_1)), .int .i64 (wrap64 ((wrap64 (x112001_1 * (wrap64 (a0_3 + a0_1)))) + (wrap64 ((wrap64 (-a0_3)) * x112002_1)))), .int .i64 (wrap64 (x112002_1 * (wrap64 ((wrap64 ((wrap64 (a0_3 + a0_1)) - a0_1)) - a0_2)))), .int .i64 (wrap64 ((wrap64 (x112003_1 * (wrap64 (a0_3 + a0_1)))) + (wrap64 (t116 * x112002_1)))), .int .i64 x112004_1]) ?_ 4 _ rfl; (with_reducible repeat (first | refine blk_drewN ?_ _ | refine blk_drew ?_ | refine blk_alloc ?_ _)); refine blk_put (cs := #[.int .i64 (wrap64 ((wrap64 (x112000_1 * (wrap64 (a0_3 + a0_1)))) + x112002_1)), .int .i64 (wrap64 ((wrap64 (x112001_1 * (wrap64 (a0_3 + a0_1)))) + (wrap64 ((wrap64 (-a0_3)) * x112002_1)))), .int .i64 (wrap64 (x112002_1 * (wrap64 ((wrap64 ((wrap64 (a0_3 + a0_1)) - a0_1)) - a0_2)))), .int .i64 x112003_1, .int .i64 x112004_1]) ?_ 3 _ rfl; (with_reducible repeat (first | refine blk_drewN ?_ _ | refine blk_drew ?_ | refine blk_alloc ?_ _)); refine blk_put (cs := #[.int .i64 (wrap64 ((wrap64 (x112000_1 * (wrap64 (a0_3 + a0_1)))) + x112002_1)), .int .i64 (wrap64 ((wrap64 (x112001_1 * (wrap64 (a0_3 + a0_1)))) + (wrap64 ((wrap64 (-a0_3)) * x112002_1)))), .int .i64 x112002_1, .int .i64 x112003_1, .int .i64 x112004_1]) ?_ 2 _ rfl; (with_reducible repeat (first | refine blk_drewN ?_ _ | refine blk_drew ?_ | refine blk_alloc ?_ _)); refine blk_put (cs := #[.int .i64 (wrap64 ((wrap64 (x112000_1 * (wrap64 (a0_3 + a0_1)))) + x112002_1)), .int .i64 x112001_1, .int .i64 x112002_1, .int .i64 x112003_1, .int .i64 x112004_1]) ?_ 1 _ rfl; (with_reducible repeat (first | refine blk_drewN ?_ _ | refine blk_drew ?_ | refine blk_alloc ?_ _)); refine blk_put (cs := #[.int .i64 x112000_1, .int .i64 x112001_1, .int .i64 x112002_1, .int .i64 x112003_1, .int .i64 x112004_1]) ?_ 0 _ rfl; (with_reducible repeat (first | refine blk_drewN ?_ _ | refine blk_drew ?_ | refine blk_alloc ?_ _)); refine blk_far ?_ NB111_115.out _; (with_reducible repeat (first | refine blk_drewN ?_ _ | refine blk_drew ?_ | refine blk_alloc ?_ _)); exact BK111.out) hg (Kd.R_away HO_6.out (fun _ hk => hk.1))); have n2_ := Aside0.mk (blk_grown (g := gb115) (o := .cells #[.int .i64 (wrap64 ((wrap64 (x112000_1 * (wrap64 (a0_3 + a0_1)))) + x112002_1)), .int .i64 (wrap64 ((wrap64 (x112001_1 * (wrap64 (a0_3 + a0_1)))) + (wrap64 ((wrap64 (-a0_3)) * x112002_1)))), .int .i64 (wrap64 (x112002_1 * (wrap64 ((wrap64 ((wrap64 (a0_3 + a0_1)) - a0_1)) - a0_2)))), .int .i64 (wrap64 ((wrap64 (x112003_1 * (wrap64 (a0_3 + a0_1)))) + (wrap64 (t116 * x112002_1)))), .int .i64 (wrap64 (x112004_1 * (wrap64 (a0_3 + a0_1))))] 41 (0, 0)) (by (with_reducible repeat (first | refine blk_drewN ?_ _ | refine blk_drew ?_ | refine blk_alloc ?_ _)); refine blk_far ?_ NB115_111.out _; (with_reducible repeat (first | refine blk_drewN ?_ _ | refine blk_drew ?_ | refine blk_alloc ?_ _)); refine blk_far ?_ NB115_111.out _; (with_reducible repeat (first | refine blk_drewN ?_ _ | refine blk_drew ?_ | refine blk_alloc ?_ _)); refine blk_far ?_ NB115_111.out _; (with_reducible repeat (first | refine blk_drewN ?_ _ | refine blk_drew ?_ | refine blk_alloc ?_ _)); refine blk_far ?_ NB115_111.out _; (with_reducible repeat (first | refine blk_drewN ?_ _ | refine blk_drew ?_ | refine blk_alloc ?_ _)); refine blk_far ?_ NB115_111.out _; (with_reducible repeat (first | refine blk_drewN ?_ _ | refine blk_drew ?_ | refine blk_alloc ?_ _)); refine blk_put (cs := #[.int .i64 (wrap64 ((wrap64 (x112000_1 * (wrap64 (a0_3 + a0_1)))) + x112002_1)), .int .i64 (wrap64 ((wrap64 (x112001_1 * (wrap64 (a0_3 + a0_1)))) + (wrap64 ((wrap64 (-a0_3)) * x112002_1)))), .int .i64 (wrap64 (x112002_1 * (wrap64 ((wrap64 ((wrap64 (a0_3 + a0_1)) - a0_1)) - a0_2)))), .int .i64 0, .int .i64 (wrap64 (x112004_1 * (wrap64 (a0_3 + a0_1))))]) ?_ 3 _ rfl; (with_reducible repeat (first | refine blk_drewN ?_ _ | refine blk_drew ?_ | refine blk_alloc ?_ _)); exact BK115.out) hg (Kd.R_away HO_6.out (fun _ hk => hk.2))); have n3_ := Aside0.mk (hb); have n4_ := Aside0.mk (ho); clear BK110; clear BK111; clear BK115; clear HB; clear HO_6; have BK110 := n0_; have BK111 := n1_; have BK115 := n2_; have HB := n3_; have HO119 := n4_; clear n0_ n1_ n2_ n3_ n4_; clear ho hb hg hat))
            go_roundg k1
            case measure => have := HK1.out; omega
            case rel => exact ⟨(y117), (wrap64 (x7_1 + 1)), (wrap64 ((wrap64 (x112000_1 * (wrap64 (a0_3 + a0_1)))) + x112002_1)), (wrap64 ((wrap64 (x112001_1 * (wrap64 (a0_3 + a0_1)))) + (wrap64 ((wrap64 (-a0_3)) * x112002_1)))), (wrap64 (x112002_1 * (wrap64 ((wrap64 ((wrap64 (a0_3 + a0_1)) - a0_1)) - a0_2)))), (wrap64 ((wrap64 (x112003_1 * (wrap64 (a0_3 + a0_1)))) + (wrap64 (t116 * x112002_1)))), (wrap64 (x112004_1 * (wrap64 (a0_3 + a0_1)))), (by first | rfl | (simp; done) | (simp [*]; done)), H', ⟨by have := HK1.out; omega⟩, ⟨by (with_reducible repeat (first | apply Kd.R_alloc | apply Kd.R_drewN | apply Kd.R_drew)); exact Kd.R_mono HO119.out (fun _ hk => hk.1)⟩, ⟨by (with_reducible repeat (first | refine blk_drewN ?_ _ | refine blk_drew ?_ | refine blk_alloc ?_ _)); exact BK110.out⟩, ⟨by (with_reducible repeat (first | refine blk_drewN ?_ _ | refine blk_drew ?_ | refine blk_alloc ?_ _)); exact BK111.out⟩, ⟨by repeat (first | (with_reducible first | exact HB.out | apply below_alloc | apply pw_below_drewN | apply below_drew1 | refine below_set ?_ GE110.out | refine below_set ?_ GE111.out | refine below_set ?_ GE115.out) | exact HB.out)⟩⟩
          · rw [if_neg c13] at H
            exact absurd H (by simp)
        · rw [if_neg c11] at H
          have c11b0 : ((Int.tmod x7_1 2) == 0) = false := beq_eq_false_iff_ne.mpr c11
          have c11b1 : ((Int.tmod x7_1 2) != 0) = true := bne_iff_ne.mpr c11
          replace H := Option.bind_eq_some_iff.mp H
          obtain ⟨t121, A290, H⟩ := H
          replace H : (if x6_1.length < 3518437208883 then (spec_doRun.l0 k1 a1 (x6_1 ++ [(⟨wrap64 ((wrap64 (x112000_1 * (wrap64 (a0_3 + a0_2)))) + x112002_1), wrap64 ((wrap64 (x112001_1 * (wrap64 (a0_3 + a0_2)))) + (wrap64 (a0_3 * x112002_1))), wrap64 (x112002_1 * (wrap64 ((wrap64 ((wrap64 (a0_3 + a0_2)) - a0_1)) - a0_2))), wrap64 ((wrap64 (x112003_1 * (wrap64 (a0_3 + a0_2)))) + (wrap64 (t121 * x112002_1))), wrap64 (x112004_1 * (wrap64 (a0_3 + a0_2)))⟩ : S41)]) (wrap64 (x7_1 + 1)) a0_0 a0_1 a0_2 a0_3 (wrap64 ((wrap64 (x112000_1 * (wrap64 (a0_3 + a0_2)))) + x112002_1)) (wrap64 ((wrap64 (x112001_1 * (wrap64 (a0_3 + a0_2)))) + (wrap64 (a0_3 * x112002_1)))) (wrap64 (x112002_1 * (wrap64 ((wrap64 ((wrap64 (a0_3 + a0_2)) - a0_1)) - a0_2)))) (wrap64 ((wrap64 (x112003_1 * (wrap64 (a0_3 + a0_2)))) + (wrap64 (t121 * x112002_1)))) (wrap64 (x112004_1 * (wrap64 (a0_3 + a0_2))))) else (none)) = some r := H
          have A29 := Aside0.mk A290
          clear A290
          by_cases c30 : x6_1.length < 3518437208883
          · rw [if_pos c30] at H
            have LMc30 := Aside0.mk c30
            clear c30
            obtain ⟨y122, hy122⟩ : ∃ y_ : List (S41), y_ = (x6_1 ++ [(⟨wrap64 ((wrap64 (x112000_1 * (wrap64 (a0_3 + a0_2)))) + x112002_1), wrap64 ((wrap64 (x112001_1 * (wrap64 (a0_3 + a0_2)))) + (wrap64 (a0_3 * x112002_1))), wrap64 (x112002_1 * (wrap64 ((wrap64 ((wrap64 (a0_3 + a0_2)) - a0_1)) - a0_2))), wrap64 ((wrap64 (x112003_1 * (wrap64 (a0_3 + a0_2)))) + (wrap64 (t121 * x112002_1))), wrap64 (x112004_1 * (wrap64 (a0_3 + a0_2)))⟩ : S41)]) := ⟨_, rfl⟩
            replace H : (spec_doRun.l0 k1 a1 y122 (wrap64 (x7_1 + 1)) a0_0 a0_1 a0_2 a0_3 (wrap64 ((wrap64 (x112000_1 * (wrap64 (a0_3 + a0_2)))) + x112002_1)) (wrap64 ((wrap64 (x112001_1 * (wrap64 (a0_3 + a0_2)))) + (wrap64 (a0_3 * x112002_1)))) (wrap64 (x112002_1 * (wrap64 ((wrap64 ((wrap64 (a0_3 + a0_2)) - a0_1)) - a0_2)))) (wrap64 ((wrap64 (x112003_1 * (wrap64 (a0_3 + a0_2)))) + (wrap64 (t121 * x112002_1)))) (wrap64 (x112004_1 * (wrap64 (a0_3 + a0_2))))) = some r := by first | (rw [hy122]; with_reducible exact H) | (have H2_ := (Option.bind_some _ _).symm.trans H; rw [hy122]; with_reducible exact H2_) | (have H2_ := (Option.bind_some _ _).symm.trans H; with_reducible exact H2_) | with_reducible exact H | (rw [hy122]; exact H) | exact H
            have Ny122 := Aside0.mk hy122
            clear hy122
            have H' := Aside0.mk H
            clear H
            have hnb31 := NB110_111.out
            have hnc31 := NB111_110.out
            have hcz32_0 : wr.cell? ⟨gb110, 0, none⟩ = some (.int .i64 a0_0) := (blk_cell BK110.out 0).trans rfl
            have hcz32_1 : wr.cell? ⟨gb110, 1, none⟩ = some (.int .i64 a0_1) := (blk_cell BK110.out 1).trans rfl
            have hcz32_2 : wr.cell? ⟨gb110, 2, none⟩ = some (.int .i64 a0_2) := (blk_cell BK110.out 2).trans rfl
            have hcz32_3 : wr.cell? ⟨gb110, 3, none⟩ = some (.int .i64 a0_3) := (blk_cell BK110.out 3).trans rfl
            have hfz32_0 := blk_frozen BK110.out 0
            have hfz32_1 := blk_frozen BK110.out 1
            have hfz32_2 := blk_frozen BK110.out 2
            have hfz32_3 := blk_frozen BK110.out 3
            have hcz33_0 : wr.cell? ⟨gb111, 0, none⟩ = some (.int .i64 x112000_1) := (blk_cell BK111.out 0).trans rfl
            have hcz33_1 : wr.cell? ⟨gb111, 1, none⟩ = some (.int .i64 x112001_1) := (blk_cell BK111.out 1).trans rfl
            have hcz33_2 : wr.cell? ⟨gb111, 2, none⟩ = some (.int .i64 x112002_1) := (blk_cell BK111.out 2).trans rfl
            have hcz33_3 : wr.cell? ⟨gb111, 3, none⟩ = some (.int .i64 x112003_1) := (blk_cell BK111.out 3).trans rfl
            have hcz33_4 : wr.cell? ⟨gb111, 4, none⟩ = some (.int .i64 x112004_1) := (blk_cell BK111.out 4).trans rfl
            have hfz33_0 := blk_frozen BK111.out 0
            have hfz33_1 := blk_frozen BK111.out 1
            have hfz33_2 := blk_frozen BK111.out 2
            have hfz33_3 := blk_frozen BK111.out 3
            have hfz33_4 := blk_frozen BK111.out 4
            try go_wp2_with (first | ((with_reducible refine gate_dst (N := 10) rfl ?_); refine box_event ?hg (N := 10) ?hd (cs := #[.int .i64 0, .int .i64 0, .int .i64 0, .int .i64 0, .int .i64 0]) (t := 41) ?hr ?_; (case hd => rfl); (case hg => rfl); (case hr => first | (go_simp; done) | (go_simp; rfl)); intro gb120 hg w34 hbox hb; have n0_ := Aside0.mk (Kd.R_below (Kd.R_elderB (by (with_reducible repeat (first | apply Kd.R_alloc | apply Kd.R_drewN | apply Kd.R_drew)); exact HO_6.out) gb120 (Nat.le_of_eq hg.symm)) hb); have n1_ := Aside0.mk (blk_below (g := gb110) (o := .cells #[.int .i64 a0_0, .int .i64 a0_1, .int .i64 a0_2, .int .i64 a0_3] 26 (0, 0)) (by (with_reducible repeat (first | refine blk_drewN ?_ _ | refine blk_drew ?_ | refine blk_alloc ?_ _)); exact BK110.out) hb); have n2_ := Aside0.mk (blk_below (g := gb111) (o := .cells #[.int .i64 x112000_1, .int .i64 x112001_1, .int .i64 x112002_1, .int .i64 x112003_1, .int .i64 x112004_1] 41 (0, 0)) (by (with_reducible repeat (first | refine blk_drewN ?_ _ | refine blk_drew ?_ | refine blk_alloc ?_ _)); exact BK111.out) hb); have n3_ := Aside0.mk (below_step (by repeat (first | (with_reducible first | exact HB.out | apply below_alloc | apply pw_below_drewN | apply below_drew1 | refine below_set ?_ GE110.out | refine below_set ?_ GE111.out) | exact HB.out)) hb); have n4_ := Aside0.mk (hbox); have n5_ := Aside0.mk ((by rw [hg]; exact (below_size (by repeat (first | (with_reducible first | exact HB.out | apply below_alloc | apply pw_below_drewN | apply below_drew1 | refine below_set ?_ GE110.out | refine below_set ?_ GE111.out) | exact HB.out))) : w.heap.size ≤ gb120)); have n6_ := Aside0.mk ((by rw [hg]; exact (below_size (by repeat (first | (with_reducible first | exact HB.out | apply below_alloc | apply pw_below_drewN | apply below_drew1 | refine below_set ?_ GE110.out | refine below_set ?_ GE111.out) | exact HB.out))) : w.heap.size ≤ gb120)); have n7_ := Aside0.mk ((by rw [hg]; exact Nat.ne_of_lt (blk_lt (g := gb110) (o := .cells #[.int .i64 a0_0, .int .i64 a0_1, .int .i64 a0_2, .int .i64 a0_3] 26 (0, 0)) (by (with_reducible repeat (first | refine blk_drewN ?_ _ | refine blk_drew ?_ | refine blk_alloc ?_ _)); exact BK110.out)) : gb110 ≠ gb120)); have n8_ := Aside0.mk ((by rw [hg]; exact Nat.ne_of_gt (blk_lt (g := gb110) (o := .cells #[.int .i64 a0_0, .int .i64 a0_1, .int .i64 a0_2, .int .i64 a0_3] 26 (0, 0)) (by (with_reducible repeat (first | refine blk_drewN ?_ _ | refine blk_drew ?_ | refine blk_alloc ?_ _)); exact BK110.out)) : gb120 ≠ gb110)); have n9_ := Aside0.mk ((by rw [hg]; exact Nat.ne_of_lt (blk_lt (g := gb111) (o := .cells #[.int .i64 x112000_1, .int .i64 x112001_1, .int .i64 x112002_1, .int .i64 x112003_1, .int .i64 x112004_1] 41 (0, 0)) (by (with_reducible repeat (first | refine blk_drewN ?_ _ | refine blk_drew ?_ | refine blk_alloc ?_ _)); exact BK111.out)) : gb111 ≠ gb120)); have n10_ := Aside0.mk ((by rw [hg]; exact Nat.ne_of_gt (blk_lt (g := gb111) (o := .cells #[.int .i64 x112000_1, .int .i64 x112001_1, .int .i64 x112002_1, .int .i64 x112003_1, .int .i64 x112004_1] 41 (0, 0)) (by (with_reducible repeat (first | refine blk_drewN ?_ _ | refine blk_drew ?_ | refine blk_alloc ?_ _)); exact BK111.out)) : gb120 ≠ gb111)); clear HO_6; clear BK110; clear BK111; clear HB; have HO_6 := n0_; have BK110 := n1_; have BK111 := n2_; have HB := n3_; have BK120 := n4_; have GW120 := n5_; have GE120 := n6_; have NB110_120 := n7_; have NB120_110 := n8_; have NB111_120 := n9_; have NB120_111 := n10_; clear n0_ n1_ n2_ n3_ n4_ n5_ n6_ n7_ n8_ n9_ n10_; clear hb hbox hg; have hnb35 := NB120_110.out; have hnc35 := NB110_120.out; have hnb36 := NB120_111.out; have hnc36 := NB111_120.out; have hcz37_0 : w34.cell? ⟨gb120, 0, none⟩ = some (.int .i64 0) := (blk_cell BK120.out 0).trans rfl; have hcz37_1 : w34.cell? ⟨gb120, 1, none⟩ = some (.int .i64 0) := (blk_cell BK120.out 1).trans rfl; have hcz37_2 : w34.cell? ⟨gb120, 2, none⟩ = some (.int .i64 0) := (blk_cell BK120.out 2).trans rfl; have hcz37_3 : w34.cell? ⟨gb120, 3, none⟩ = some (.int .i64 0) := (blk_cell BK120.out 3).trans rfl; have hcz37_4 : w34.cell? ⟨gb120, 4, none⟩ = some (.int .i64 0) := (blk_cell BK120.out 4).trans rfl; have hfz37_0 := blk_frozen BK120.out 0; have hfz37_1 := blk_frozen BK120.out 1; have hfz37_2 := blk_frozen BK120.out 2; have hfz37_3 := blk_frozen BK120.out 3; have hfz37_4 := blk_frozen BK120.out 4; have hcz38_0 : w34.cell? ⟨gb111, 0, none⟩ = some (.int .i64 x112000_1) := (blk_cell BK111.out 0).trans rfl; have hcz38_1 : w34.cell? ⟨gb111, 1, none⟩ = some (.int .i64 x112001_1) := (blk_cell BK111.out 1).trans rfl; have hcz38_2 : w34.cell? ⟨gb111, 2, none⟩ = some (.int .i64 x112002_1) := (blk_cell BK111.out 2).trans rfl; have hcz38_3 : w34.cell? ⟨gb111, 3, none⟩ = some (.int .i64 x112003_1) := (blk_cell BK111.out 3).trans rfl; have hcz38_4 : w34.cell? ⟨gb111, 4, none⟩ = some (.int .i64 x112004_1) := (blk_cell BK111.out 4).trans rfl; have hfz38_0 := blk_frozen BK111.out 0; have hfz38_1 := blk_frozen BK111.out 1; have hfz38_2 := blk_frozen BK111.out 2; have hfz38_3 := blk_frozen BK111.out 3; have hfz38_4 := blk_frozen BK111.out 4; have hcz39_0 : w34.cell? ⟨gb110, 0, none⟩ = some (.int .i64 a0_0) := (blk_cell BK110.out 0).trans rfl; have hcz39_1 : w34.cell? ⟨gb110, 1, none⟩ = some (.int .i64 a0_1) := (blk_cell BK110.out 1).trans rfl; have hcz39_2 : w34.cell? ⟨gb110, 2, none⟩ = some (.int .i64 a0_2) := (blk_cell BK110.out 2).trans rfl; have hcz39_3 : w34.cell? ⟨gb110, 3, none⟩ = some (.int .i64 a0_3) := (blk_cell BK110.out 3).trans rfl; have hfz39_0 := blk_frozen BK110.out 0; have hfz39_1 := blk_frozen BK110.out 1; have hfz39_2 := blk_frozen BK110.out 2; have hfz39_3 := blk_frozen BK110.out 3))
            have n0_ : Aside0 (Kd.R k41 41 ((((((((w34.setCell ⟨gb120, 0, none⟩ (.int .i64 0)).setCell ⟨gb120, 1, none⟩ (.int .i64 0)).setCell ⟨gb120, 2, none⟩ (.int .i64 0)).setCell ⟨gb120, 3, none⟩ (.int .i64 0)).setCell ⟨gb120, 4, none⟩ (.int .i64 (wrap64 (x112004_1 * (wrap64 (a0_3 + a0_2)))))).setCell ⟨gb120, 0, none⟩ (.int .i64 (wrap64 ((wrap64 (x112000_1 * (wrap64 (a0_3 + a0_2)))) + x112002_1)))).setCell ⟨gb120, 1, none⟩ (.int .i64 (wrap64 ((wrap64 (x112001_1 * (wrap64 (a0_3 + a0_2)))) + (wrap64 (a0_3 * x112002_1)))))).setCell ⟨gb120, 2, none⟩ (.int .i64 (wrap64 (x112002_1 * (wrap64 ((wrap64 ((wrap64 (a0_3 + a0_2)) - a0_1)) - a0_2)))))) w.heap.size (fun k_ => k_ ≠ gb111 ∧ k_ ≠ gb120) u6 x6_1) := ⟨by (with_reducible repeat (first | apply Kd.R_alloc | apply Kd.R_drewN | apply Kd.R_drew)); exact Kd.R_mono (Kd.R_far (p := ⟨gb120, 2, none⟩) (Kd.R_far (p := ⟨gb120, 1, none⟩) (Kd.R_far (p := ⟨gb120, 0, none⟩) (Kd.R_far (p := ⟨gb120, 4, none⟩) (Kd.R_far (p := ⟨gb120, 3, none⟩) (Kd.R_far (p := ⟨gb120, 2, none⟩) (Kd.R_far (p := ⟨gb120, 1, none⟩) (Kd.R_far (p := ⟨gb120, 0, none⟩) (Kd.R_mono HO_6.out (fun k_ hk => (⟨hk, hk.2⟩ : _ ∧ k_ ≠ gb120))) (fun _ hk => hk.2) (.int .i64 0)) (fun _ hk => hk.2) (.int .i64 0)) (fun _ hk => hk.2) (.int .i64 0)) (fun _ hk => hk.2) (.int .i64 0)) (fun _ hk => hk.2) (.int .i64 (wrap64 (x112004_1 * (wrap64 (a0_3 + a0_2)))))) (fun _ hk => hk.2) (.int .i64 (wrap64 ((wrap64 (x112000_1 * (wrap64 (a0_3 + a0_2)))) + x112002_1)))) (fun _ hk => hk.2) (.int .i64 (wrap64 ((wrap64 (x112001_1 * (wrap64 (a0_3 + a0_2)))) + (wrap64 (a0_3 * x112002_1)))))) (fun _ hk => hk.2) (.int .i64 (wrap64 (x112002_1 * (wrap64 ((wrap64 ((wrap64 (a0_3 + a0_2)) - a0_1)) - a0_2)))))) (fun _ hk => ⟨hk.1.1, hk.1.2⟩)⟩
            have n1_ : Aside0 (((((((((w34.setCell ⟨gb120, 0, none⟩ (.int .i64 0)).setCell ⟨gb120, 1, none⟩ (.int .i64 0)).setCell ⟨gb120, 2, none⟩ (.int .i64 0)).setCell ⟨gb120, 3, none⟩ (.int .i64 0)).setCell ⟨gb120, 4, none⟩ (.int .i64 (wrap64 (x112004_1 * (wrap64 (a0_3 + a0_2)))))).setCell ⟨gb120, 0, none⟩ (.int .i64 (wrap64 ((wrap64 (x112000_1 * (wrap64 (a0_3 + a0_2)))) + x112002_1)))).setCell ⟨gb120, 1, none⟩ (.int .i64 (wrap64 ((wrap64 (x112001_1 * (wrap64 (a0_3 + a0_2)))) + (wrap64 (a0_3 * x112002_1)))))).setCell ⟨gb120, 2, none⟩ (.int .i64 (wrap64 (x112002_1 * (wrap64 ((wrap64 ((wrap64 (a0_3 + a0_2)) - a0_1)) - a0_2)))))).heap[gb110]? = some (.cells #[.int .i64 a0_0, .int .i64 a0_1, .int .i64 a0_2, .int .i64 a0_3] 26 (0, 0))) := ⟨by (with_reducible repeat (first | refine blk_drewN ?_ _ | refine blk_drew ?_ | refine blk_alloc ?_ _)); refine blk_far ?_ NB110_120.out _; (with_reducible repeat (first | refine blk_drewN ?_ _ | refine blk_drew ?_ | refine blk_alloc ?_ _)); refine blk_far ?_ NB110_120.out _; (with_reducible repeat (first | refine blk_drewN ?_ _ | refine blk_drew ?_ | refine blk_alloc ?_ _)); refine blk_far ?_ NB110_120.out _; (with_reducible repeat (first | refine blk_drewN ?_ _ | refine blk_drew ?_ | refine blk_alloc ?_ _)); refine blk_far ?_ NB110_120.out _; (with_reducible repeat (first | refine blk_drewN ?_ _ | refine blk_drew ?_ | refine blk_alloc ?_ _)); refine blk_far ?_ NB110_120.out _; (with_reducible repeat (first | refine blk_drewN ?_ _ | refine blk_drew ?_ | refine blk_alloc ?_ _)); refine blk_far ?_ NB110_120.out _; (with_reducible repeat (first | refine blk_drewN ?_ _ | refine blk_drew ?_ | refine blk_alloc ?_ _)); refine blk_far ?_ NB110_120.out _; (with_reducible repeat (first | refine blk_drewN ?_ _ | refine blk_drew ?_ | refine blk_alloc ?_ _)); refine blk_far ?_ NB110_120.out _; (with_reducible repeat (first | refine blk_drewN ?_ _ | refine blk_drew ?_ | refine blk_alloc ?_ _)); exact BK110.out⟩
            have n2_ : Aside0 (((((((((w34.setCell ⟨gb120, 0, none⟩ (.int .i64 0)).setCell ⟨gb120, 1, none⟩ (.int .i64 0)).setCell ⟨gb120, 2, none⟩ (.int .i64 0)).setCell ⟨gb120, 3, none⟩ (.int .i64 0)).setCell ⟨gb120, 4, none⟩ (.int .i64 (wrap64 (x112004_1 * (wrap64 (a0_3 + a0_2)))))).setCell ⟨gb120, 0, none⟩ (.int .i64 (wrap64 ((wrap64 (x112000_1 * (wrap64 (a0_3 + a0_2)))) + x112002_1)))).setCell ⟨gb120, 1, none⟩ (.int .i64 (wrap64 ((wrap64 (x112001_1 * (wrap64 (a0_3 + a0_2)))) + (wrap64 (a0_3 * x112002_1)))))).setCell ⟨gb120, 2, none⟩ (.int .i64 (wrap64 (x112002_1 * (wrap64 ((wrap64 ((wrap64 (a0_3 + a0_2)) - a0_1)) - a0_2)))))).heap[gb111]? = some (.cells #[.int .i64 x112000_1, .int .i64 x112001_1, .int .i64 x112002_1, .int .i64 x112003_1, .int .i64 x112004_1] 41 (0, 0))) := ⟨by (with_reducible repeat (first | refine blk_drewN ?_ _ | refine blk_drew ?_ | refine blk_alloc ?_ _)); refine blk_far ?_ NB111_120.out _; (with_reducible repeat (first | refine blk_drewN ?_ _ | refine blk_drew ?_ | refine blk_alloc ?_ _)); refine blk_far ?_ NB111_120.out _; (with_reducible repeat (first | refine blk_drewN ?_ _ | refine blk_drew ?_ | refine blk_alloc ?_ _)); refine blk_far ?_ NB111_120.out _; (with_reducible repeat (first | refine blk_drewN ?_ _ | refine blk_drew ?_ | refine blk_alloc ?_ _)); refine blk_far ?_ NB111_120.out _; (with_reducible repeat (first | refine blk_drewN ?_ _ | refine blk_drew ?_ | refine blk_alloc ?_ _)); refine blk_far ?_ NB111_120.out _; (with_reducible repeat (first | refine blk_drewN ?_ _ | refine blk_drew ?_ | refine blk_alloc ?_ _)); refine blk_far ?_ NB111_120.out _; (with_reducible repeat (first | refine blk_drewN ?_ _ | refine blk_drew ?_ | refine blk_alloc ?_ _)); refine blk_far ?_ NB111_120.out _; (with_reducible repeat (first | refine blk_drewN ?_ _ | refine blk_drew ?_ | refine blk_alloc ?_ _)); refine blk_far ?_ NB111_120.out _; (with_reducible repeat (first | refine blk_drewN ?_ _ | refine blk_drew ?_ | refine blk_alloc ?_ _)); exact BK111.out⟩
            have n3_ : Aside0 (((((((((w34.setCell ⟨gb120, 0, none⟩ (.int .i64 0)).setCell ⟨gb120, 1, none⟩ (.int .i64 0)).setCell ⟨gb120, 2, none⟩ (.int .i64 0)).setCell ⟨gb120, 3, none⟩ (.int .i64 0)).setCell ⟨gb120, 4, none⟩ (.int .i64 (wrap64 (x112004_1 * (wrap64 (a0_3 + a0_2)))))).setCell ⟨gb120, 0, none⟩ (.int .i64 (wrap64 ((wrap64 (x112000_1 * (wrap64 (a0_3 + a0_2)))) + x112002_1)))).setCell ⟨gb120, 1, none⟩ (.int .i64 (wrap64 ((wrap64 (x112001_1 * (wrap64 (a0_3 + a0_2)))) + (wrap64 (a0_3 * x112002_1)))))).setCell ⟨gb120, 2, none⟩ (.int .i64 (wrap64 (x112002_1 * (wrap64 ((wrap64 ((wrap64 (a0_3 + a0_2)) - a0_1)) - a0_2)))))).heap[gb120]? = some (.cells #[.int .i64 (wrap64 ((wrap64 (x112000_1 * (wrap64 (a0_3 + a0_2)))) + x112002_1)), .int .i64 (wrap64 ((wrap64 (x112001_1 * (wrap64 (a0_3 + a0_2)))) + (wrap64 (a0_3 * x112002_1)))), .int .i64 (wrap64 (x112002_1 * (wrap64 ((wrap64 ((wrap64 (a0_3 + a0_2)) - a0_1)) - a0_2)))), .int .i64 0, .int .i64 (wrap64 (x112004_1 * (wrap64 (a0_3 + a0_2))))] 41 (0, 0))) := ⟨by (with_reducible repeat (first | refine blk_drewN ?_ _ | refine blk_drew ?_ | refine blk_alloc ?_ _)); refine blk_put (cs := #[.int .i64 (wrap64 ((wrap64 (x112000_1 * (wrap64 (a0_3 + a0_2)))) + x112002_1)), .int .i64 (wrap64 ((wrap64 (x112001_1 * (wrap64 (a0_3 + a0_2)))) + (wrap64 (a0_3 * x112002_1)))), .int .i64 0, .int .i64 0, .int .i64 (wrap64 (x112004_1 * (wrap64 (a0_3 + a0_2))))]) ?_ 2 _ rfl; (with_reducible repeat (first | refine blk_drewN ?_ _ | refine blk_drew ?_ | refine blk_alloc ?_ _)); refine blk_put (cs := #[.int .i64 (wrap64 ((wrap64 (x112000_1 * (wrap64 (a0_3 + a0_2)))) + x112002_1)), .int .i64 0, .int .i64 0, .int .i64 0, .int .i64 (wrap64 (x112004_1 * (wrap64 (a0_3 + a0_2))))]) ?_ 1 _ rfl; (with_reducible repeat (first | refine blk_drewN ?_ _ | refine blk_drew ?_ | refine blk_alloc ?_ _)); refine blk_put (cs := #[.int .i64 0, .int .i64 0, .int .i64 0, .int .i64 0, .int .i64 (wrap64 (x112004_1 * (wrap64 (a0_3 + a0_2))))]) ?_ 0 _ rfl; (with_reducible repeat (first | refine blk_drewN ?_ _ | refine blk_drew ?_ | refine blk_alloc ?_ _)); refine blk_put (cs := #[.int .i64 0, .int .i64 0, .int .i64 0, .int .i64 0, .int .i64 0]) ?_ 4 _ rfl; (with_reducible repeat (first | refine blk_drewN ?_ _ | refine blk_drew ?_ | refine blk_alloc ?_ _)); refine blk_put (cs := #[.int .i64 0, .int .i64 0, .int .i64 0, .int .i64 0, .int .i64 0]) ?_ 3 _ rfl; (with_reducible repeat (first | refine blk_drewN ?_ _ | refine blk_drew ?_ | refine blk_alloc ?_ _)); refine blk_put (cs := #[.int .i64 0, .int .i64 0, .int .i64 0, .int .i64 0, .int .i64 0]) ?_ 2 _ rfl; (with_reducible repeat (first | refine blk_drewN ?_ _ | refine blk_drew ?_ | refine blk_alloc ?_ _)); refine blk_put (cs := #[.int .i64 0, .int .i64 0, .int .i64 0, .int .i64 0, .int .i64 0]) ?_ 1 _ rfl; (with_reducible repeat (first | refine blk_drewN ?_ _ | refine blk_drew ?_ | refine blk_alloc ?_ _)); refine blk_put (cs := #[.int .i64 0, .int .i64 0, .int .i64 0, .int .i64 0, .int .i64 0]) ?_ 0 _ rfl; (with_reducible repeat (first | refine blk_drewN ?_ _ | refine blk_drew ?_ | refine blk_alloc ?_ _)); exact BK120.out⟩
            have n4_ : Aside0 (Below w.heap.size w ((((((((w34.setCell ⟨gb120, 0, none⟩ (.int .i64 0)).setCell ⟨gb120, 1, none⟩ (.int .i64 0)).setCell ⟨gb120, 2, none⟩ (.int .i64 0)).setCell ⟨gb120, 3, none⟩ (.int .i64 0)).setCell ⟨gb120, 4, none⟩ (.int .i64 (wrap64 (x112004_1 * (wrap64 (a0_3 + a0_2)))))).setCell ⟨gb120, 0, none⟩ (.int .i64 (wrap64 ((wrap64 (x112000_1 * (wrap64 (a0_3 + a0_2)))) + x112002_1)))).setCell ⟨gb120, 1, none⟩ (.int .i64 (wrap64 ((wrap64 (x112001_1 * (wrap64 (a0_3 + a0_2)))) + (wrap64 (a0_3 * x112002_1)))))).setCell ⟨gb120, 2, none⟩ (.int .i64 (wrap64 (x112002_1 * (wrap64 ((wrap64 ((wrap64 (a0_3 + a0_2)) - a0_1)) - a0_2))))))) := ⟨by repeat (first | (with_reducible first | exact HB.out | apply below_alloc | apply pw_below_drewN | apply below_drew1 | refine below_set ?_ GE110.out | refine below_set ?_ GE111.out | refine below_set ?_ GE120.out) | exact HB.out)⟩
            (try clear HO_6)
            (try clear BK110)
            (try clear BK111)
            (try clear BK120)
            (try clear HB)
            generalize ((((((((w34.setCell ⟨gb120, 0, none⟩ (.int .i64 0)).setCell ⟨gb120, 1, none⟩ (.int .i64 0)).setCell ⟨gb120, 2, none⟩ (.int .i64 0)).setCell ⟨gb120, 3, none⟩ (.int .i64 0)).setCell ⟨gb120, 4, none⟩ (.int .i64 (wrap64 (x112004_1 * (wrap64 (a0_3 + a0_2)))))).setCell ⟨gb120, 0, none⟩ (.int .i64 (wrap64 ((wrap64 (x112000_1 * (wrap64 (a0_3 + a0_2)))) + x112002_1)))).setCell ⟨gb120, 1, none⟩ (.int .i64 (wrap64 ((wrap64 (x112001_1 * (wrap64 (a0_3 + a0_2)))) + (wrap64 (a0_3 * x112002_1)))))).setCell ⟨gb120, 2, none⟩ (.int .i64 (wrap64 (x112002_1 * (wrap64 ((wrap64 ((wrap64 (a0_3 + a0_2)) - a0_1)) - a0_2)))))) = w40 at n0_ n1_ n2_ n3_ n4_ ⊢
            have HO_6 := n0_
            have BK110 := n1_
            have BK111 := n2_
            have BK120 := n3_
            have HB := n4_
            clear n0_ n1_ n2_ n3_ n4_
            have n0_ := Aside0.mk (Kd.R_drew HO_6.out)
            have n1_ := Aside0.mk (blk_drew BK110.out)
            have n2_ := Aside0.mk (blk_drew BK111.out)
            have n3_ := Aside0.mk (blk_drew BK120.out)
            have n4_ := Aside0.mk (below_drew1 HB.out)
            clear HO_6
            clear BK110
            clear BK111
            clear BK120
            clear HB
            have HO_6 := n0_
            have BK110 := n1_
            have BK111 := n2_
            have BK120 := n3_
            have HB := n4_
            clear n0_ n1_ n2_ n3_ n4_
            refine start_ (n := 12) (S := fun w' => w'.cell? ⟨gb111, 0, none⟩ = some (.int .i64 x112000_1) ∧ w'.cell? ⟨gb111, 1, none⟩ = some (.int .i64 x112001_1) ∧ w'.cell? ⟨gb111, 2, none⟩ = some (.int .i64 x112002_1) ∧ w'.cell? ⟨gb111, 3, none⟩ = some (.int .i64 x112003_1) ∧ w'.cell? ⟨gb111, 4, none⟩ = some (.int .i64 x112004_1)) (ds := []) #[false, false, false, false, false, false, false, false, false, false, false, false] (by kernel_rfl) rfl rfl ⟨(blk_cell BK111.out 0).trans rfl, (blk_cell BK111.out 1).trans rfl, (blk_cell BK111.out 2).trans rfl, (blk_cell BK111.out 3).trans rfl, (blk_cell BK111.out 4).trans rfl⟩ (fun hHeld => ?_); refine with_tabW spec_doRun.tab15 spec_doRun.bits15 (fun HT_ HW_ => ?_)
            generalize w40.drew = w41 at HO_6 BK110 BK111 BK120 HB hHeld ⊢
            refine pure_ (i := 0) (N := some 73) (v := ?_) (a' := ?_) #[true, false, false, false, false, false, false, false, false, false, false, false] rfl rfl (any_of HT_.out (by kernel_rfl)) (fun _ _ _ h => h) (Or.inl ⟨by rfl, ?_⟩) ?_ ?_
            rotate_left
            · intro w'
              go_simp
              with_reducible rfl
            rotate_left
            · simp only [Act.put, List.setIfInBounds_toArray, List.set_cons_zero, List.set_cons_succ, i64_w, i32_w]
              rfl
            refine pure_ (i := 2) (N := some 75) (v := ?_) (a' := ?_) #[true, false, true, false, false, false, false, false, false, false, false, false] rfl rfl (any_of HT_.out (by kernel_rfl)) (fun _ _ _ h => h) (Or.inl ⟨by rfl, ?_⟩) ?_ ?_
            rotate_left
            · intro w'
              go_simp
              with_reducible rfl
            rotate_left
            · simp only [Act.put, List.setIfInBounds_toArray, List.set_cons_zero, List.set_cons_succ, i64_w, i32_w]
              rfl
            refine pure_ (i := 4) (N := some 77) (v := ?_) (a' := ?_) #[true, false, true, false, true, false, false, false, false, false, false, false] rfl rfl (any_of HT_.out (by kernel_rfl)) (fun _ _ _ h => h) (Or.inl ⟨by rfl, ?_⟩) ?_ ?_
            rotate_left
            · intro w'
              go_simp
              with_reducible rfl
            rotate_left
            · simp only [Act.put, List.setIfInBounds_toArray, List.set_cons_zero, List.set_cons_succ, i64_w, i32_w]
              rfl
            refine pure_ (i := 6) (N := some 79) (v := ?_) (a' := ?_) #[true, false, true, false, true, false, true, false, false, false, false, false] rfl rfl (any_of HT_.out (by kernel_rfl)) (fun _ _ _ h => h) (Or.inl ⟨by rfl, ?_⟩) ?_ ?_
            rotate_left
            · intro w'
              go_simp
              with_reducible rfl
            rotate_left
            · simp only [Act.put, List.setIfInBounds_toArray, List.set_cons_zero, List.set_cons_succ, i64_w, i32_w]
              rfl
            refine take_ (i := 1) (N := some 74) (v := ?_) (a' := ?_) #[true, true, true, false, true, false, true, false, false, false, false, false] rfl rfl (take_ofW HT_.out HW_.out (by kernel_rfl)) (fun _ _ _ h => h) (Or.inl ⟨by rfl, ?_⟩) hHeld ?_ ?_
            rotate_left
            · rintro w' ⟨s0, s1, s2, s3, s4⟩
              go_simp
              with_reducible rfl
            rotate_left
            · simp only [Act.put, List.setIfInBounds_toArray, List.set_cons_zero, List.set_cons_succ, i64_w, i32_w]
              rfl
            refine pure_ (i := 3) (N := some 76) (v := ?_) (a' := ?_) #[true, true, true, true, true, false, true, false, false, false, false, false] rfl rfl (any_of HT_.out (by kernel_rfl)) (fun _ _ _ h => h) (Or.inl ⟨by rfl, ?_⟩) ?_ ?_
            rotate_left
            · intro w'
              go_simp
              with_reducible rfl
            rotate_left
            · simp only [Act.put, List.setIfInBounds_toArray, List.set_cons_zero, List.set_cons_succ, i64_w, i32_w]
              rfl
            refine take_ (i := 7) (N := some 80) (v := ?_) (a' := ?_) #[true, true, true, true, true, false, true, true, false, false, false, false] rfl rfl (take_ofW HT_.out HW_.out (by kernel_rfl)) (fun _ _ _ h => h) (Or.inl ⟨by rfl, ?_⟩) hHeld ?_ ?_
            rotate_left
            · rintro w' ⟨s0, s1, s2, s3, s4⟩
              go_simp
              with_reducible rfl
            rotate_left
            · simp only [Act.put, List.setIfInBounds_toArray, List.set_cons_zero, List.set_cons_succ, i64_w, i32_w]
              rfl
            refine one_ (i := 5) (N := some 78) #[true, true, true, true, true, true, true, true, false, false, false, false] rfl rfl (one_of HT_.out (by kernel_rfl)) (by decide) (fun K hK => ?_)
            refine goes_ Try.func39 (by kernel_rfl) rfl #[.int .i64 0, .int .i64 a0_3] (by rfl) rfl rfl (by (try simp only [List.map_toArray, List.map_cons, List.map_nil]); first | done | rfl | (simp only [List.length_drop, List.length_take]; rfl)) ?_
            with_reducible refine (spec_l1Most.calls 0 a0_3 t121 _ A29.out).mono ?_
            rintro e w' ⟨rfl, ⟨nd, rfl⟩⟩
            refine ⟨_, rfl, ?_⟩
            refine hK.out _ _ ⟨(blk_cell BK111.out 0).trans rfl, (blk_cell BK111.out 1).trans rfl, (blk_cell BK111.out 2).trans rfl, (blk_cell BK111.out 3).trans rfl, (blk_cell BK111.out 4).trans rfl⟩ (fun hHeld => ?_)
            clear hK K
            refine norm_ (a' := ?_) ?_ ?_
            rotate_left
            · show Act.put _ (some 78) _ = _
              simp only [Act.put, List.setIfInBounds_toArray, List.set_cons_zero, List.set_cons_succ, i64_w, i32_w]
              rfl
            refine pure_ (i := 8) (N := some 81) (v := ?_) (a' := ?_) #[true, true, true, true, true, true, true, true, true, false, false, false] rfl rfl (any_of HT_.out (by kernel_rfl)) (fun _ _ _ h => h) (Or.inl ⟨by rfl, ?_⟩) ?_ ?_
            rotate_left
            · intro w'
              go_simp
              with_reducible rfl
            rotate_left
            · simp only [Act.put, List.setIfInBounds_toArray, List.set_cons_zero, List.set_cons_succ, i64_w, i32_w]
              rfl
            refine pure_ (i := 9) (N := some 82) (v := ?_) (a' := ?_) #[true, true, true, true, true, true, true, true, true, true, false, false] rfl rfl (any_of HT_.out (by kernel_rfl)) (fun _ _ _ h => h) (Or.inl ⟨by rfl, ?_⟩) ?_ ?_
            rotate_left
            · intro w'
              go_simp
              with_reducible rfl
            rotate_left
            · simp only [Act.put, List.setIfInBounds_toArray, List.set_cons_zero, List.set_cons_succ, i64_w, i32_w]
              rfl
            refine pure_ (i := 10) (N := some 83) (v := ?_) (a' := ?_) #[true, true, true, true, true, true, true, true, true, true, true, false] rfl rfl (any_of HT_.out (by kernel_rfl)) (fun _ _ _ h => h) (Or.inl ⟨by rfl, ?_⟩) ?_ ?_
            rotate_left
            · intro w'
              go_simp
              with_reducible rfl
            rotate_left
            · simp only [Act.put, List.setIfInBounds_toArray, List.set_cons_zero, List.set_cons_succ, i64_w, i32_w]
              rfl
            refine one_ (i := 11) (N := none) #[true, true, true, true, true, true, true, true, true, true, true, true] rfl rfl (one_of HT_.out (by kernel_rfl)) (by decide) (fun K hK => ?_)
            have hs42 : w41.cell? ⟨gb120, 3, none⟩ = some (.int .i64 0) := (blk_cell BK120.out 3).trans rfl
            have hfs42 := blk_frozen BK120.out 3
            have hns42_0 := NB110_120.out
            have hns42_1 := NB111_120.out
            have hms42_0 := NB120_110.out
            have hms42_1 := NB120_111.out
            refine skip_ (w1 := ?_) (by rfl) rfl ?_ ?_
            rotate_left
            · go_simp
              rfl
            refine hK.out _ _ ⟨((cell_far (p := ⟨gb120, _, none⟩) NB111_120.out _).trans (hHeld.1)), ((cell_far (p := ⟨gb120, _, none⟩) NB111_120.out _).trans (hHeld.2.1)), ((cell_far (p := ⟨gb120, _, none⟩) NB111_120.out _).trans (hHeld.2.2.1)), ((cell_far (p := ⟨gb120, _, none⟩) NB111_120.out _).trans (hHeld.2.2.2.1)), ((cell_far (p := ⟨gb120, _, none⟩) NB111_120.out _).trans (hHeld.2.2.2.2))⟩ (fun hHeld => ?_)
            clear hK K
            refine done_ (done_of HT_.out (by kernel_rfl)) ?_
            have hcz43_0 : w41.cell? ⟨gb120, 0, none⟩ = some (.int .i64 (wrap64 ((wrap64 (x112000_1 * (wrap64 (a0_3 + a0_2)))) + x112002_1))) := (blk_cell BK120.out 0).trans rfl
            have hcz43_1 : w41.cell? ⟨gb120, 1, none⟩ = some (.int .i64 (wrap64 ((wrap64 (x112001_1 * (wrap64 (a0_3 + a0_2)))) + (wrap64 (a0_3 * x112002_1))))) := (blk_cell BK120.out 1).trans rfl
            have hcz43_2 : w41.cell? ⟨gb120, 2, none⟩ = some (.int .i64 (wrap64 (x112002_1 * (wrap64 ((wrap64 ((wrap64 (a0_3 + a0_2)) - a0_1)) - a0_2))))) := (blk_cell BK120.out 2).trans rfl
            have hcz43_3 : w41.cell? ⟨gb120, 3, none⟩ = some (.int .i64 0) := (blk_cell BK120.out 3).trans rfl
            have hcz43_4 : w41.cell? ⟨gb120, 4, none⟩ = some (.int .i64 (wrap64 (x112004_1 * (wrap64 (a0_3 + a0_2))))) := (blk_cell BK120.out 4).trans rfl
            have hfz43_0 := blk_frozen BK120.out 0
            have hfz43_1 := blk_frozen BK120.out 1
            have hfz43_2 := blk_frozen BK120.out 2
            have hfz43_3 := blk_frozen BK120.out 3
            have hfz43_4 := blk_frozen BK120.out 4
            have hcz44_0 : w41.cell? ⟨gb111, 0, none⟩ = some (.int .i64 x112000_1) := (blk_cell BK111.out 0).trans rfl
            have hcz44_1 : w41.cell? ⟨gb111, 1, none⟩ = some (.int .i64 x112001_1) := (blk_cell BK111.out 1).trans rfl
            have hcz44_2 : w41.cell? ⟨gb111, 2, none⟩ = some (.int .i64 x112002_1) := (blk_cell BK111.out 2).trans rfl
            have hcz44_3 : w41.cell? ⟨gb111, 3, none⟩ = some (.int .i64 x112003_1) := (blk_cell BK111.out 3).trans rfl
            have hcz44_4 : w41.cell? ⟨gb111, 4, none⟩ = some (.int .i64 x112004_1) := (blk_cell BK111.out 4).trans rfl
            have hfz44_0 := blk_frozen BK111.out 0
            have hfz44_1 := blk_frozen BK111.out 1
            have hfz44_2 := blk_frozen BK111.out 2
            have hfz44_3 := blk_frozen BK111.out 3
            have hfz44_4 := blk_frozen BK111.out 4
            try go_wp2_with (first | ((with_reducible refine gate_builtin (b := .append) (xs := #[.tmp 85, .tmp 87]) rfl ?_); at_builtin; refine Kd.R_append k41 (w0 := w) w.heap.size rfl (.tmp 85) (.tmp 87) 42 41 (.agg #[(.int .i64 0), (.int .i64 0), (.int .i64 0), (.int .i64 0), (.int .i64 0)]) 40 rfl Try.underlying42 info41 rfl (by decide) (by omega) u6 x6_1 (⟨wrap64 ((wrap64 (x112000_1 * (wrap64 (a0_3 + a0_2)))) + x112002_1), wrap64 ((wrap64 (x112001_1 * (wrap64 (a0_3 + a0_2)))) + (wrap64 (a0_3 * x112002_1))), wrap64 (x112002_1 * (wrap64 ((wrap64 ((wrap64 (a0_3 + a0_2)) - a0_1)) - a0_2))), wrap64 ((wrap64 (x112003_1 * (wrap64 (a0_3 + a0_2)))) + (wrap64 (t121 * x112002_1))), wrap64 (x112004_1 * (wrap64 (a0_3 + a0_2)))⟩ : S41) [.int .i64 (wrap64 ((wrap64 (x112000_1 * (wrap64 (a0_3 + a0_2)))) + x112002_1)), .int .i64 (wrap64 ((wrap64 (x112001_1 * (wrap64 (a0_3 + a0_2)))) + (wrap64 (a0_3 * x112002_1)))), .int .i64 (wrap64 (x112002_1 * (wrap64 ((wrap64 ((wrap64 (a0_3 + a0_2)) - a0_1)) - a0_2)))), .int .i64 (wrap64 ((wrap64 (x112003_1 * (wrap64 (a0_3 + a0_2)))) + (wrap64 (t121 * x112002_1)))), .int .i64 (wrap64 (x112004_1 * (wrap64 (a0_3 + a0_2))))] (fun k_ => k_ ≠ gb111 ∧ k_ ≠ gb120) (fun _ => False) rfl (by first | (go_simp; done) | (go_simp; rfl)) ?aP (fun _ hk => hk.elim) ?aF ?aO ?aB ?aS ?aL ?_; (case aP => exact k41_mkM _ _ _ (⟨wrap64 ((wrap64 (x112000_1 * (wrap64 (a0_3 + a0_2)))) + x112002_1), wrap64 ((wrap64 (x112001_1 * (wrap64 (a0_3 + a0_2)))) + (wrap64 (a0_3 * x112002_1))), wrap64 (x112002_1 * (wrap64 ((wrap64 ((wrap64 (a0_3 + a0_2)) - a0_1)) - a0_2))), wrap64 ((wrap64 (x112003_1 * (wrap64 (a0_3 + a0_2)))) + (wrap64 (t121 * x112002_1))), wrap64 (x112004_1 * (wrap64 (a0_3 + a0_2)))⟩ : S41)); (case aB => exact (by repeat (first | (with_reducible first | exact HB.out | apply below_alloc | apply pw_below_drewN | apply below_drew1 | refine below_set ?_ GE110.out | refine below_set ?_ GE111.out | refine below_set ?_ GE120.out) | exact HB.out))); (case aF => exact (fun k_ hk => ⟨Kd.freshB (g := gb111) (o := .cells #[.int .i64 (wrap64 ((wrap64 (x112000_1 * (wrap64 (a0_3 + a0_2)))) + x112002_1)), .int .i64 (wrap64 ((wrap64 (x112001_1 * (wrap64 (a0_3 + a0_2)))) + (wrap64 (a0_3 * x112002_1)))), .int .i64 (wrap64 (x112002_1 * (wrap64 ((wrap64 ((wrap64 (a0_3 + a0_2)) - a0_1)) - a0_2)))), .int .i64 (wrap64 ((wrap64 (x112003_1 * (wrap64 (a0_3 + a0_2)))) + (wrap64 (t121 * x112002_1)))), .int .i64 (wrap64 (x112004_1 * (wrap64 (a0_3 + a0_2))))] 41 (0, 0)) (by (with_reducible repeat (first | refine blk_drewN ?_ _ | refine blk_drew ?_ | refine blk_alloc ?_ _)); refine blk_put (cs := #[.int .i64 (wrap64 ((wrap64 (x112000_1 * (wrap64 (a0_3 + a0_2)))) + x112002_1)), .int .i64 (wrap64 ((wrap64 (x112001_1 * (wrap64 (a0_3 + a0_2)))) + (wrap64 (a0_3 * x112002_1)))), .int .i64 (wrap64 (x112002_1 * (wrap64 ((wrap64 ((wrap64 (a0_3 + a0_2)) - a0_1)) - a0_2)))), .int .i64 (wrap64 ((wrap64 (x112003_1 * (wrap64 (a0_3 + a0_2)))) + (wrap64 (t121 * x112002_1)))), .int .i64 x112004_1]) ?_ 4 _ rfl; (with_reducible repeat (first | refine blk_drewN ?_ _ | refine blk_drew ?_ | refine blk_alloc ?_ _)); refine blk_put (cs := #[.int .i64 (wrap64 ((wrap64 (x112000_1 * (wrap64 (a0_3 + a0_2)))) + x112002_1)), .int .i64 (wrap64 ((wrap64 (x112001_1 * (wrap64 (a0_3 + a0_2)))) + (wrap64 (a0_3 * x112002_1)))), .int .i64 (wrap64 (x112002_1 * (wrap64 ((wrap64 ((wrap64 (a0_3 + a0_2)) - a0_1)) - a0_2)))), .int .i64 x112003_1, .int .i64 x112004_1]) ?_ 3 _ rfl; (with_reducible repeat (first | refine blk_drewN ?_ _ | refine blk_drew ?_ | refine blk_alloc ?_ _)); refine blk_put (cs := #[.int .i64 (wrap64 ((wrap64 (x112000_1 * (wrap64 (a0_3 + a0_2)))) + x112002_1)), .int .i64 (wrap64 ((wrap64 (x112001_1 * (wrap64 (a0_3 + a0_2)))) + (wrap64 (a0_3 * x112002_1)))), .int .i64 x112002_1, .int .i64 x112003_1, .int .i64 x112004_1]) ?_ 2 _ rfl; (with_reducible repeat (first | refine blk_drewN ?_ _ | refine blk_drew ?_ | refine blk_alloc ?_ _)); refine blk_put (cs := #[.int .i64 (wrap64 ((wrap64 (x112000_1 * (wrap64 (a0_3 + a0_2)))) + x112002_1)), .int .i64 x112001_1, .int .i64 x112002_1, .int .i64 x112003_1, .int .i64 x112004_1]) ?_ 1 _ rfl; (with_reducible repeat (first | refine blk_drewN ?_ _ | refine blk_drew ?_ | refine blk_alloc ?_ _)); refine blk_put (cs := #[.int .i64 x112000_1, .int .i64 x112001_1, .int .i64 x112002_1, .int .i64 x112003_1, .int .i64 x112004_1]) ?_ 0 _ rfl; (with_reducible repeat (first | refine blk_drewN ?_ _ | refine blk_drew ?_ | refine blk_alloc ?_ _)); refine blk_far ?_ NB111_120.out _; (with_reducible repeat (first | refine blk_drewN ?_ _ | refine blk_drew ?_ | refine blk_alloc ?_ _)); exact BK111.out) k_ hk, Kd.freshB (g := gb120) (o := .cells #[.int .i64 (wrap64 ((wrap64 (x112000_1 * (wrap64 (a0_3 + a0_2)))) + x112002_1)), .int .i64 (wrap64 ((wrap64 (x112001_1 * (wrap64 (a0_3 + a0_2)))) + (wrap64 (a0_3 * x112002_1)))), .int .i64 (wrap64 (x112002_1 * (wrap64 ((wrap64 ((wrap64 (a0_3 + a0_2)) - a0_1)) - a0_2)))), .int .i64 (wrap64 ((wrap64 (x112003_1 * (wrap64 (a0_3 + a0_2)))) + (wrap64 (t121 * x112002_1)))), .int .i64 (wrap64 (x112004_1 * (wrap64 (a0_3 + a0_2))))] 41 (0, 0)) (by (with_reducible repeat (first | refine blk_drewN ?_ _ | refine blk_drew ?_ | refine blk_alloc ?_ _)); refine blk_far ?_ NB120_111.out _; (with_reducible repeat (first | refine blk_drewN ?_ _ | refine blk_drew ?_ | refine blk_alloc ?_ _)); refine blk_far ?_ NB120_111.out _; (with_reducible repeat (first | refine blk_drewN ?_ _ | refine blk_drew ?_ | refine blk_alloc ?_ _)); refine blk_far ?_ NB120_111.out _; (with_reducible repeat (first | refine blk_drewN ?_ _ | refine blk_drew ?_ | refine blk_alloc ?_ _)); refine blk_far ?_ NB120_111.out _; (with_reducible repeat (first | refine blk_drewN ?_ _ | refine blk_drew ?_ | refine blk_alloc ?_ _)); refine blk_far ?_ NB120_111.out _; (with_reducible repeat (first | refine blk_drewN ?_ _ | refine blk_drew ?_ | refine blk_alloc ?_ _)); refine blk_put (cs := #[.int .i64 (wrap64 ((wrap64 (x112000_1 * (wrap64 (a0_3 + a0_2)))) + x112002_1)), .int .i64 (wrap64 ((wrap64 (x112001_1 * (wrap64 (a0_3 + a0_2)))) + (wrap64 (a0_3 * x112002_1)))), .int .i64 (wrap64 (x112002_1 * (wrap64 ((wrap64 ((wrap64 (a0_3 + a0_2)) - a0_1)) - a0_2)))), .int .i64 0, .int .i64 (wrap64 (x112004_1 * (wrap64 (a0_3 + a0_2))))]) ?_ 3 _ rfl; (with_reducible repeat (first | refine blk_drewN ?_ _ | refine blk_drew ?_ | refine blk_alloc ?_ _)); exact BK120.out) k_ hk⟩)); (case aO => exact (by (with_reducible repeat (first | apply Kd.R_alloc | apply Kd.R_drewN | apply Kd.R_drew)); exact Kd.R_mono (Kd.R_far (p := ⟨gb111, 4, none⟩) (Kd.R_far (p := ⟨gb111, 3, none⟩) (Kd.R_far (p := ⟨gb111, 2, none⟩) (Kd.R_far (p := ⟨gb111, 1, none⟩) (Kd.R_far (p := ⟨gb111, 0, none⟩) (Kd.R_far (p := ⟨gb120, 3, none⟩) (Kd.R_mono (Kd.R_mono HO_6.out (fun k_ hk => (⟨hk, hk.2⟩ : _ ∧ k_ ≠ gb120))) (fun k_ hk => (⟨hk, hk.1.1⟩ : _ ∧ k_ ≠ gb111))) (fun _ hk => hk.1.2) (.int .i64 (wrap64 ((wrap64 (x112003_1 * (wrap64 (a0_3 + a0_2)))) + (wrap64 (t121 * x112002_1)))))) (fun _ hk => hk.2) (.int .i64 (wrap64 ((wrap64 (x112000_1 * (wrap64 (a0_3 + a0_2)))) + x112002_1)))) (fun _ hk => hk.2) (.int .i64 (wrap64 ((wrap64 (x112001_1 * (wrap64 (a0_3 + a0_2)))) + (wrap64 (a0_3 * x112002_1)))))) (fun _ hk => hk.2) (.int .i64 (wrap64 (x112002_1 * (wrap64 ((wrap64 ((wrap64 (a0_3 + a0_2)) - a0_1)) - a0_2)))))) (fun _ hk => hk.2) (.int .i64 (wrap64 ((wrap64 (x112003_1 * (wrap64 (a0_3 + a0_2)))) + (wrap64 (t121 * x112002_1)))))) (fun _ hk => hk.2) (.int .i64 (wrap64 (x112004_1 * (wrap64 (a0_3 + a0_2)))))) (fun _ hk => ⟨hk.1.1.1, hk.1.1.2⟩))); (case aS => exact (below_size (by repeat (first | (with_reducible first | exact HB.out | apply below_alloc | apply pw_below_drewN | apply below_drew1 | refine below_set ?_ GE110.out | refine below_set ?_ GE111.out | refine below_set ?_ GE120.out) | exact HB.out)))); (case aL => have := LMc30.out; omega); intro v123 w45 ho hb hg hat; rw [← Ny122.out] at ho; have n0_ := Aside0.mk (blk_grown (g := gb110) (o := .cells #[.int .i64 a0_0, .int .i64 a0_1, .int .i64 a0_2, .int .i64 a0_3] 26 (0, 0)) (by (with_reducible repeat (first | refine blk_drewN ?_ _ | refine blk_drew ?_ | refine blk_alloc ?_ _)); refine blk_far ?_ NB110_111.out _; (with_reducible repeat (first | refine blk_drewN ?_ _ | refine blk_drew ?_ | refine blk_alloc ?_ _)); refine blk_far ?_ NB110_111.out _; (with_reducible repeat (first | refine blk_drewN ?_ _ | refine blk_drew ?_ | refine blk_alloc ?_ _)); refine blk_far ?_ NB110_111.out _; (with_reducible repeat (first | refine blk_drewN ?_ _ | refine blk_drew ?_ | refine blk_alloc ?_ _)); refine blk_far ?_ NB110_111.out _; (with_reducible repeat (first | refine blk_drewN ?_ _ | refine blk_drew ?_ | refine blk_alloc ?_ _)); refine blk_far ?_ NB110_111.out _; (with_reducible repeat (first | refine blk_drewN ?_ _ | refine blk_drew ?_ | refine blk_alloc ?_ _)); refine blk_far ?_ NB110_120.out _; (with_reducible repeat (first | refine blk_drewN ?_ _ | refine blk_drew ?_ | refine blk_alloc ?_ _)); exact BK110.out) hg (Kd.R_ne HO_6.out BK110.out (by decide))); have n1_ := Aside0.mk (blk_grown (g := gb111) (o := .cells #[.int .i64 (wrap64 ((wrap64 (x112000_1 * (wrap64 (a0_3 + a0_2)))) + x112002_1)), .int .i64 (wrap64 ((wrap64 (x112001_1 * (wrap64 (a0_3 + a0_2)))) + (wrap64 (a0_3 * x112002_1)))), .int .i64 (wrap64 (x112002_1 * (wrap64 ((wrap64 ((wrap64 (a0_3 + a0_2)) - a0_1)) - a0_2)))), .int .i64 (wrap64 ((wrap64 (x112003_1 * (wrap64 (a0_3 + a0_2)))) + (wrap64 (t121 * x112002_1)))), .int .i64 (wrap64 (x112004_1 * (wrap64 (a0_3 + a0_2))))] 41 (0, 0)) (by (with_reducible repeat (first | refine blk_drewN ?_ _ | refine blk_drew ?_ | refine blk_alloc ?_ _)); refine blk_put (cs := #[.int .i64 (wrap64 ((wrap64 (x112000_1 * (wrap64 (a0_3 + a0_2)))) + x112002_1)), .int .i64 (wrap64 ((wrap64 (x112001_1 * (wrap64 (a0_3 + a0_2)))) + (wrap64 (a0_3 * x112002_1)))), .int .i64 (wrap64 (x112002_1 * (wrap64 ((wrap64 ((wrap64 (a0_3 + a0_2)) - a0_1)) - a0_2)))), .int .i64 (wrap64 ((wrap64 (x112003_1 * (wrap64 (a0_3 + a0_2)))) + (wrap64 (t121 * x112002_1)))), .int .i64 x112004_1]) ?_ 4 _ rfl; (with_reducible repeat (first | refine blk_drewN ?_ _ | refine blk_drew ?_ | refine blk_alloc ?_ _)); refine blk_put (cs := #[.int .i64 (wrap64 ((wrap64 (x112000_1 * (wrap64 (a0_3 + a0_2)))) + x112002_1)), .int .i64 (wrap64 ((wrap64 (x112001_1 * (wrap64 (a0_3 + a0_2)))) + (wrap64 (a0_3 * x112002_1)))), .int .i64 (wrap64 (x112002_1 * (wrap64 ((wrap64 ((wrap64 (a0_3 + a0_2)) - a0_1)) - a0_2)))), .int .i64 x112003_1, .int .i64 x112004_1]) ?_ 3 _ rfl; (with_reducible repeat (first | refine blk_drewN ?_ _ | refine blk_drew ?_ | refine blk_alloc ?_ _)); refine blk_put (cs := #[.int .i64 (wrap64 ((wrap64 (x112000_1 * (wrap64 (a0_3 + a0_2)))) + x112002_1)), .int .i64 (wrap64 ((wrap64 (x112001_1 * (wrap64 (a0_3 + a0_2)))) + (wrap64 (a0_3 * x112002_1)))), .int .i64 x112002_1, .int .i64 x112003_1, .int .i64 x112004_1]) ?_ 2 _ rfl; (with_reducible repeat (first | refine blk_drewN ?_ _ | refine blk_drew ?_ | refine blk_alloc ?_ _)); refine blk_put (cs := #[.int .i64 (wrap64 ((wrap64 (x112000_1 * (wrap64 (a0_3 + a0_2)))) + x112002_1)), .int .i64 x112001_1, .int .i64 x112002_1, .int .i64 x112003_1, .int .i64 x112004_1]) ?_ 1 _ rfl; (with_reducible repeat (first | refine blk_drewN ?_ _ | refine blk_drew ?_ | refine blk_alloc ?_ _)); refine blk_put (cs := #[.int .i64 x112000_1, .int .i64 x112001_1, .int .i64 x112002_1, .int .i64 x112003_1, .int .i64 x112004_1]) ?_ 0 _ rfl; (with_reducible repeat (first | refine blk_drewN ?_ _ | refine blk_drew ?_ | refine blk_alloc ?_ _)); refine blk_far ?_ NB111_120.out _; (with_reducible repeat (first | refine blk_drewN ?_ _ | refine blk_drew ?_ | refine blk_alloc ?_ _)); exact BK111.out) hg (Kd.R_away HO_6.out (fun _ hk => hk.1))); have n2_ := Aside0.mk (blk_grown (g := gb120) (o := .cells #[.int .i64 (wrap64 ((wrap64 (x112000_1 * (wrap64 (a0_3 + a0_2)))) + x112002_1)), .int .i64 (wrap64 ((wrap64 (x112001_1 * (wrap64 (a0_3 + a0_2)))) + (wrap64 (a0_3 * x112002_1)))), .int .i64 (wrap64 (x112002_1 * (wrap64 ((wrap64 ((wrap64 (a0_3 + a0_2)) - a0_1)) - a0_2)))), .int .i64 (wrap64 ((wrap64 (x112003_1 * (wrap64 (a0_3 + a0_2)))) + (wrap64 (t121 * x112002_1)))), .int .i64 (wrap64 (x112004_1 * (wrap64 (a0_3 + a0_2))))] 41 (0, 0)) (by (with_reducible repeat (first | refine blk_drewN ?_ _ | refine blk_drew ?_ | refine blk_alloc ?_ _)); refine blk_far ?_ NB120_111.out _; (with_reducible repeat (first | refine blk_drewN ?_ _ | refine blk_drew ?_ | refine blk_alloc ?_ _)); refine blk_far ?_ NB120_111.out _; (with_reducible repeat (first | refine blk_drewN ?_ _ | refine blk_drew ?_ | refine blk_alloc ?_ _)); refine blk_far ?_ NB120_111.out _; (with_reducible repeat (first | refine blk_drewN ?_ _ | refine blk_drew ?_ | refine blk_alloc ?_ _)); refine blk_far ?_ NB120_111.out _; (with_reducible repeat (first | refine blk_drewN ?_ _ | refine blk_drew ?_ | refine blk_alloc ?_ _)); refine blk_far ?_ NB120_111.out _; (with_reducible repeat (first | refine blk_drewN ?_ _ | refine blk_drew ?_ | refine blk_alloc ?_ _)); refine blk_put (cs := #[.int .i64 (wrap64 ((wrap64 (x112000_1 * (wrap64 (a0_3 + a0_2)))) + x112002_1)), .int .i64 (wrap64 ((wrap64 (x112001_1 * (wrap64 (a0_3 + a0_2)))) + (wrap64 (a0_3 * x112002_1)))), .int .i64 (wrap64 (x112002_1 * (wrap64 ((wrap64 ((wrap64 (a0_3 + a0_2)) - a0_1)) - a0_2)))), .int .i64 0, .int .i64 (wrap64 (x112004_1 * (wrap64 (a0_3 + a0_2))))]) ?_ 3 _ rfl; (with_reducible repeat (first | refine blk_drewN ?_ _ | refine blk_drew ?_ | refine blk_alloc ?_ _)); exact BK120.out) hg (Kd.R_away HO_6.out (fun _ hk => hk.2))); have n3_ := Aside0.mk (hb); have n4_ := Aside0.mk (ho); clear BK110; clear BK111; clear BK120; clear HB; clear HO_6; have BK110 := n0_; have BK111 := n1_; have BK120 := n2_; have HB := n3_; have HO124 := n4_; clear n0_ n1_ n2_ n3_ n4_; clear ho hb hg hat))
            go_roundg k1
            case measure => have := HK1.out; omega
            case rel => exact ⟨(y122), (wrap64 (x7_1 + 1)), (wrap64 ((wrap64 (x112000_1 * (wrap64 (a0_3 + a0_2)))) + x112002_1)), (wrap64 ((wrap64 (x112001_1 * (wrap64 (a0_3 + a0_2)))) + (wrap64 (a0_3 * x112002_1)))), (wrap64 (x112002_1 * (wrap64 ((wrap64 ((wrap64 (a0_3 + a0_2)) - a0_1)) - a0_2)))), (wrap64 ((wrap64 (x112003_1 * (wrap64 (a0_3 + a0_2)))) + (wrap64 (t121 * x112002_1)))), (wrap64 (x112004_1 * (wrap64 (a0_3 + a0_2)))), (by first | rfl | (simp; done) | (simp [*]; done)), H', ⟨by have := HK1.out; omega⟩, ⟨by (with_reducible repeat (first | apply Kd.R_alloc | apply Kd.R_drewN | apply Kd.R_drew)); exact Kd.R_mono HO124.out (fun _ hk => hk.1)⟩, ⟨by (with_reducible repeat (first | refine blk_drewN ?_ _ | refine blk_drew ?_ | refine blk_alloc ?_ _)); exact BK110.out⟩, ⟨by (with_reducible repeat (first | refine blk_drewN ?_ _ | refine blk_drew ?_ | refine blk_alloc ?_ _)); exact BK111.out⟩, ⟨by repeat (first | (with_reducible first | exact HB.out | apply below_alloc | apply pw_below_drewN | apply below_drew1 | refine below_set ?_ GE110.out | refine below_set ?_ GE111.out | refine below_set ?_ GE120.out) | exact HB.out)⟩⟩
          · rw [if_neg c30] at H
            exact absurd H (by simp)
      · rw [if_neg c10] at H
        have c10b0 : decide (x7_1 ≤ a1) = false := decide_eq_false c10
        clear c10
        obtain rfl := Option.some.inj H
        go_wp2
        go_ret
        exact ⟨_, by first | rfl | (simp [errW_none, errW_some] <;> rfl) | (simp [*, errW_none, errW_some] <;> rfl), by (with_reducible repeat (first | apply Kd.R_alloc | apply Kd.R_drewN | apply Kd.R_drew)); exact Kd.R_mono HO_6.out (fun _ hk => trivial), by repeat (first | (with_reducible first | exact HB.out | apply below_alloc | apply pw_below_drewN | apply below_drew1 | refine below_set ?_ GE110.out | refine below_set ?_ GE111.out) | exact HB.out)⟩

/-! ### spec_l1Abs: function 40 -/
def spec_l1Abs.f (a0 : Int) : Option (Int) := (spec_l1Most.f a0 (wrap64 (-a0))).bind fun t125 => (some t125)
set_option maxHeartbeats 8000000 in
set_option maxRecDepth 100000 in
theorem spec_l1Abs.calls (a0 : Int) (r : Int) (w : World) (h : spec_l1Abs.f a0 = some r) :
    Calls Try.prog 40 #[.int .i64 a0] w fun e w' => e = .returned (.int .i64 r) ∧ Drawn0 w w' := by
  have H : ((spec_l1Most.f a0 (wrap64 (-a0))).bind fun t125 => (some t125)) = some r := h
  clear h
  replace H := Option.bind_eq_some_iff.mp H
  obtain ⟨t125, A20, H⟩ := H
  replace H : (some t125) = some r := H
  have A2 := Aside0.mk A20
  clear A20
  obtain rfl := Option.some.inj H
  go_enter Try.func40, Try.ntmps40
  go_wp2_with (first | ((with_reducible refine gate_callee (f := 39) rfl ?_); refine goesL_ (some 6) rfl rfl Try.func39 (by kernel_rfl) rfl #[.int .i64 a0, .int .i64 (wrap64 (-a0))] rfl (by (try simp only [List.map_toArray, List.map_cons, List.map_nil]); first | done | rfl | (simp only [List.length_drop, List.length_take]; rfl)) ?_; (with_reducible refine (spec_l1Most.calls a0 (wrap64 (-a0)) t125 _ A2.out).mono ?_); rintro e w' ⟨rfl, ⟨nd, rfl⟩⟩; refine ⟨_, rfl, ?_⟩))
  go_ret
  exact ⟨by first | rfl | (simp; done) | (simp [*]; done), by repeat (first | exact Drawn0.refl _ | apply Drawn0.step)⟩

/-! ### spec_meLow: function 25 -/
mutual
def spec_meLow.j0 : Nat → Int → Int → Option (Int × Int)
  | 0, _, _ => none
  | k + 1, x0, x1 => (spec_l1Abs.f x0).bind fun t126 => (spec_meLow.l0 k x0 x1 t126 x1)
def spec_meLow.l0 : Nat → Int → Int → Int → Int → Option (Int × Int)
  | 0, _, _, _, _ => none
  | k + 1, x0, x1, x6, x7 => if x7 > 0 then (if x7 = 0 then (none) else (spec_meLow.l0 k x0 x1 x7 (Int.tmod x6 x7))) else (if x6 = 0 then (none) else (some (wrap64 (Int.tdiv x0 x6), wrap64 (Int.tdiv x1 x6))))
end
def spec_meLow.f (k : Nat) (a0 : Int) (a1 : Int) : Option (Int × Int) := if a1 < 0 then (spec_meLow.j0 k (wrap64 (-a0)) (wrap64 (-a1))) else (spec_meLow.j0 k a0 a1)
theorem spec_meLow.mono_l : ∀ k, (∀ y0 y1, LeO (spec_meLow.j0 k y0 y1) (spec_meLow.j0 (k + 1) y0 y1)) ∧ (∀ y0 y1 y2 y3, LeO (spec_meLow.l0 k y0 y1 y2 y3) (spec_meLow.l0 (k + 1) y0 y1 y2 y3))
  | 0 => ⟨fun _ _ r h => by simp [spec_meLow.j0] at h, fun _ _ _ _ r h => by simp [spec_meLow.l0] at h⟩
  | k + 1 => by
    obtain ⟨ih0, ih1⟩ := spec_meLow.mono_l k
    refine ⟨?_, ?_⟩
    · intro y0 y1
      unfold spec_meLow.j0
      repeat' first
      | (with_reducible exact ih0 _ _)
      | (with_reducible exact ih1 _ _ _ _)
      | (with_reducible exact LeO.refl _)
      | (with_reducible exact LeO.none _)
      | (with_reducible refine LeO.ite ?_ ?_)
      | (with_reducible refine LeO.bind ?_ (fun _ => ?_))
      | exact ih0 _ _
      | exact ih1 _ _ _ _
      | exact LeO.none _
      | refine LeO.ite ?_ ?_
      | refine LeO.bind ?_ (fun _ => ?_)
    · intro y0 y1 y2 y3
      unfold spec_meLow.l0
      repeat' first
      | (with_reducible exact ih0 _ _)
      | (with_reducible exact ih1 _ _ _ _)
      | (with_reducible exact LeO.refl _)
      | (with_reducible exact LeO.none _)
      | (with_reducible refine LeO.ite ?_ ?_)
      | (with_reducible refine LeO.bind ?_ (fun _ => ?_))
      | exact ih0 _ _
      | exact ih1 _ _ _ _
      | exact LeO.none _
      | refine LeO.ite ?_ ?_
      | refine LeO.bind ?_ (fun _ => ?_)
theorem spec_meLow.mono : ∀ a0 a1 k, LeO (spec_meLow.f k a0 a1) (spec_meLow.f (k + 1) a0 a1) := by
  intro a0 a1 k
  obtain ⟨ih0, ih1⟩ := spec_meLow.mono_l k
  unfold spec_meLow.f
  repeat' first
      | (with_reducible exact ih0 _ _)
      | (with_reducible exact ih1 _ _ _ _)
      | (with_reducible exact LeO.refl _)
      | (with_reducible exact LeO.none _)
      | (with_reducible refine LeO.ite ?_ ?_)
      | (with_reducible refine LeO.bind ?_ (fun _ => ?_))
      | exact ih0 _ _
      | exact ih1 _ _ _ _
      | exact LeO.none _
      | refine LeO.ite ?_ ?_
      | refine LeO.bind ?_ (fun _ => ?_)
set_option maxHeartbeats 8000000 in
set_option maxRecDepth 100000 in
theorem spec_meLow.calls (k : Nat) (a0 : Int) (a1 : Int) (r1 : Int) (r2 : Int) (w : World) (h : spec_meLow.f k a0 a1 = some (r1, r2)) :
    Calls Try.prog 25 #[.int .i64 a0, .int .i64 a1] w fun e w' => e = .returned (.tuple #[.int .i64 r1, .int .i64 r2]) ∧ Drawn0 w w' := by
  have H : (if a1 < 0 then (spec_meLow.j0 k (wrap64 (-a0)) (wrap64 (-a1))) else (spec_meLow.j0 k a0 a1)) = some (r1, r2) := h
  clear h
  have HC3 := Aside0.mk H
  clear H
  go_enter Try.func25, Try.ntmps25
  go_upto_if 9 with (fail)
  repeat (go_quiet (fail); go_upto_if 9 with (fail))
  go_cut [0, 1] (fun v0 v1 wc => ∃ (kq : Nat) (x0_2 : Int) (x1_2 : Int), v0 = .int .i64 x0_2 ∧ v1 = .int .i64 x1_2 ∧ Aside0 (spec_meLow.j0 kq x0_2 x1_2 = some (r1, r2)) ∧ Aside0 (kq ≤ k) ∧ Drawn0 w wc)
  case first =>
    have H := HC3.out
    clear HC3
    by_cases c4 : a1 < 0
    · rw [if_pos c4] at H
      have c4b0 : decide (a1 < 0) = true := decide_eq_true c4
      clear c4
      (first | rw [c4b0] | (simp only [i64_w, i32_w]; rw [c4b0]) | skip)
      have H' := Aside0.mk H
      clear H
      go_wp2
      repeat (go_quiet (fail); try go_wp2)
      go_meet
      case rel => exact ⟨_, (wrap64 (-a0)), (wrap64 (-a1)), (by first | rfl | (simp; done) | (simp [*]; done)), (by first | rfl | (simp; done) | (simp [*]; done)), H', ⟨by first | omega | exact Nat.le_refl _⟩, by repeat (first | exact Drawn0.refl _ | apply Drawn0.step)⟩
    · rw [if_neg c4] at H
      have c4b0 : decide (a1 < 0) = false := decide_eq_false c4
      clear c4
      (first | rw [c4b0] | (simp only [i64_w, i32_w]; rw [c4b0]) | skip)
      have H' := Aside0.mk H
      clear H
      go_wp2
      repeat (go_quiet (fail); try go_wp2)
      go_meet
      case rel => exact ⟨_, (a0), (a1), (by first | rfl | (simp; done) | (simp [*]; done)), (by first | rfl | (simp; done) | (simp [*]; done)), H', ⟨by first | omega | exact Nat.le_refl _⟩, by repeat (first | exact Drawn0.refl _ | apply Drawn0.step)⟩
  case rest =>
    clear HC3
    try clear c2
    try clear p2
    try clear c4
    try clear c4b0
    obtain ⟨kq, x0_2, x1_2, rfl, rfl, HA, HJ2, ⟨mc2, rfl⟩⟩ := hcut
    cases kq with
    | zero => exact absurd HA.out (by simp [spec_meLow.j0])
    | succ kj2 =>
      have H := HA.out
      clear HA
      simp only [spec_meLow.j0] at H
      replace H := Option.bind_eq_some_iff.mp H
      obtain ⟨t126, A50, H⟩ := H
      replace H : (spec_meLow.l0 kj2 x0_2 x1_2 t126 x1_2) = some (r1, r2) := H
      have A5 := Aside0.mk A50
      clear A50
      have H' := Aside0.mk H
      clear H
      go_wp2_with (first | (go_at_call 40; (with_reducible refine (spec_l1Abs.calls x0_2 t126 _ A5.out).mono ?_); rintro e w' ⟨rfl, ⟨nd, rfl⟩⟩; (try first | exact ⟨rfl, _, World.drewN_drewN _ _ _⟩ | exact ⟨rfl, _, Eq.trans (World.drewN_drewN _ _ _) (congrArg (World.drewN _) (Nat.add_assoc _ _ _))⟩)))
      repeat (go_quiet (first | (go_at_call 40; (with_reducible refine (spec_l1Abs.calls x0_2 t126 _ A5.out).mono ?_); rintro e w' ⟨rfl, ⟨nd, rfl⟩⟩; (try first | exact ⟨rfl, _, World.drewN_drewN _ _ _⟩ | exact ⟨rfl, _, Eq.trans (World.drewN_drewN _ _ _) (congrArg (World.drewN _) (Nat.add_assoc _ _ _))⟩))); try go_wp2_with (first | (go_at_call 40; (with_reducible refine (spec_l1Abs.calls x0_2 t126 _ A5.out).mono ?_); rintro e w' ⟨rfl, ⟨nd, rfl⟩⟩; (try first | exact ⟨rfl, _, World.drewN_drewN _ _ _⟩ | exact ⟨rfl, _, Eq.trans (World.drewN_drewN _ _ _) (congrArg (World.drewN _) (Nat.add_assoc _ _ _))⟩))))
      go_loopg [6, 7] kj2 (fun kq v6 v7 w' => ∃ (x6_2 : Int) (x7_2 : Int), v6 = .int .i64 x6_2 ∧ v7 = .int .i64 x7_2 ∧ Aside0 (spec_meLow.l0 kq x0_2 x1_2 x6_2 x7_2 = some (r1, r2)) ∧ Aside0 (kq ≤ kj2) ∧ Drawn0 w w')
      case atStart => exact ⟨(t126), (x1_2), (by first | rfl | (simp; done) | (simp [*]; done)), (by first | rfl | (simp; done) | (simp [*]; done)), H', ⟨Nat.le_refl _⟩, by repeat (first | exact Drawn0.refl _ | apply Drawn0.step)⟩
      case round =>
        clear H'
        try clear c2
        try clear p2
        try clear c4
        try clear c4b0
        try clear p2
        obtain ⟨x6_2, x7_2, rfl, rfl, HA, HK2, ⟨m2, rfl⟩⟩ := hrel
        cases gk with
        | zero => exact absurd HA.out (by simp [spec_meLow.l0])
        | succ k2 =>
          have H := HA.out
          clear HA
          simp only [spec_meLow.l0] at H
          by_cases c6 : x7_2 > 0
          · rw [if_pos c6] at H
            have c6b0 : decide (0 < x7_2) = true := decide_eq_true c6
            clear c6
            by_cases c7 : x7_2 = 0
            · rw [if_pos c7] at H
              exact absurd H (by simp)
            · rw [if_neg c7] at H
              have c7b0 : (x7_2 == 0) = false := beq_eq_false_iff_ne.mpr c7
              have c7b1 : (x7_2 != 0) = true := bne_iff_ne.mpr c7
              have H' := Aside0.mk H
              clear H
              go_wp2
              repeat (go_quiet (fail); try go_wp2)
              go_roundg k2
              case measure => have := HJ2.out; have := HK2.out; omega
              case rel => exact ⟨(x7_2), (Int.tmod x6_2 x7_2), (by first | rfl | (simp; done) | (simp [*]; done)), (by first | rfl | (simp; done) | (simp [*]; done)), H', ⟨by have := HJ2.out; have := HK2.out; omega⟩, by repeat (first | exact Drawn0.refl _ | apply Drawn0.step)⟩
          · rw [if_neg c6] at H
            have c6b0 : decide (0 < x7_2) = false := decide_eq_false c6
            clear c6
            by_cases c8 : x6_2 = 0
            · rw [if_pos c8] at H
              exact absurd H (by simp)
            · rw [if_neg c8] at H
              have c8b0 : (x6_2 == 0) = false := beq_eq_false_iff_ne.mpr c8
              have c8b1 : (x6_2 != 0) = true := bne_iff_ne.mpr c8
              simp only [Option.some.injEq, Prod.mk.injEq] at H
              obtain ⟨rfl, rfl⟩ := H
              go_wp2
              repeat (go_quiet (fail); try go_wp2)
              go_ret2
              exact ⟨by first | rfl | (simp; done) | (simp [*]; done), by repeat (first | exact Drawn0.refl _ | apply Drawn0.step)⟩

/-! ### spec_doTime: function 30 -/
def spec_doTime.f (a0_0 : Int) (a0_1 : Int) (a0_2 : Int) (a0_3 : Int) (a1 : Int) (a2 : Int) : Option (Bool) := (spec_l1In.f a1 0 1000).bind fun t128 => (if t128 = true then ((spec_l1In.f a2 1 100).bind fun t129 => (if t129 = true then (some (decide ((wrap64 (a1 * (wrap64 (a0_1 + a0_2)))) ≤ (wrap64 (a0_0 * a2))))) else (some false))) else (some false))
set_option maxHeartbeats 8000000 in
set_option maxRecDepth 100000 in
theorem spec_doTime.calls (a0_0 : Int) (a0_1 : Int) (a0_2 : Int) (a0_3 : Int) (a1 : Int) (a2 : Int) (r : Bool) (w : World) (h : spec_doTime.f a0_0 a0_1 a0_2 a0_3 a1 a2 = some r) :
    Calls Try.prog 30 #[.agg #[.int .i64 a0_0, .int .i64 a0_1, .int .i64 a0_2, .int .i64 a0_3], .int .i64 a1, .int .i64 a2] w fun e w' => e = .returned (.bool r) ∧ Below w.heap.size w w' := by
  have hu26 := Try.underlying26
  have HB := Aside0.mk (Below.refl w.heap.size w)
  have H : ((spec_l1In.f a1 0 1000).bind fun t128 => (if t128 = true then ((spec_l1In.f a2 1 100).bind fun t129 => (if t129 = true then (some (decide ((wrap64 (a1 * (wrap64 (a0_1 + a0_2)))) ≤ (wrap64 (a0_0 * a2))))) else (some false))) else (some false))) = some r := h
  clear h
  replace H := Option.bind_eq_some_iff.mp H
  obtain ⟨t128, A40, H⟩ := H
  replace H : (if t128 = true then ((spec_l1In.f a2 1 100).bind fun t129 => (if t129 = true then (some (decide ((wrap64 (a1 * (wrap64 (a0_1 + a0_2)))) ≤ (wrap64 (a0_0 * a2))))) else (some false))) else (some false)) = some r := H
  have A4 := Aside0.mk A40
  clear A40
  by_cases c5 : t128 = true
  · subst c5
    have H1 : ((spec_l1In.f a2 1 100).bind fun t129 => (if t129 = true then (some (decide ((wrap64 (a1 * (wrap64 (a0_1 + a0_2)))) ≤ (wrap64 (a0_0 * a2))))) else (some false))) = some r := by rw [if_pos rfl] at H; exact H
    clear H
    have H := H1
    clear H1
    replace H := Option.bind_eq_some_iff.mp H
    obtain ⟨t129, A60, H⟩ := H
    replace H : (if t129 = true then (some (decide ((wrap64 (a1 * (wrap64 (a0_1 + a0_2)))) ≤ (wrap64 (a0_0 * a2))))) else (some false)) = some r := H
    have A6 := Aside0.mk A60
    clear A60
    by_cases c7 : t129 = true
    · subst c7
      have H1 : (some (decide ((wrap64 (a1 * (wrap64 (a0_1 + a0_2)))) ≤ (wrap64 (a0_0 * a2))))) = some r := by rw [if_pos rfl] at H; exact H
      clear H
      have H := H1
      clear H1
      obtain rfl := Option.some.inj H
      go_enter Try.func30, Try.ntmps30
      go_wp2_with (first | ((with_reducible refine gate_dst (N := 3) rfl ?_); refine box_event ?hg (N := 3) ?hd (cs := #[.int .i64 a0_0, .int .i64 a0_1, .int .i64 a0_2, .int .i64 a0_3]) (t := 26) ?hr ?_; (case hd => rfl); (case hg => rfl); (case hr => first | (go_simp; done) | (go_simp; rfl)); intro gb127 hg w8 hbox hb; have n0_ := Aside0.mk (below_step (by repeat (first | (with_reducible first | exact HB.out | apply below_alloc | apply pw_below_drewN | apply below_drew1) | exact HB.out)) hb); have n1_ := Aside0.mk (hbox); have n2_ := Aside0.mk ((by rw [hg]; exact (below_size (by repeat (first | (with_reducible first | exact HB.out | apply below_alloc | apply pw_below_drewN | apply below_drew1) | exact HB.out))) : w.heap.size ≤ gb127)); have n3_ := Aside0.mk ((by rw [hg]; exact (below_size (by repeat (first | (with_reducible first | exact HB.out | apply below_alloc | apply pw_below_drewN | apply below_drew1) | exact HB.out))) : w.heap.size ≤ gb127)); clear HB; have HB := n0_; have BK127 := n1_; have GW127 := n2_; have GE127 := n3_; clear n0_ n1_ n2_ n3_; clear hb hbox hg) | ((with_reducible refine gate_callee (f := 23) rfl ?_); refine goesL_ (some 8) rfl rfl Try.func23 (by kernel_rfl) rfl #[.int .i64 a1, .int .i64 0, .int .i64 1000] rfl (by (try simp only [List.map_toArray, List.map_cons, List.map_nil]); first | done | rfl | (simp only [List.length_drop, List.length_take]; rfl)) ?_; (with_reducible refine (spec_l1In.calls a1 0 1000 true _ A4.out).mono ?_); rintro e w' ⟨rfl, ⟨nd, rfl⟩⟩; refine ⟨_, rfl, ?_⟩) | (go_at_call 23; (with_reducible refine (spec_l1In.calls a2 1 100 true _ A6.out).mono ?_); rintro e w' ⟨rfl, ⟨nd, rfl⟩⟩; have hcz9_0 : w8.cell? ⟨gb127, 0, none⟩ = some (.int .i64 a0_0) := (blk_cell BK127.out 0).trans rfl; have hcz9_1 : w8.cell? ⟨gb127, 1, none⟩ = some (.int .i64 a0_1) := (blk_cell BK127.out 1).trans rfl; have hcz9_2 : w8.cell? ⟨gb127, 2, none⟩ = some (.int .i64 a0_2) := (blk_cell BK127.out 2).trans rfl; have hcz9_3 : w8.cell? ⟨gb127, 3, none⟩ = some (.int .i64 a0_3) := (blk_cell BK127.out 3).trans rfl; have hfz9_0 := blk_frozen BK127.out 0; have hfz9_1 := blk_frozen BK127.out 1; have hfz9_2 := blk_frozen BK127.out 2; have hfz9_3 := blk_frozen BK127.out 3))
      go_ret
      exact ⟨by first | rfl | (simp [errW_none, errW_some] <;> rfl) | (simp [*, errW_none, errW_some] <;> rfl), by repeat (first | (with_reducible first | exact HB.out | apply below_alloc | apply pw_below_drewN | apply below_drew1 | refine below_set ?_ GE127.out) | exact HB.out)⟩
    · replace c7 := Bool.eq_false_iff.mpr c7
      subst c7
      have H1 : (some false) = some r := by rw [if_neg (show ¬ (false = true) by decide)] at H; exact H
      clear H
      have H := H1
      clear H1
      obtain rfl := Option.some.inj H
      go_enter Try.func30, Try.ntmps30
      go_wp2_with (first | ((with_reducible refine gate_dst (N := 3) rfl ?_); refine box_event ?hg (N := 3) ?hd (cs := #[.int .i64 a0_0, .int .i64 a0_1, .int .i64 a0_2, .int .i64 a0_3]) (t := 26) ?hr ?_; (case hd => rfl); (case hg => rfl); (case hr => first | (go_simp; done) | (go_simp; rfl)); intro gb127 hg w10 hbox hb; have n0_ := Aside0.mk (below_step (by repeat (first | (with_reducible first | exact HB.out | apply below_alloc | apply pw_below_drewN | apply below_drew1) | exact HB.out)) hb); have n1_ := Aside0.mk (hbox); have n2_ := Aside0.mk ((by rw [hg]; exact (below_size (by repeat (first | (with_reducible first | exact HB.out | apply below_alloc | apply pw_below_drewN | apply below_drew1) | exact HB.out))) : w.heap.size ≤ gb127)); have n3_ := Aside0.mk ((by rw [hg]; exact (below_size (by repeat (first | (with_reducible first | exact HB.out | apply below_alloc | apply pw_below_drewN | apply below_drew1) | exact HB.out))) : w.heap.size ≤ gb127)); clear HB; have HB := n0_; have BK127 := n1_; have GW127 := n2_; have GE127 := n3_; clear n0_ n1_ n2_ n3_; clear hb hbox hg) | ((with_reducible refine gate_callee (f := 23) rfl ?_); refine goesL_ (some 8) rfl rfl Try.func23 (by kernel_rfl) rfl #[.int .i64 a1, .int .i64 0, .int .i64 1000] rfl (by (try simp only [List.map_toArray, List.map_cons, List.map_nil]); first | done | rfl | (simp only [List.length_drop, List.length_take]; rfl)) ?_; (with_reducible refine (spec_l1In.calls a1 0 1000 true _ A4.out).mono ?_); rintro e w' ⟨rfl, ⟨nd, rfl⟩⟩; refine ⟨_, rfl, ?_⟩) | (go_at_call 23; (with_reducible refine (spec_l1In.calls a2 1 100 false _ A6.out).mono ?_); rintro e w' ⟨rfl, ⟨nd, rfl⟩⟩))
      go_ret
      exact ⟨by first | rfl | (simp [errW_none, errW_some] <;> rfl) | (simp [*, errW_none, errW_some] <;> rfl), by repeat (first | (with_reducible first | exact HB.out | apply below_alloc | apply pw_below_drewN | apply below_drew1 | refine below_set ?_ GE127.out) | exact HB.out)⟩
  · replace c5 := Bool.eq_false_iff.mpr c5
    subst c5
    have H1 : (some false) = some r := by rw [if_neg (show ¬ (false = true) by decide)] at H; exact H
    clear H
    have H := H1
    clear H1
    obtain rfl := Option.some.inj H
    go_enter Try.func30, Try.ntmps30
    go_wp2_with (first | ((with_reducible refine gate_dst (N := 3) rfl ?_); refine box_event ?hg (N := 3) ?hd (cs := #[.int .i64 a0_0, .int .i64 a0_1, .int .i64 a0_2, .int .i64 a0_3]) (t := 26) ?hr ?_; (case hd => rfl); (case hg => rfl); (case hr => first | (go_simp; done) | (go_simp; rfl)); intro gb127 hg w11 hbox hb; have n0_ := Aside0.mk (below_step (by repeat (first | (with_reducible first | exact HB.out | apply below_alloc | apply pw_below_drewN | apply below_drew1) | exact HB.out)) hb); have n1_ := Aside0.mk (hbox); have n2_ := Aside0.mk ((by rw [hg]; exact (below_size (by repeat (first | (with_reducible first | exact HB.out | apply below_alloc | apply pw_below_drewN | apply below_drew1) | exact HB.out))) : w.heap.size ≤ gb127)); have n3_ := Aside0.mk ((by rw [hg]; exact (below_size (by repeat (first | (with_reducible first | exact HB.out | apply below_alloc | apply pw_below_drewN | apply below_drew1) | exact HB.out))) : w.heap.size ≤ gb127)); clear HB; have HB := n0_; have BK127 := n1_; have GW127 := n2_; have GE127 := n3_; clear n0_ n1_ n2_ n3_; clear hb hbox hg) | ((with_reducible refine gate_callee (f := 23) rfl ?_); refine goesL_ (some 8) rfl rfl Try.func23 (by kernel_rfl) rfl #[.int .i64 a1, .int .i64 0, .int .i64 1000] rfl (by (try simp only [List.map_toArray, List.map_cons, List.map_nil]); first | done | rfl | (simp only [List.length_drop, List.length_take]; rfl)) ?_; (with_reducible refine (spec_l1In.calls a1 0 1000 false _ A4.out).mono ?_); rintro e w' ⟨rfl, ⟨nd, rfl⟩⟩; refine ⟨_, rfl, ?_⟩))
    go_ret
    exact ⟨by first | rfl | (simp [errW_none, errW_some] <;> rfl) | (simp [*, errW_none, errW_some] <;> rfl), by repeat (first | (with_reducible first | exact HB.out | apply below_alloc | apply pw_below_drewN | apply below_drew1 | refine below_set ?_ GE127.out) | exact HB.out)⟩


/-! ### spec_doBefore: function 31 -/
/-- how many of the turns from one on come up to a time -/
def spec_doBefore.n (a1 a2 : Int) (t : List S41) : Nat → Int → Int → Int
  | 0, _, n => n
  | d + 1, x, n => spec_doBefore.n a1 a2 t d (x + 1) (if (wrap64 ((rd_T41 t x).f0 * a2)) ≤ (wrap64 (a1 * (rd_T41 t x).f4)) then wrap64 (n + 1) else n)
def spec_doBefore.f (k : Nat) (a0_0 : Int) (a0_1 : Int) (a0_2 : Int) (a0_3 : Int) (a1 : Int) (a2 : Int) : Option (Int) := (spec_doRun.f k a0_0 a0_1 a0_2 a0_3 7).bind fun t => (if 2 ≤ t.length then (some (spec_doBefore.n a1 a2 (t.drop 1) (t.drop 1).length 0 0)) else (none))
theorem spec_doBefore.mono : ∀ a0 a1 a2 a3 a4 a5 k, LeO (spec_doBefore.f k a0 a1 a2 a3 a4 a5) (spec_doBefore.f (k + 1) a0 a1 a2 a3 a4 a5) := by
  intro a0 a1 a2 a3 a4 a5 k
  unfold spec_doBefore.f
  exact LeO.bind (spec_doRun.mono _ _ _ _ _ _) (fun _ => LeO.refl _)
set_option maxHeartbeats 8000000 in
set_option maxRecDepth 100000 in
theorem spec_doBefore.calls (k : Nat) (a0_0 : Int) (a0_1 : Int) (a0_2 : Int) (a0_3 : Int) (a1 : Int) (a2 : Int) (r : Int) (w : World) (h : spec_doBefore.f k a0_0 a0_1 a0_2 a0_3 a1 a2 = some r) :
    Calls Try.prog 31 #[.agg #[.int .i64 a0_0, .int .i64 a0_1, .int .i64 a0_2, .int .i64 a0_3], .int .i64 a1, .int .i64 a2] w fun e w' => e = .returned (.int .i64 r) ∧ Below w.heap.size w w' := by
  have hu26 := Try.underlying26
  have hu41 := Try.underlying41
  have H : ((spec_doRun.f k a0_0 a0_1 a0_2 a0_3 7).bind fun t => (if 2 ≤ t.length then (some (spec_doBefore.n a1 a2 (t.drop 1) (t.drop 1).length 0 0)) else (none))) = some r := h
  clear h
  replace H := Option.bind_eq_some_iff.mp H
  obtain ⟨t, A3, H⟩ := H
  have HA := Aside0.mk A3
  clear A3
  by_cases hl : 2 ≤ t.length
  case neg => rw [if_neg hl] at H; cases H
  rw [if_pos hl] at H
  obtain ⟨t0, T, rfl⟩ : ∃ t0 T, t = t0 :: T := by
    cases t with
    | nil => simp at hl
    | cons t0 T => exact ⟨t0, T, rfl⟩
  have HR := Aside0.mk (show spec_doBefore.n a1 a2 T T.length 0 0 = r from Option.some.inj H)
  clear H
  simp only [List.length_cons] at hl
  go_enter Try.func31, Try.ntmps31
  go_upto_block 0 with (go_at_call 24; refine (spec_doRun.calls k a0_0 a0_1 a0_2 a0_3 7 (t0 :: T) _ HA.out).mono ?_; rintro e w1 ⟨v0, rfl, hR, hb⟩; obtain ⟨A0, c0, rfl, hc0, hC⟩ := Kd.R_reads hR; obtain ⟨ad, rfl, hcells⟩ := hC.2.2 (Nat.succ_pos _); clear hcells; replace hc0 : T.length + 1 ≤ c0 := hc0; have c0lt : 1 < c0 := Nat.lt_of_lt_of_le (by omega) hc0; have HB1 := Aside0.mk hb; have HC1 := Aside0.mk hC; clear hR hb hC)
  have HB0 := Aside0.mk (below_step (below_alloc (Below.refl _ _) _) HB1.out)
  have HC := Aside0.mk (show Kd.C k41 w1 (some ⟨ad.block, ad.off + 5, none⟩) T.length T from by
    have z := Kd.C_drop (m := 1) (c := c0) (show Kd.C k41 w1 (some ad) (t0 :: T).length (t0 :: T) from HC1.out) (by simp) (by simpa using hc0)
    rw [if_neg (by omega)] at z
    exact z)
  have HT := Aside0.mk (Kd.C_max HC.out)
  clear HC1 HA HB1 hc0 c0lt
  go_wp2
  go_loopg [7, 14] T.length (fun gg v7 v14 wr => ∃ (x n : Int), v14 = .int .i64 x ∧ v7 = .int .i64 n ∧ Aside0 (0 ≤ x) ∧ Aside0 (x + gg = T.length) ∧ Aside0 (spec_doBefore.n a1 a2 T gg x n = r) ∧ Aside0 (Below w1.heap.size w1 wr))
  case atStart => exact ⟨0, 0, rfl, rfl, ⟨Int.le_refl 0⟩, ⟨by omega⟩, HR, ⟨Below.refl _ _⟩⟩
  case round =>
    obtain ⟨x, n, rfl, rfl, HX, HG, HN, HB⟩ := hrel
    cases gk with
    | zero =>
      have c5b0 : decide (x < (T.length : Int)) = false := decide_eq_false (by have := HG.out; omega)
      go_wp2
      go_ret
      exact ⟨by rw [← HN.out]; rfl, below_step HB0.out HB.out⟩
    | succ d =>
      have c5 : x < (T.length : Int) := by have := HG.out; omega
      have c5b0 : decide (x < (T.length : Int)) = true := decide_eq_true c5
      have c6b0 : decide (0 ≤ x) = true := decide_eq_true HX.out
      obtain ⟨ad1, e1, hx0, hx1, hx2, hx3, hx4⟩ := at_T41 HC.out x HX.out c5
      cases e1
      have ea : (⟨ad.block, ad.off + 5, none⟩ : Addr).add (x.toNat * 5) = ⟨ad.block, ad.off + 5 + x.toNat * 5, none⟩ := by
        unfold Addr.add
        split
        · rename_i h
          rw [h]
        · rfl
      rw [ea] at hx0 hx1 hx2 hx3 hx4
      clear ea
      have p1 : (0 ≤ x) = True := eq_true HX.out
      have q1 : (x < (T.length : Int)) = True := eq_true c5
      clear c5
      replace hx0 : wr.cell? ⟨ad.block, ad.off + 5 + x.toNat * 5, none⟩ = some (.int .i64 (rd_T41 T x).f0) := (HB.out.cell (World.block_lt_of_cell? w1 _ hx0)).trans hx0
      replace hx1 : wr.cell? ⟨ad.block, ad.off + 5 + x.toNat * 5 + 1, none⟩ = some (.int .i64 (rd_T41 T x).f1) := (HB.out.cell (World.block_lt_of_cell? w1 _ hx1)).trans hx1
      replace hx2 : wr.cell? ⟨ad.block, ad.off + 5 + x.toNat * 5 + 2, none⟩ = some (.int .i64 (rd_T41 T x).f2) := (HB.out.cell (World.block_lt_of_cell? w1 _ hx2)).trans hx2
      replace hx3 : wr.cell? ⟨ad.block, ad.off + 5 + x.toNat * 5 + 3, none⟩ = some (.int .i64 (rd_T41 T x).f3) := (HB.out.cell (World.block_lt_of_cell? w1 _ hx3)).trans hx3
      replace hx4 : wr.cell? ⟨ad.block, ad.off + 5 + x.toNat * 5 + 4, none⟩ = some (.int .i64 (rd_T41 T x).f4) := (HB.out.cell (World.block_lt_of_cell? w1 _ hx4)).trans hx4
      have E1 := Aside0.mk (show wrap64 (x + 1) = x + 1 from by have h1 := HG.out; have h2 := HX.out; have h3 := HT.out; unfold wrap64; omega)
      have hn : spec_doBefore.n a1 a2 T (d + 1) x n = spec_doBefore.n a1 a2 T d (x + 1) (if (wrap64 ((rd_T41 T x).f0 * a2)) ≤ (wrap64 (a1 * (rd_T41 T x).f4)) then wrap64 (n + 1) else n) := rfl
      by_cases z : (wrap64 ((rd_T41 T x).f0 * a2)) ≤ (wrap64 (a1 * (rd_T41 T x).f4))
      · rw [if_pos z] at hn
        have H' := Aside0.mk (hn.symm.trans HN.out)
        have zb : decide ((wrap64 ((rd_T41 T x).f0 * a2)) ≤ (wrap64 (a1 * (rd_T41 T x).f4))) = true := decide_eq_true z
        clear hn z
        go_wp2
        go_roundg d
        case measure => omega
        case rel => exact ⟨x + 1, wrap64 (n + 1), (by first | rfl | rw [E1.out] | (simp [E1.out]; done)), (by first | rfl | (simp; done)), ⟨by have := HX.out; omega⟩, ⟨by have := HG.out; omega⟩, H', ⟨below_step (by repeat (first | exact HB.out | apply below_alloc | apply pw_below_drewN | apply below_drew1 | refine below_set ?_ (Nat.le_refl _))) (Below.refl _ _)⟩⟩
      · rw [if_neg z] at hn
        have H' := Aside0.mk (hn.symm.trans HN.out)
        have zb : decide ((wrap64 ((rd_T41 T x).f0 * a2)) ≤ (wrap64 (a1 * (rd_T41 T x).f4))) = false := decide_eq_false z
        clear hn z
        go_wp2
        go_roundg d
        case measure => omega
        case rel => exact ⟨x + 1, n, (by first | rfl | rw [E1.out] | (simp [E1.out]; done)), rfl, ⟨by have := HX.out; omega⟩, ⟨by have := HG.out; omega⟩, H', ⟨below_step (by repeat (first | exact HB.out | apply below_alloc | apply pw_below_drewN | apply below_drew1 | refine below_set ?_ (Nat.le_refl _))) (Below.refl _ _)⟩⟩

end Go.Proofs.Ytigjjeecoplpnaa.PFnExactDogPlace
