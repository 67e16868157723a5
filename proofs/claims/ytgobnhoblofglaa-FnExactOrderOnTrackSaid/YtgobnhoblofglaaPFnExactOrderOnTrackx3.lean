-- Laid by a program of this session's (wip/gen/printp.sh): the functions that the law reaches, each with its walk.
import Derived.Test.YtgobnhoblofglaaPFnExactOrderOnTrackx0
namespace Go.Proofs.Ytgobnhoblofglaa.PFnExactOrderOnTrack
open Go.RowKit Go.Proofs.YtgobnhoblofglaaW.PrintWords Go.Proofs.YtgobnhoblofglaaW.PrintLast Go.Proofs.YtgobnhoblofglaaW.PrintMore
attribute [local go_sem] max2_int min2_int max_two min_two max_three min_three max_four min_four   -- for this text's walks alone
set_option linter.unusedVariables false
set_option linter.unusedSimpArgs false

/-! ### laws_toRunner: function 57 -/
def laws_toRunner.f (a0_0 : Int) (a0_1 : Int) : Option (Int × Int) := some (a0_0, a0_1)
set_option maxHeartbeats 8000000 in
set_option maxRecDepth 100000 in
theorem laws_toRunner.calls (a0_0 : Int) (a0_1 : Int) (r1 : Int) (r2 : Int) (w : World) (h : laws_toRunner.f a0_0 a0_1 = some (r1, r2)) :
    Calls Try.prog 57 #[.agg #[.int .i64 a0_0, .int .i64 a0_1]] w fun e w' => e = .returned (.agg #[.int .i64 r1, .int .i64 r2]) ∧ Below w.heap.size w w' := by
  have hu78 := Try.underlying78
  have hu45 := Try.underlying45
  have HB := Aside0.mk (Below.refl w.heap.size w)
  have H : (some (a0_0, a0_1)) = some (r1, r2) := h
  clear h
  simp only [Option.some.injEq, Prod.mk.injEq] at H
  obtain ⟨rfl, rfl⟩ := H
  go_enter Try.func57, Try.ntmps57
  go_wp2_with (first | ((with_reducible refine gate_dst (N := 1) rfl ?_); refine box_event ?hg (N := 1) ?hd (cs := #[.int .i64 a0_0, .int .i64 a0_1]) (t := 78) ?hr ?_; (case hd => rfl); (case hg => rfl); (case hr => first | (go_simp; done) | (go_simp; rfl)); intro gb160 hg w2 hbox hb; have n0_ := Aside0.mk (below_step (by repeat (first | (with_reducible first | exact HB.out | apply below_alloc | apply pw_below_drewN | apply below_drew1) | exact HB.out)) hb); have n1_ := Aside0.mk (hbox); have n2_ := Aside0.mk ((by rw [hg]; exact (below_size (by repeat (first | (with_reducible first | exact HB.out | apply below_alloc | apply pw_below_drewN | apply below_drew1) | exact HB.out))) : w.heap.size ≤ gb160)); have n3_ := Aside0.mk ((by rw [hg]; exact (below_size (by repeat (first | (with_reducible first | exact HB.out | apply below_alloc | apply pw_below_drewN | apply below_drew1) | exact HB.out))) : w.heap.size ≤ gb160)); clear HB; have HB := n0_; have BK160 := n1_; have GW160 := n2_; have GE160 := n3_; clear n0_ n1_ n2_ n3_; clear hb hbox hg) | ((with_reducible refine gate_dst (N := 2) rfl ?_); refine box_event ?hg (N := 2) ?hd (cs := #[.int .i64 0, .int .i64 0]) (t := 45) ?hr ?_; (case hd => rfl); (case hg => rfl); (case hr => first | (go_simp; done) | (go_simp; rfl)); intro gb161 hg w3 hbox hb; have n0_ := Aside0.mk (blk_below (g := gb160) (o := .cells #[.int .i64 a0_0, .int .i64 a0_1] 78 (0, 0)) (by (with_reducible repeat (first | refine blk_drewN ?_ _ | refine blk_drew ?_ | refine blk_alloc ?_ _)); exact BK160.out) hb); have n1_ := Aside0.mk (below_step (by repeat (first | (with_reducible first | exact HB.out | apply below_alloc | apply pw_below_drewN | apply below_drew1 | refine below_set ?_ GE160.out) | exact HB.out)) hb); have n2_ := Aside0.mk (hbox); have n3_ := Aside0.mk ((by rw [hg]; exact (below_size (by repeat (first | (with_reducible first | exact HB.out | apply below_alloc | apply pw_below_drewN | apply below_drew1 | refine below_set ?_ GE160.out) | exact HB.out))) : w.heap.size ≤ gb161)); have n4_ := Aside0.mk ((by rw [hg]; exact (below_size (by repeat (first | (with_reducible first | exact HB.out | apply below_alloc | apply pw_below_drewN | apply below_drew1 | refine below_set ?_ GE160.out) | exact HB.out))) : w.heap.size ≤ gb161)); have n5_ := Aside0.mk ((by rw [hg]; exact Nat.ne_of_lt (blk_lt (g := gb160) (o := .cells #[.int .i64 a0_0, .int .i64 a0_1] 78 (0, 0)) (by (with_reducible repeat (first | refine blk_drewN ?_ _ | refine blk_drew ?_ | refine blk_alloc ?_ _)); exact BK160.out)) : gb160 ≠ gb161)); have n6_ := Aside0.mk ((by rw [hg]; exact Nat.ne_of_gt (blk_lt (g := gb160) (o := .cells #[.int .i64 a0_0, .int .i64 a0_1] 78 (0, 0)) (by (with_reducible repeat (first | refine blk_drewN ?_ _ | refine blk_drew ?_ | refine blk_alloc ?_ _)); exact BK160.out)) : gb161 ≠ gb160)); clear BK160; clear HB; have BK160 := n0_; have HB := n1_; have BK161 := n2_; have GW161 := n3_; have GE161 := n4_; have NB160_161 := n5_; have NB161_160 := n6_; clear n0_ n1_ n2_ n3_ n4_ n5_ n6_; clear hb hbox hg) | ((with_reducible refine gate_dst (N := 3) rfl ?_); refine box_event ?hg (N := 3) ?hd (cs := #[.int .i64 0, .int .i64 0]) (t := 45) ?hr ?_; (case hd => rfl); (case hg => rfl); (case hr => first | (go_simp; done) | (go_simp; rfl)); intro gb162 hg w4 hbox hb; have n0_ := Aside0.mk (blk_below (g := gb160) (o := .cells #[.int .i64 a0_0, .int .i64 a0_1] 78 (0, 0)) (by (with_reducible repeat (first | refine blk_drewN ?_ _ | refine blk_drew ?_ | refine blk_alloc ?_ _)); exact BK160.out) hb); have n1_ := Aside0.mk (blk_below (g := gb161) (o := .cells #[.int .i64 0, .int .i64 0] 45 (0, 0)) (by (with_reducible repeat (first | refine blk_drewN ?_ _ | refine blk_drew ?_ | refine blk_alloc ?_ _)); exact BK161.out) hb); have n2_ := Aside0.mk (below_step (by repeat (first | (with_reducible first | exact HB.out | apply below_alloc | apply pw_below_drewN | apply below_drew1 | refine below_set ?_ GE160.out | refine below_set ?_ GE161.out) | exact HB.out)) hb); have n3_ := Aside0.mk (hbox); have n4_ := Aside0.mk ((by rw [hg]; exact (below_size (by repeat (first | (with_reducible first | exact HB.out | apply below_alloc | apply pw_below_drewN | apply below_drew1 | refine below_set ?_ GE160.out | refine below_set ?_ GE161.out) | exact HB.out))) : w.heap.size ≤ gb162)); have n5_ := Aside0.mk ((by rw [hg]; exact (below_size (by repeat (first | (with_reducible first | exact HB.out | apply below_alloc | apply pw_below_drewN | apply below_drew1 | refine below_set ?_ GE160.out | refine below_set ?_ GE161.out) | exact HB.out))) : w.heap.size ≤ gb162)); have n6_ := Aside0.mk ((by rw [hg]; exact Nat.ne_of_lt (blk_lt (g := gb160) (o := .cells #[.int .i64 a0_0, .int .i64 a0_1] 78 (0, 0)) (by (with_reducible repeat (first | refine blk_drewN ?_ _ | refine blk_drew ?_ | refine blk_alloc ?_ _)); exact BK160.out)) : gb160 ≠ gb162)); have n7_ := Aside0.mk ((by rw [hg]; exact Nat.ne_of_gt (blk_lt (g := gb160) (o := .cells #[.int .i64 a0_0, .int .i64 a0_1] 78 (0, 0)) (by (with_reducible repeat (first | refine blk_drewN ?_ _ | refine blk_drew ?_ | refine blk_alloc ?_ _)); exact BK160.out)) : gb162 ≠ gb160)); have n8_ := Aside0.mk ((by rw [hg]; exact Nat.ne_of_lt (blk_lt (g := gb161) (o := .cells #[.int .i64 0, .int .i64 0] 45 (0, 0)) (by (with_reducible repeat (first | refine blk_drewN ?_ _ | refine blk_drew ?_ | refine blk_alloc ?_ _)); exact BK161.out)) : gb161 ≠ gb162)); have n9_ := Aside0.mk ((by rw [hg]; exact Nat.ne_of_gt (blk_lt (g := gb161) (o := .cells #[.int .i64 0, .int .i64 0] 45 (0, 0)) (by (with_reducible repeat (first | refine blk_drewN ?_ _ | refine blk_drew ?_ | refine blk_alloc ?_ _)); exact BK161.out)) : gb162 ≠ gb161)); clear BK160; clear BK161; clear HB; have BK160 := n0_; have BK161 := n1_; have HB := n2_; have BK162 := n3_; have GW162 := n4_; have GE162 := n5_; have NB160_162 := n6_; have NB162_160 := n7_; have NB161_162 := n8_; have NB162_161 := n9_; clear n0_ n1_ n2_ n3_ n4_ n5_ n6_ n7_ n8_ n9_; clear hb hbox hg; have hnb5 := NB160_161.out; have hnc5 := NB161_160.out; have hnb6 := NB160_162.out; have hnc6 := NB162_160.out; have hcz7_0 : w4.cell? ⟨gb160, 0, none⟩ = some (.int .i64 a0_0) := (blk_cell BK160.out 0).trans rfl; have hcz7_1 : w4.cell? ⟨gb160, 1, none⟩ = some (.int .i64 a0_1) := (blk_cell BK160.out 1).trans rfl; have hfz7_0 := blk_frozen BK160.out 0; have hfz7_1 := blk_frozen BK160.out 1; have hnb8 := NB162_161.out; have hnc8 := NB161_162.out; have hcz9_0 : w4.cell? ⟨gb162, 0, none⟩ = some (.int .i64 0) := (blk_cell BK162.out 0).trans rfl; have hcz9_1 : w4.cell? ⟨gb162, 1, none⟩ = some (.int .i64 0) := (blk_cell BK162.out 1).trans rfl; have hfz9_0 := blk_frozen BK162.out 0; have hfz9_1 := blk_frozen BK162.out 1; have hcz10_0 : w4.cell? ⟨gb161, 0, none⟩ = some (.int .i64 0) := (blk_cell BK161.out 0).trans rfl; have hcz10_1 : w4.cell? ⟨gb161, 1, none⟩ = some (.int .i64 0) := (blk_cell BK161.out 1).trans rfl; have hfz10_0 := blk_frozen BK161.out 0; have hfz10_1 := blk_frozen BK161.out 1))
  refine bodyPost_ret (results_cell_row rfl _ _ gb161 45 #[.int .i64 a0_0, .int .i64 a0_1] (0, 0) _ rfl (by (with_reducible repeat (first | refine blk_drewN ?_ _ | refine blk_drew ?_ | refine blk_alloc ?_ _)); refine blk_put (cs := #[.int .i64 a0_0, .int .i64 0]) ?_ 1 _ rfl; (with_reducible repeat (first | refine blk_drewN ?_ _ | refine blk_drew ?_ | refine blk_alloc ?_ _)); refine blk_put (cs := #[.int .i64 0, .int .i64 0]) ?_ 0 _ rfl; (with_reducible repeat (first | refine blk_drewN ?_ _ | refine blk_drew ?_ | refine blk_alloc ?_ _)); refine blk_far ?_ NB161_162.out _; (with_reducible repeat (first | refine blk_drewN ?_ _ | refine blk_drew ?_ | refine blk_alloc ?_ _)); refine blk_far ?_ NB161_162.out _; (with_reducible repeat (first | refine blk_drewN ?_ _ | refine blk_drew ?_ | refine blk_alloc ?_ _)); exact BK161.out) Try.underlying45 rfl (by kernel_rfl)) rfl ?_
  exact ⟨by first | rfl | (simp [errW_none, errW_some] <;> rfl) | (simp [*, errW_none, errW_some] <;> rfl), by repeat (first | (with_reducible first | exact HB.out | apply below_alloc | apply pw_below_drewN | apply below_drew1 | refine below_set ?_ GE160.out | refine below_set ?_ GE161.out | refine below_set ?_ GE162.out) | exact HB.out)⟩

/-! ### laws_toRunnerS: function 15 -/
def laws_toRunnerS.l0 : Nat → List (S78) → List (S45) → Int → Option ((List (S45)))
  | 0, _, _, _ => none
  | k + 1, x0, x3, x4 => if x4 < (x0.length : Int) then (if 0 ≤ x4 then ((laws_toRunner.f ((rd_T78 x0 x4).f0) ((rd_T78 x0 x4).f1)).bind fun bt167 => (if x4 < (x3.length : Int) then (laws_toRunnerS.l0 k x0 (x3.set (x4 : Int).toNat (⟨bt167.1, bt167.2⟩ : S45)) (wrap64 (x4 + 1))) else (none))) else (none)) else (some x3)
def laws_toRunnerS.f (k : Nat) (l0 : List (S78)) : Option ((List (S45))) := if 0 ≤ (l0.length : Int) then (if ((l0.length : Int) : Int).toNat ≤ 17592186044416 then (laws_toRunnerS.l0 k l0 (List.replicate ((l0.length : Int) : Int).toNat z45) 0) else (none)) else (none)
theorem laws_toRunnerS.mono_l : ∀ k, (∀ y0 y1 y2, LeO (laws_toRunnerS.l0 k y0 y1 y2) (laws_toRunnerS.l0 (k + 1) y0 y1 y2))
  | 0 => fun _ _ _ r h => by simp [laws_toRunnerS.l0] at h
  | k + 1 => by
    have ih0 := laws_toRunnerS.mono_l k
    · intro y0 y1 y2
      unfold laws_toRunnerS.l0
      repeat' first
      | (with_reducible exact ih0 _ _ _)
      | (with_reducible exact LeO.refl _)
      | (with_reducible exact LeO.none _)
      | (with_reducible refine LeO.ite ?_ ?_)
      | (with_reducible refine LeO.bind ?_ (fun _ => ?_))
      | exact ih0 _ _ _
      | exact LeO.none _
      | refine LeO.ite ?_ ?_
      | refine LeO.bind ?_ (fun _ => ?_)
theorem laws_toRunnerS.mono : ∀ a0 k, LeO (laws_toRunnerS.f k a0) (laws_toRunnerS.f (k + 1) a0) := by
  intro a0 k
  have ih0 := laws_toRunnerS.mono_l k
  unfold laws_toRunnerS.f
  repeat' first
      | (with_reducible exact ih0 _ _ _)
      | (with_reducible exact LeO.refl _)
      | (with_reducible exact LeO.none _)
      | (with_reducible refine LeO.ite ?_ ?_)
      | (with_reducible refine LeO.bind ?_ (fun _ => ?_))
      | exact ih0 _ _ _
      | exact LeO.none _
      | refine LeO.ite ?_ ?_
      | refine LeO.bind ?_ (fun _ => ?_)
set_option maxHeartbeats 8000000 in
set_option maxRecDepth 100000 in
theorem laws_toRunnerS.calls (k : Nat) (A0 : Option Addr) (c0 : Nat) (l0 : List (S78)) (r : List (S45)) (w : World) (hr0 : Kd.C k78 w A0 l0.length l0) (hc0 : l0.length ≤ c0) (h : laws_toRunnerS.f k l0 = some r) :
    Calls Try.prog 15 #[.slice A0 l0.length c0] w fun e w' => ∃ v0_ : Value, e = .returned (v0_) ∧ Kd.R k45 45 w' w.heap.size (fun _ => True) v0_ r ∧ Below w.heap.size w w' := by
  have hu78 := Try.underlying78
  have hu45 := Try.underlying45
  have HR0 := Aside0.mk hr0
  have HC0 := Aside0.mk hc0
  clear hr0 hc0
  have HB := Aside0.mk (Below.refl w.heap.size w)
  have H : (if 0 ≤ (l0.length : Int) then (if ((l0.length : Int) : Int).toNat ≤ 17592186044416 then (laws_toRunnerS.l0 k l0 (List.replicate ((l0.length : Int) : Int).toNat z45) 0) else (none)) else (none)) = some r := h
  clear h
  by_cases c2 : 0 ≤ (l0.length : Int)
  · rw [if_pos c2] at H
    have c2b0 := eq_true c2
    have c2b1 : decide (0 ≤ (l0.length : Int)) = true := decide_eq_true c2
    clear c2
    by_cases c3 : ((l0.length : Int) : Int).toNat ≤ 17592186044416
    · rw [if_pos c3] at H
      have c3b0 := eq_true c3
      have c3b1 : decide (((l0.length : Int) : Int).toNat ≤ 17592186044416) = true := decide_eq_true c3
      clear c3
      obtain ⟨y163, hy163⟩ : ∃ y_ : List (S45), y_ = (List.replicate ((l0.length : Int) : Int).toNat z45) := ⟨_, rfl⟩
      replace H : (laws_toRunnerS.l0 k l0 y163 0) = some r := by first | (rw [hy163]; with_reducible exact H) | (have H2_ := (Option.bind_some _ _).symm.trans H; rw [hy163]; with_reducible exact H2_) | (have H2_ := (Option.bind_some _ _).symm.trans H; with_reducible exact H2_) | with_reducible exact H | (rw [hy163]; exact H) | exact H
      have Ny163 := Aside0.mk hy163
      clear hy163
      have H' := Aside0.mk H
      clear H
      go_enter Try.func15, Try.ntmps15
      go_wp2_with (first | ((with_reducible refine gate_dst (N := 7) rfl ?_); refine Kd.R_make k45 _ 45 rfl (N := 7) rfl 37 _ _ rfl (l0.length : Int) rfl rfl Try.underlying37 (.agg #[(.int .i64 0), (.int .i64 0)]) 16 info45 rfl (by decide) (by omega) z45 (ok := fun _ => True) (okp := fun _ => True) (k45_mkM _ _ _ z45 ) (fun _ hk => hk) trivial (of_decide_eq_true (by first | (with_reducible assumption) | assumption)) (Nat.le_trans (Nat.mul_le_mul_right _ (of_decide_eq_true (by first | (with_reducible assumption) | assumption) : (l0.length : Int).toNat ≤ 17592186044416)) (by omega)) (Below.refl _ _) (Nat.le_refl _) ?_; intro v164 w4 ho5 hb hg_ hnew_; clear hg_ hnew_; (first | rw [← Ny163.out] at ho5 | (simp only [Int.reduceToNat] at ho5; rw [← Ny163.out] at ho5)); have n0_ := Aside0.mk (Kd.R_lower ho5 (below_size (by repeat (first | (with_reducible first | exact HB.out | apply below_alloc | apply pw_below_drewN | apply below_drew1) | exact HB.out)))); have n1_ := Aside0.mk (below_step (by repeat (first | (with_reducible first | exact HB.out | apply below_alloc | apply pw_below_drewN | apply below_drew1) | exact HB.out)) hb); clear HB; have HO165 := n0_; have HB := n1_; clear n0_ n1_; clear hb ho5))
      go_loopg [4] k (fun kq v4 w' => ∃ (x3_1 : List (S45)) (x4_1 : Int), v4 = .int .i64 x4_1 ∧ Aside0 (laws_toRunnerS.l0 kq l0 x3_1 x4_1 = some r) ∧ Aside0 (kq ≤ k) ∧ Aside0 (Kd.R k45 45 w' w.heap.size (fun _ => True) v164 x3_1) ∧ Aside0 (Below w.heap.size w w'))
      case atStart => exact ⟨(y163), (0), (by first | rfl | (simp; done) | (simp [*]; done)), H', ⟨Nat.le_refl _⟩, ⟨by (with_reducible repeat (first | apply Kd.R_alloc | apply Kd.R_drewN | apply Kd.R_drew)); exact HO165.out⟩, ⟨by repeat (first | (with_reducible first | exact HB.out | apply below_alloc | apply pw_below_drewN | apply below_drew1) | exact HB.out)⟩⟩
      case round =>
        clear H'
        try clear c1
        try clear c2
        try clear c2b0
        try clear c2b1
        try clear p2
        try clear c3
        try clear c3b0
        try clear c3b1
        obtain ⟨x3_1, x4_1, rfl, HA, HK1, HO_3, HB⟩ := hrel
        cases gk with
        | zero => exact absurd HA.out (by simp [laws_toRunnerS.l0])
        | succ k1 =>
          have H := HA.out
          clear HA
          simp only [laws_toRunnerS.l0] at H
          by_cases c6 : x4_1 < (l0.length : Int)
          · rw [if_pos c6] at H
            have c6b0 : decide (x4_1 < (l0.length : Int)) = true := decide_eq_true c6
            clear c6
            by_cases c7 : 0 ≤ x4_1
            · rw [if_pos c7] at H
              have c7b0 : decide (0 ≤ x4_1) = true := decide_eq_true c7
              clear c7
              replace H := Option.bind_eq_some_iff.mp H
              obtain ⟨⟨t167, t168⟩, A80, H⟩ := H
              replace H : (if x4_1 < (x3_1.length : Int) then (laws_toRunnerS.l0 k1 l0 (x3_1.set (x4_1 : Int).toNat (⟨t167, t168⟩ : S45)) (wrap64 (x4_1 + 1))) else (none)) = some r := H
              have A8 := Aside0.mk A80
              clear A80
              by_cases c9 : x4_1 < (x3_1.length : Int)
              · rw [if_pos c9] at H
                have c9b0 : decide (x4_1 < (x3_1.length : Int)) = true := decide_eq_true c9
                clear c9
                obtain ⟨y169, hy169⟩ : ∃ y_ : List (S45), y_ = (x3_1.set (x4_1 : Int).toNat (⟨t167, t168⟩ : S45)) := ⟨_, rfl⟩
                replace H : (laws_toRunnerS.l0 k1 l0 y169 (wrap64 (x4_1 + 1))) = some r := by first | (rw [hy169]; with_reducible exact H) | (have H2_ := (Option.bind_some _ _).symm.trans H; rw [hy169]; with_reducible exact H2_) | (have H2_ := (Option.bind_some _ _).symm.trans H; with_reducible exact H2_) | with_reducible exact H | (rw [hy169]; exact H) | exact H
                have Ny169 := Aside0.mk hy169
                clear hy169
                have H' := Aside0.mk H
                clear H
                have p166 : 0 ≤ (x4_1 : Int) := of_decide_eq_true (by first | (with_reducible assumption) | assumption)
                have q166 : x4_1 < (l0.length : Int) := of_decide_eq_true (by first | (with_reducible assumption) | assumption)
                obtain ⟨ad166, e166, hx166_0, hx166_1⟩ := at_T78 HR0.out x4_1 p166 q166
                cases e166
                replace hx166_0 := (HB.out.cell (World.block_lt_of_cell? w _ hx166_0)).trans hx166_0
                replace hx166_1 := (HB.out.cell (World.block_lt_of_cell? w _ hx166_1)).trans hx166_1
                replace p166 := eq_true p166
                replace q166 := eq_true q166
                go_wp2_with (first | ((with_reducible refine gate_callee (f := 57) rfl ?_); refine goesL_ (some 20) rfl rfl Try.func57 (by kernel_rfl) rfl #[.agg #[.int .i64 ((rd_T78 l0 x4_1).f0), .int .i64 ((rd_T78 l0 x4_1).f1)]] rfl (by (try simp only [List.map_toArray, List.map_cons, List.map_nil]); first | done | rfl | (simp only [List.length_drop, List.length_take]; rfl)) ?_; (with_reducible refine (laws_toRunner.calls ((rd_T78 l0 x4_1).f0) ((rd_T78 l0 x4_1).f1) t167 t168 _ A8.out).mono ?_); rintro e w11 ⟨rfl, hb⟩; refine ⟨_, rfl, ?_⟩; have n0_ := Aside0.mk (Kd.R_below (by (with_reducible repeat (first | apply Kd.R_alloc | apply Kd.R_drewN | apply Kd.R_drew)); exact HO_3.out) hb); have n1_ := Aside0.mk (below_step (by repeat (first | (with_reducible first | exact HB.out | apply below_alloc | apply pw_below_drewN | apply below_drew1) | exact HB.out)) hb); clear HO_3; clear HB; have HO_3 := n0_; have HB := n1_; clear n0_ n1_; (try clear hb); (try clear hb2); (try clear hk); (try clear hi); have p10 : 0 ≤ (x4_1 : Int) := of_decide_eq_true (by first | (with_reducible assumption) | assumption); have q10 : (x4_1 : Int) < ((x3_1.length : Int) : Int) := of_decide_eq_true (by first | (with_reducible assumption) | assumption); obtain ⟨go10, co10, eo10, gb10, gl10, cl10, HG10⟩ := Kd.R_form HO_3.out (by omega); (first | cases eo10 | (injection eo10 with ea_ en_ ec_; (first | subst ea_ | (injection ea_ with ea_; subst ea_)); subst ec_; clear en_)); have GB10 := Aside0.mk gb10; have GG10 := Aside0.mk HG10; clear gb10 gl10 HG10; obtain ⟨ce10, hcl10, hM10, hcc10, hfr10⟩ := Kd.R_elem HO_3.out z45 (x4_1 : Int) p10 q10; obtain rfl := k45_openM hM10; have hx10_0 : w11.cell? ⟨go10, (x4_1 : Int).toNat * 2, none⟩ = some (.int .i64 ((rd_T45 x3_1 x4_1).f0)) := hcc10 0 _ rfl; have hx10_1 : w11.cell? ⟨go10, (x4_1 : Int).toNat * 2 + 1, none⟩ = some (.int .i64 ((rd_T45 x3_1 x4_1).f1)) := hcc10 1 _ rfl; have hf10_0 : w11.frozen? ⟨go10, (x4_1 : Int).toNat * 2, none⟩ = false := hfr10 0; have hf10_1 : w11.frozen? ⟨go10, (x4_1 : Int).toNat * 2 + 1, none⟩ = false := hfr10 1; (clear hcl10 hcc10 hfr10); (try clear hM10); replace p10 := eq_true p10; replace q10 := eq_true q10; have HX12 := Aside0.mk (show Kd.R k45 45 w11 w.heap.size (fun _ => True) (.slice (some ⟨go10, 0, none⟩) x3_1.length co10) x3_1 from (by (with_reducible repeat (first | apply Kd.R_alloc | apply Kd.R_drewN | apply Kd.R_drew)); exact HO_3.out)); obtain ⟨ce12, hcl12, hM12, hcc12, hfr12⟩ := Kd.R_elem HX12.out z45 (x4_1 : Int) (of_decide_eq_true (by first | (with_reducible assumption) | assumption)) (by have h_ : (x4_1 : Int) < ((x3_1.length : Int) : Int) := of_decide_eq_true (by first | (with_reducible assumption) | assumption); first | exact h_ | (have e_ := (Kd.R_reads' HO_3.out).1; omega) | simpa using h_); obtain rfl := k45_openM hM12; have HP12 := Kd.R_seg HX12.out (x4_1 : Int) (of_decide_eq_true (by first | (with_reducible assumption) | assumption)) (by have h_ : (x4_1 : Int) < ((x3_1.length : Int) : Int) := of_decide_eq_true (by first | (with_reducible assumption) | assumption); first | exact h_ | (have e_ := (Kd.R_reads' HO_3.out).1; omega) | simpa using h_) (seg := [.int .i64 t167, .int .i64 t168]) (j := 0) hcl12 hcc12 (show 2 ≤ 2 from by decide) (x' := (⟨t167, t168⟩ : S45)) (k45_mkM _ _ _ (⟨t167, t168⟩ : S45) ) (fun _ hk => hk); have hx12_0 := hcc12 0 _ rfl; (try simp only [show (k45).sz = 2 from rfl, Nat.mul_one, Nat.add_zero] at hx12_0); have hf12_0 := hfr12 0; (try simp only [show (k45).sz = 2 from rfl, Nat.mul_one, Nat.add_zero] at hf12_0); have hx12_1 := hcc12 1 _ rfl; (try simp only [show (k45).sz = 2 from rfl, Nat.mul_one, Nat.add_zero] at hx12_1); have hf12_1 := hfr12 1; (try simp only [show (k45).sz = 2 from rfl, Nat.mul_one, Nat.add_zero] at hf12_1); (clear hcl12 hcc12 hfr12); (try clear hM12)) | ((with_reducible refine gate_store (t := 45) (p := 21) rfl ?_); refine store_event (t := 45) (p := 21) (v := ?vo_w13) (w1 := ((w11.setCell ⟨go10, (x4_1 : Int).toNat * 2, none⟩ (.int .i64 t167)).setCell ⟨go10, (x4_1 : Int).toNat * 2 + 1, none⟩ (.int .i64 t168))) ?hg ?ho ?hn ?hr ?_; (case ho => rfl); (case hg => rfl); (case hn => rfl); (case hr => first | (go_simp; done) | (go_simp; rfl)); intro w13 hw; have hg : w11.grownBy w13 (some go10) := (by rw [hw]; exact HP12.2); have hp_ : Kd.R k45 45 w13 w.heap.size (fun _ => True) (.slice (some ⟨go10, 0, none⟩) x3_1.length co10) y169 := (by rw [hw, Ny169.out]; exact HP12.1); clear HP12; have n0_ := Aside0.mk (hp_); have n1_ := Aside0.mk ((by rw [hw]; exact below_set (below_set (HB.out) GB10.out) GB10.out : Below w.heap.size w w13)); clear HO_3; clear HB; have HO_3 := n0_; have HB := n1_; clear n0_ n1_; clear hg hw hp_))
                go_roundg k1
                case measure => have := HK1.out; omega
                case rel => exact ⟨(y169), (wrap64 (x4_1 + 1)), (by first | rfl | (simp; done) | (simp [*]; done)), H', ⟨by have := HK1.out; omega⟩, ⟨by (with_reducible repeat (first | apply Kd.R_alloc | apply Kd.R_drewN | apply Kd.R_drew)); exact HO_3.out⟩, ⟨by repeat (first | (with_reducible first | exact HB.out | apply below_alloc | apply pw_below_drewN | apply below_drew1) | exact HB.out)⟩⟩
              · rw [if_neg c9] at H
                exact absurd H (by simp)
            · rw [if_neg c7] at H
              exact absurd H (by simp)
          · rw [if_neg c6] at H
            have c6b0 : decide (x4_1 < (l0.length : Int)) = false := decide_eq_false c6
            clear c6
            obtain rfl := Option.some.inj H
            go_wp2
            go_ret
            exact ⟨_, by first | rfl | (simp [errW_none, errW_some] <;> rfl) | (simp [*, errW_none, errW_some] <;> rfl), by (with_reducible repeat (first | apply Kd.R_alloc | apply Kd.R_drewN | apply Kd.R_drew)); exact HO_3.out, by repeat (first | (with_reducible first | exact HB.out | apply below_alloc | apply pw_below_drewN | apply below_drew1) | exact HB.out)⟩
    · rw [if_neg c3] at H
      exact absurd H (by simp)
  · rw [if_neg c2] at H
    exact absurd H (by simp)

/-! ### impl_within: function 65 -/
def impl_within.f (a0 : Int) (a1 : Int) (a2 : Int) : Option (Bool) := if a0 ≥ a1 then (some (decide (a0 ≤ a2))) else (some false)
set_option maxHeartbeats 8000000 in
set_option maxRecDepth 100000 in
theorem impl_within.calls (a0 : Int) (a1 : Int) (a2 : Int) (r : Bool) (w : World) (h : impl_within.f a0 a1 a2 = some r) :
    Calls Try.prog 65 #[.int .i64 a0, .int .i64 a1, .int .i64 a2] w fun e w' => e = .returned (.bool r) ∧ Drawn0 w w' := by
  have H : (if a0 ≥ a1 then (some (decide (a0 ≤ a2))) else (some false)) = some r := h
  clear h
  by_cases c4 : a0 ≥ a1
  · rw [if_pos c4] at H
    have c4b0 : decide (a1 ≤ a0) = true := decide_eq_true c4
    clear c4
    obtain rfl := Option.some.inj H
    go_enter Try.func65, Try.ntmps65
    go_wp2
    go_ret
    exact ⟨by first | rfl | (simp; done) | (simp [*]; done), by repeat (first | exact Drawn0.refl _ | apply Drawn0.step)⟩
  · rw [if_neg c4] at H
    have c4b0 : decide (a1 ≤ a0) = false := decide_eq_false c4
    clear c4
    obtain rfl := Option.some.inj H
    go_enter Try.func65, Try.ntmps65
    go_wp2
    go_ret
    exact ⟨by first | rfl | (simp; done) | (simp [*]; done), by repeat (first | exact Drawn0.refl _ | apply Drawn0.step)⟩

/-! ### impl_isRunner: function 77 -/
def impl_isRunner.f (a0 : Int) (a1_0 : Int) (a1_1 : Int) : Option (Bool) := (impl_within.f a1_0 0 (wrap64 (a0 - 1))).bind fun t171 => (if t171 = true then ((impl_within.f a1_1 1 100).bind fun t172 => (some t172)) else (some false))
set_option maxHeartbeats 8000000 in
set_option maxRecDepth 100000 in
theorem impl_isRunner.calls (a0 : Int) (a1_0 : Int) (a1_1 : Int) (r : Bool) (w : World) (h : impl_isRunner.f a0 a1_0 a1_1 = some r) :
    Calls Try.prog 77 #[.int .i64 a0, .agg #[.int .i64 a1_0, .int .i64 a1_1]] w fun e w' => e = .returned (.bool r) ∧ Below w.heap.size w w' := by
  have hu45 := Try.underlying45
  have HB := Aside0.mk (Below.refl w.heap.size w)
  have H : ((impl_within.f a1_0 0 (wrap64 (a0 - 1))).bind fun t171 => (if t171 = true then ((impl_within.f a1_1 1 100).bind fun t172 => (some t172)) else (some false))) = some r := h
  clear h
  replace H := Option.bind_eq_some_iff.mp H
  obtain ⟨t171, A30, H⟩ := H
  replace H : (if t171 = true then ((impl_within.f a1_1 1 100).bind fun t172 => (some t172)) else (some false)) = some r := H
  have A3 := Aside0.mk A30
  clear A30
  by_cases c4 : t171 = true
  · subst c4
    have H1 : ((impl_within.f a1_1 1 100).bind fun t172 => (some t172)) = some r := by rw [if_pos rfl] at H; exact H
    clear H
    have H := H1
    clear H1
    replace H := Option.bind_eq_some_iff.mp H
    obtain ⟨t172, A50, H⟩ := H
    replace H : (some t172) = some r := H
    have A5 := Aside0.mk A50
    clear A50
    obtain rfl := Option.some.inj H
    go_enter Try.func77, Try.ntmps77
    go_wp2_with (first | ((with_reducible refine gate_dst (N := 3) rfl ?_); refine box_event ?hg (N := 3) ?hd (cs := #[.int .i64 a1_0, .int .i64 a1_1]) (t := 45) ?hr ?_; (case hd => rfl); (case hg => rfl); (case hr => first | (go_simp; done) | (go_simp; rfl)); intro gb170 hg w6 hbox hb; have n0_ := Aside0.mk (below_step (by repeat (first | (with_reducible first | exact HB.out | apply below_alloc | apply pw_below_drewN | apply below_drew1) | exact HB.out)) hb); have n1_ := Aside0.mk (hbox); have n2_ := Aside0.mk ((by rw [hg]; exact (below_size (by repeat (first | (with_reducible first | exact HB.out | apply below_alloc | apply pw_below_drewN | apply below_drew1) | exact HB.out))) : w.heap.size ≤ gb170)); have n3_ := Aside0.mk ((by rw [hg]; exact (below_size (by repeat (first | (with_reducible first | exact HB.out | apply below_alloc | apply pw_below_drewN | apply below_drew1) | exact HB.out))) : w.heap.size ≤ gb170)); clear HB; have HB := n0_; have BK170 := n1_; have GW170 := n2_; have GE170 := n3_; clear n0_ n1_ n2_ n3_; clear hb hbox hg; have hcz7_0 : w6.cell? ⟨gb170, 0, none⟩ = some (.int .i64 a1_0) := (blk_cell BK170.out 0).trans rfl; have hcz7_1 : w6.cell? ⟨gb170, 1, none⟩ = some (.int .i64 a1_1) := (blk_cell BK170.out 1).trans rfl; have hfz7_0 := blk_frozen BK170.out 0; have hfz7_1 := blk_frozen BK170.out 1) | ((with_reducible refine gate_callee (f := 65) rfl ?_); refine goesL_ (some 9) rfl rfl Try.func65 (by kernel_rfl) rfl #[.int .i64 a1_0, .int .i64 0, .int .i64 (wrap64 (a0 - 1))] rfl (by (try simp only [List.map_toArray, List.map_cons, List.map_nil]); first | done | rfl | (simp only [List.length_drop, List.length_take]; rfl)) ?_; (with_reducible refine (impl_within.calls a1_0 0 (wrap64 (a0 - 1)) true _ A3.out).mono ?_); rintro e w' ⟨rfl, ⟨nd, rfl⟩⟩; refine ⟨_, rfl, ?_⟩) | (go_at_call 65; (with_reducible refine (impl_within.calls a1_1 1 100 t172 _ A5.out).mono ?_); rintro e w' ⟨rfl, ⟨nd, rfl⟩⟩))
    go_ret
    exact ⟨by first | rfl | (simp [errW_none, errW_some] <;> rfl) | (simp [*, errW_none, errW_some] <;> rfl), by repeat (first | (with_reducible first | exact HB.out | apply below_alloc | apply pw_below_drewN | apply below_drew1 | refine below_set ?_ GE170.out) | exact HB.out)⟩
  · replace c4 := Bool.eq_false_iff.mpr c4
    subst c4
    have H1 : (some false) = some r := by rw [if_neg (show ¬ (false = true) by decide)] at H; exact H
    clear H
    have H := H1
    clear H1
    obtain rfl := Option.some.inj H
    go_enter Try.func77, Try.ntmps77
    go_wp2_with (first | ((with_reducible refine gate_dst (N := 3) rfl ?_); refine box_event ?hg (N := 3) ?hd (cs := #[.int .i64 a1_0, .int .i64 a1_1]) (t := 45) ?hr ?_; (case hd => rfl); (case hg => rfl); (case hr => first | (go_simp; done) | (go_simp; rfl)); intro gb170 hg w8 hbox hb; have n0_ := Aside0.mk (below_step (by repeat (first | (with_reducible first | exact HB.out | apply below_alloc | apply pw_below_drewN | apply below_drew1) | exact HB.out)) hb); have n1_ := Aside0.mk (hbox); have n2_ := Aside0.mk ((by rw [hg]; exact (below_size (by repeat (first | (with_reducible first | exact HB.out | apply below_alloc | apply pw_below_drewN | apply below_drew1) | exact HB.out))) : w.heap.size ≤ gb170)); have n3_ := Aside0.mk ((by rw [hg]; exact (below_size (by repeat (first | (with_reducible first | exact HB.out | apply below_alloc | apply pw_below_drewN | apply below_drew1) | exact HB.out))) : w.heap.size ≤ gb170)); clear HB; have HB := n0_; have BK170 := n1_; have GW170 := n2_; have GE170 := n3_; clear n0_ n1_ n2_ n3_; clear hb hbox hg; have hcz9_0 : w8.cell? ⟨gb170, 0, none⟩ = some (.int .i64 a1_0) := (blk_cell BK170.out 0).trans rfl; have hcz9_1 : w8.cell? ⟨gb170, 1, none⟩ = some (.int .i64 a1_1) := (blk_cell BK170.out 1).trans rfl; have hfz9_0 := blk_frozen BK170.out 0; have hfz9_1 := blk_frozen BK170.out 1) | ((with_reducible refine gate_callee (f := 65) rfl ?_); refine goesL_ (some 9) rfl rfl Try.func65 (by kernel_rfl) rfl #[.int .i64 a1_0, .int .i64 0, .int .i64 (wrap64 (a0 - 1))] rfl (by (try simp only [List.map_toArray, List.map_cons, List.map_nil]); first | done | rfl | (simp only [List.length_drop, List.length_take]; rfl)) ?_; (with_reducible refine (impl_within.calls a1_0 0 (wrap64 (a0 - 1)) false _ A3.out).mono ?_); rintro e w' ⟨rfl, ⟨nd, rfl⟩⟩; refine ⟨_, rfl, ?_⟩))
    go_ret
    exact ⟨by first | rfl | (simp [errW_none, errW_some] <;> rfl) | (simp [*, errW_none, errW_some] <;> rfl), by repeat (first | (with_reducible first | exact HB.out | apply below_alloc | apply pw_below_drewN | apply below_drew1 | refine below_set ?_ GE170.out) | exact HB.out)⟩


/-! ### impl_AreRunners: function 40 -/
/-- where the first element lies of which p holds, else -1 -/
def idxOf (p : S45 → Bool) (l : List S45) : Int := if l.any p then (l.findIdx p : Int) else -1
theorem idxOf_nonneg (p : S45 → Bool) (l : List S45) : decide (0 ≤ idxOf p l) = l.any p := by
  unfold idxOf
  split
  · rename_i h
    rw [h]
    exact decide_eq_true (Int.natCast_nonneg _)
  · rename_i h
    rw [Bool.not_eq_true] at h
    rw [h]
    rfl
theorem idxOf_hit (p : S45 → Bool) (l : List S45) (x : Int) (h0 : 0 ≤ x) (h1 : x < (l.length : Int)) (hp : p (rd_T45 l x) = true) (hn : ∀ j : Nat, (j : Int) < x → p (rd_T45 l j) = false) : idxOf p l = x := by
  obtain ⟨n, rfl⟩ := Int.eq_ofNat_of_zero_le h0
  have hlt : n < l.length := by omega
  have e : ∀ j : Nat, (hj : j < l.length) → rd_T45 l (j : Int) = l[j] := fun j hj => by simp [rd_T45, hj]
  have hany : l.any p = true := List.any_eq_true.mpr ⟨l[n], List.getElem_mem hlt, by rw [← e n hlt]; exact hp⟩
  unfold idxOf
  rw [if_pos hany]
  congr 1
  rw [List.findIdx_eq hlt]
  exact ⟨by rw [← e n hlt]; exact hp, fun j hj => by rw [← e j (by omega)]; simpa using hn j (by omega)⟩
theorem idxOf_miss (p : S45 → Bool) (l : List S45) (hn : ∀ j : Nat, (j : Int) < (l.length : Int) → p (rd_T45 l j) = false) : idxOf p l = -1 := by
  have e : ∀ j : Nat, (hj : j < l.length) → rd_T45 l (j : Int) = l[j] := fun j hj => by simp [rd_T45, hj]
  unfold idxOf
  rw [if_neg]
  intro h
  obtain ⟨y, hy, hp⟩ := List.any_eq_true.mp h
  obtain ⟨j, hj, rfl⟩ := List.mem_iff_getElem.mp hy
  have := hn j (by omega)
  rw [e j hj, hp] at this
  cases this
set_option maxHeartbeats 8000000 in
set_option maxRecDepth 100000 in
theorem IndexFunc_R (g : Nat) (lb : Array Value) (eg : ∀ args w, (Go.callFunc g args).run Try.prog w = .ok (.enter g args) w) (p : S45 → Bool) (A0 : Option Addr) (c0 : Nat) (l : List S45) (w : World)
    (hp : ∀ (W : World) (x : S45), Below w.heap.size w W → Calls Try.prog g (#[.agg #[.int .i64 x.f0, .int .i64 x.f1]] ++ lb) W fun e w' => e = .returned (.bool (p x)) ∧ Below W.heap.size W w')
    (hr0 : Kd.C k45 w A0 l.length l) (hc0 : l.length ≤ c0) :
    Calls Try.prog 92 #[.slice A0 l.length c0, .func (.func g) #[] lb] w fun e w' => e = .returned (.int .i64 (idxOf p l)) ∧ Below w.heap.size w w' := by
  have hu26 := Try.underlying45
  have HM := Aside0.mk (Kd.C_max hr0)
  have HR0 := Aside0.mk hr0
  have HC0 := Aside0.mk hc0
  have HP := Aside0.mk hp
  clear hr0 hc0 hp
  go_enter Try.func92, Try.ntmps92
  go_wp2
  go_loopg [5, 8] l.length (fun gg _ s8 wr => ∃ x : Int, s8 = .int .i64 x ∧ Aside0 (0 ≤ x) ∧ Aside0 (x ≤ (l.length : Int)) ∧ Aside0 ((l.length : Int) - x ≤ gg) ∧ Aside0 (Below w.heap.size w wr) ∧ Aside0 (∀ j : Nat, (j : Int) < x → p (rd_T45 l j) = false))
  case atStart => exact ⟨0, rfl, ⟨Int.le_refl 0⟩, ⟨Int.natCast_nonneg _⟩, ⟨by omega⟩, ⟨Below.refl _ w⟩, ⟨fun j hj => by omega⟩⟩
  case round =>
    obtain ⟨x, rfl, HX, HL, HG, HB, HA⟩ := hrel
    by_cases c5 : x < (l.length : Int)
    · have c5b0 : decide (x < (l.length : Int)) = true := decide_eq_true c5
      have c6b0 : decide (0 ≤ x) = true := decide_eq_true HX.out
      have C5 := Aside0.mk c5
      have p107 : 0 ≤ (x : Int) := HX.out
      have q107 : x < (l.length : Int) := c5
      obtain ⟨ad107, e107, hx107_0, hx107_1⟩ := at_T45 HR0.out x p107 q107
      cases e107
      replace hx107_0 := (HB.out.cell (World.block_lt_of_cell? w _ hx107_0)).trans hx107_0
      replace hx107_1 := (HB.out.cell (World.block_lt_of_cell? w _ hx107_1)).trans hx107_1
      have hcall := HP.out wr (rd_T45 l x) HB.out
      clear c5
      replace p107 := eq_true p107
      replace q107 := eq_true q107
      cases hq : p (rd_T45 l x) with
      | true =>
        rw [hq] at hcall
        have HQ := Aside0.mk hq
        clear hq
        go_wp2_with (go_at_fn g; refine hcall.mono ?_; rintro e w' ⟨rfl, hb⟩)
        go_ret
        exact ⟨by rw [idxOf_hit p l x HX.out C5.out HQ.out HA.out]; rfl, below_step HB.out hb⟩
      | false =>
        rw [hq] at hcall
        have HQ := Aside0.mk hq
        clear hq
        go_wp2_with (go_at_fn g; refine hcall.mono ?_; rintro e w' ⟨rfl, hb⟩)
        go_roundg (l.length - (x + 1).toNat)
        case measure =>
          have := C5.out
          have := HX.out
          have := HG.out
          omega
        case rel =>
          have h1 := C5.out
          have h2 := HX.out
          have h3 := HM.out
          have e1 : wrap64 (x + 1) = x + 1 := by unfold wrap64; omega
          refine ⟨x + 1, (by first | rfl | rw [e1] | (simp [e1]; done)), ⟨by omega⟩, ⟨by omega⟩, ⟨by omega⟩, ⟨below_step HB.out hb⟩, ⟨fun j hj => ?_⟩⟩
          by_cases e : (j : Int) = x
          · rw [e]
            exact HQ.out
          · exact HA.out j (by omega)
    · have c5b0 : decide (x < (l.length : Int)) = false := decide_eq_false c5
      have C5 := Aside0.mk c5
      clear c5
      go_wp2
      go_ret
      exact ⟨by rw [idxOf_miss p l (fun j hj => HA.out j (by have := C5.out; omega))]; rfl, HB.out⟩
set_option maxHeartbeats 8000000 in
set_option maxRecDepth 100000 in
theorem ContainsFunc_R (g : Nat) (lb : Array Value) (eg : ∀ args w, (Go.callFunc g args).run Try.prog w = .ok (.enter g args) w) (p : S45 → Bool) (A0 : Option Addr) (c0 : Nat) (l : List S45) (w : World)
    (hp : ∀ (W : World) (x : S45), Below w.heap.size w W → Calls Try.prog g (#[.agg #[.int .i64 x.f0, .int .i64 x.f1]] ++ lb) W fun e w' => e = .returned (.bool (p x)) ∧ Below W.heap.size W w')
    (hr0 : Kd.C k45 w A0 l.length l) (hc0 : l.length ≤ c0) :
    Calls Try.prog 75 #[.slice A0 l.length c0, .func (.func g) #[] lb] w fun e w' => e = .returned (.bool (l.any p)) ∧ Below w.heap.size w w' := by
  have HC := Aside0.mk (IndexFunc_R g lb eg p A0 c0 l w hp hr0 hc0)
  have HI := Aside0.mk (idxOf_nonneg p l)
  clear hr0 hc0 hp eg
  go_enter Try.func75, Try.ntmps75
  go_wp2_with (go_at_call 92; refine HC.out.mono ?_; rintro e w' ⟨rfl, hb⟩)
  go_ret
  exact ⟨by rw [← HI.out]; rfl, hb⟩
theorem within_total (a b c : Int) : ∃ r, impl_within.f a b c = some r := by
  unfold impl_within.f
  split <;> exact ⟨_, rfl⟩
theorem isRunner_total (a b c : Int) : ∃ r, impl_isRunner.f a b c = some r := by
  obtain ⟨r1, h1⟩ := within_total b 0 (wrap64 (a - 1))
  obtain ⟨r2, h2⟩ := within_total c 1 100
  unfold impl_isRunner.f
  rw [h1]
  cases r1
  · exact ⟨false, rfl⟩
  · exact ⟨r2, by simp [h2]⟩
/-- no runner of a track -/
def noRun (a : Int) (x : S45) : Bool := !((impl_isRunner.f a x.f0 x.f1).getD false)
set_option maxHeartbeats 8000000 in
set_option maxRecDepth 100000 in
theorem clos52 (a : Int) (B : Nat) (w : World) (hB : B < w.heap.size) (hc : w.cell? ⟨B, 0, none⟩ = some (.int .i64 a)) (W : World) (x : S45) (hb : Below w.heap.size w W) :
    Calls Try.prog 76 (#[.agg #[.int .i64 x.f0, .int .i64 x.f1]] ++ #[.pointer (some ⟨B, 0, none⟩)]) W fun e w' => e = .returned (.bool (noRun a x)) ∧ Below W.heap.size W w' := by
  have hcW := (hb.cell (p := ⟨B, 0, none⟩) hB).trans hc
  have hBW : B < W.heap.size := Nat.lt_of_lt_of_le hB hb.size
  clear hb hc hB
  obtain ⟨r, hr⟩ := isRunner_total a x.f0 x.f1
  have HR := Aside0.mk hr
  have HN := Aside0.mk (show noRun a x = !r by unfold noRun; rw [hr]; rfl)
  clear hr
  go_enter Try.func76, Try.ntmps76
  go_wp2_with (go_at_call 77; refine (impl_isRunner.calls a x.f0 x.f1 r _ HR.out).mono ?_; rintro e w' ⟨rfl, hb⟩)
  go_ret
  exact ⟨by rw [HN.out]; rfl, by first | exact hb | exact below_step (below_alloc (Below.refl _ _) _) hb⟩
def impl_AreRunners.f (a0 : Int) (l1 : List (S45)) : Option (Bool) := (impl_within.f a0 2 1000).bind fun t1 => (if t1 = true then ((impl_within.f (l1.length : Int) 1 6).bind fun t2 => (if t2 = true then (some (!(l1.any (noRun a0)))) else (some false))) else (some false))
set_option maxHeartbeats 8000000 in
set_option maxRecDepth 100000 in
theorem impl_AreRunners.calls (a0 : Int) (A1 : Option Addr) (c1 : Nat) (l1 : List (S45)) (r : Bool) (w : World) (hr1 : Kd.C k45 w A1 l1.length l1) (hc1 : l1.length ≤ c1) (h : impl_AreRunners.f a0 l1 = some r) :
    Calls Try.prog 40 #[.int .i64 a0, .slice A1 l1.length c1] w fun e w' => e = .returned (.bool r) ∧ Below w.heap.size w w' := by
  have H : ((impl_within.f a0 2 1000).bind fun t1 => (if t1 = true then ((impl_within.f (l1.length : Int) 1 6).bind fun t2 => (if t2 = true then (some (!(l1.any (noRun a0)))) else (some false))) else (some false))) = some r := h
  clear h
  have eg : ∀ args w, (Go.callFunc 76 args).run Try.prog w = .ok (.enter 76 args) w := enters_of Try.func76 (by kernel_rfl) rfl
  have HE := Aside0.mk eg
  have HR1 := Aside0.mk hr1
  have HC1 := Aside0.mk hc1
  clear hr1 hc1 eg
  replace H := Option.bind_eq_some_iff.mp H
  obtain ⟨t1, A30, H⟩ := H
  have A3 := Aside0.mk A30
  clear A30
  cases t1 with
  | false =>
    have Hr := Aside0.mk (show r = false by simpa using H.symm)
    clear H
    go_enter Try.func40, Try.ntmps40
    go_wp2_with (go_at_call 65; refine (impl_within.calls a0 2 1000 false _ A3.out).mono ?_; rintro e w' ⟨rfl, ⟨nd, rfl⟩⟩)
    go_ret
    exact ⟨by rw [Hr.out]; rfl, by repeat (first | exact Below.refl _ _ | apply below_alloc | apply pw_below_drewN | apply below_drew1)⟩
  | true =>
    replace H := Option.bind_eq_some_iff.mp (show ((impl_within.f (l1.length : Int) 1 6).bind fun t2 => (if t2 = true then (some (!(l1.any (noRun a0)))) else (some false))) = some r from H)
    obtain ⟨t2, A40, H⟩ := H
    have A4 := Aside0.mk A40
    clear A40
    cases t2 with
    | false =>
      have Hr := Aside0.mk (show r = false by simpa using H.symm)
      clear H
      go_enter Try.func40, Try.ntmps40
      go_wp2_with (first | (go_at_call 65; (with_reducible refine (impl_within.calls a0 2 1000 true _ A3.out).mono ?_); rintro e w' ⟨rfl, ⟨nd, rfl⟩⟩) | (go_at_call 65; (with_reducible refine (impl_within.calls (l1.length : Int) 1 6 false _ A4.out).mono ?_); rintro e w' ⟨rfl, ⟨nd2, rfl⟩⟩))
      go_ret
      exact ⟨by rw [Hr.out]; rfl, by repeat (first | exact Below.refl _ _ | apply below_alloc | apply pw_below_drewN | apply below_drew1)⟩
    | true =>
      have Hr := Aside0.mk (show r = !(l1.any (noRun a0)) by simpa using H.symm)
      clear H
      have HF := Aside0.mk (fun (W : World) (hW : Below w.heap.size w W) (hB : w.heap.size < W.heap.size) (hc : W.cell? ⟨w.heap.size, 0, none⟩ = some (.int .i64 a0)) => ContainsFunc_R 76 #[.pointer (some ⟨w.heap.size, 0, none⟩)] HE.out (noRun a0) A1 c1 l1 W (fun W' x hb => clos52 a0 w.heap.size W hB hc W' x hb) (Kd.C_below HR1.out hW) HC1.out)
      go_enter Try.func40, Try.ntmps40
      go_wp2_with (first | (go_at_call 65; (with_reducible refine (impl_within.calls a0 2 1000 true _ A3.out).mono ?_); rintro e w' ⟨rfl, ⟨nd, rfl⟩⟩) | (go_at_call 65; (with_reducible refine (impl_within.calls (l1.length : Int) 1 6 true _ A4.out).mono ?_); rintro e w' ⟨rfl, ⟨nd2, rfl⟩⟩) | (go_at_call 75; refine (HF.out _ (by repeat (first | exact Below.refl _ _ | apply below_alloc | apply pw_below_drewN | apply below_drew1)) (by simp) (by simp)).mono ?_; rintro e w' ⟨rfl, hb⟩))
      go_ret
      exact ⟨by rw [Hr.out]; rfl, below_step (by repeat (first | exact Below.refl _ _ | apply below_alloc | apply pw_below_drewN | apply below_drew1)) hb⟩

/-! ### impl_isRunTime: function 58 -/
def impl_isRunTime.f (a0 : Int) : Option (Bool) := (impl_within.f a0 0 1000000).bind fun t173 => (some t173)
set_option maxHeartbeats 8000000 in
set_option maxRecDepth 100000 in
theorem impl_isRunTime.calls (a0 : Int) (r : Bool) (w : World) (h : impl_isRunTime.f a0 = some r) :
    Calls Try.prog 58 #[.int .i64 a0] w fun e w' => e = .returned (.bool r) ∧ Drawn0 w w' := by
  have H : ((impl_within.f a0 0 1000000).bind fun t173 => (some t173)) = some r := h
  clear h
  replace H := Option.bind_eq_some_iff.mp H
  obtain ⟨t173, A20, H⟩ := H
  replace H : (some t173) = some r := H
  have A2 := Aside0.mk A20
  clear A20
  obtain rfl := Option.some.inj H
  go_enter Try.func58, Try.ntmps58
  go_wp2_with (first | ((with_reducible refine gate_callee (f := 65) rfl ?_); refine goesL_ (some 4) rfl rfl Try.func65 (by kernel_rfl) rfl #[.int .i64 a0, .int .i64 0, .int .i64 1000000] rfl (by (try simp only [List.map_toArray, List.map_cons, List.map_nil]); first | done | rfl | (simp only [List.length_drop, List.length_take]; rfl)) ?_; (with_reducible refine (impl_within.calls a0 0 1000000 t173 _ A2.out).mono ?_); rintro e w' ⟨rfl, ⟨nd, rfl⟩⟩; refine ⟨_, rfl, ?_⟩))
  go_ret
  exact ⟨by first | rfl | (simp; done) | (simp [*]; done), by repeat (first | exact Drawn0.refl _ | apply Drawn0.step)⟩


/-! ### impl_OrderOnTrack: function 16 -/
/-- a value put into its place, seen from behind -/
def insRev {α : Type} (lt : α → α → Bool) (x : α) : List α → List α
  | [] => [x]
  | y :: r => if lt x y = true then y :: insRev lt x r else x :: y :: r
def sortRev {α : Type} (lt : α → α → Bool) (l p : List α) : List α := l.foldl (fun p x => insRev lt x p) p
theorem insRev_length {α : Type} (lt : α → α → Bool) (x : α) (p : List α) : (insRev lt x p).length = p.length + 1 := by
  induction p with
  | nil => rfl
  | cons y r ih =>
    unfold insRev
    split
    · rw [List.length_cons, ih, List.length_cons]
    · rw [List.length_cons]
theorem getE {α : Type} [Inhabited α] (d : Array α) (l : List α) (h : d.toList = l) (i : Nat) (x : α) (hx : l[i]? = some x) : d[i]! = x := by
  subst h
  rw [Array.getElem?_toList] at hx
  rw [getElem!_def, hx]
theorem insInner_rev {α : Type} [Inhabited α] (lt : α → α → Bool) (x : α) (p : List α) : ∀ (rest : List α) (d : Array α), d.toList = p.reverse ++ x :: rest → (Go.Sort.insInner lt 0 p.length d).toList = (insRev lt x p).reverse ++ rest := by
  induction p with
  | nil =>
    intro rest d h
    rw [List.length_nil, Go.Sort.insInner, h]
    rfl
  | cons y r ih =>
    intro rest d h
    have h1 : d[r.length + 1]! = x := getE d _ h _ _ (by rw [List.reverse_cons]; simp)
    have h0 : d[r.length]! = y := getE d _ h _ _ (by rw [List.reverse_cons]; simp)
    have hsz : d.size = r.length + 2 + rest.length := by
      rw [← Array.length_toList, h]
      simp
      omega
    rw [List.length_cons]
    unfold insRev
    cases hl : lt x y with
    | true =>
      rw [insInner_go lt 0 (r.length + 1) d (by omega) (by rw [h1, Nat.add_sub_cancel, h0]; exact hl), Nat.add_sub_cancel, if_pos rfl, List.reverse_cons]
      rw [ih (y :: rest) _ ?_]
      · simp
      · unfold Go.Sort.swp
        rw [h0, h1, Array.toList_setIfInBounds, Array.toList_setIfInBounds, h, List.reverse_cons]
        simp
    | false =>
      rw [insInner_stop lt 0 (r.length + 1) d (.inr (by rw [h1, Nat.add_sub_cancel, h0]; exact hl)), if_neg Bool.false_ne_true, h]
      simp
theorem insOuter_rev {α : Type} [Inhabited α] (lt : α → α → Bool) (rest : List α) : ∀ (p : List α) (d : Array α) (b : Nat), d.toList = p.reverse ++ rest → b = d.size → (Go.Sort.insOuter lt 0 b p.length d).toList = (sortRev lt rest p).reverse := by
  induction rest with
  | nil =>
    intro p d b h hb
    have hs : d.size = p.length := by rw [← Array.length_toList, h]; simp
    rw [insOuter_stop _ _ _ _ _ (by omega), h, List.append_nil]
    rfl
  | cons x r ih =>
    intro p d b h hb
    have hs : d.size = p.length + (r.length + 1) := by rw [← Array.length_toList, h]; simp
    have hi := insInner_rev lt x p r d h
    rw [insOuter_go _ _ _ _ _ (by omega)]
    have := ih (insRev lt x p) (Go.Sort.insInner lt 0 p.length d) b hi (by rw [← Array.length_toList, hi, List.length_append, List.length_reverse, insRev_length]; omega)
    rw [insRev_length] at this
    rw [this]
    rfl
theorem insertionSort_rev {α : Type} [Inhabited α] (lt : α → α → Bool) (l : List α) (h : l ≠ []) : (Go.Sort.insertionSort lt l.toArray 0 l.length).toList = (sortRev lt l []).reverse := by
  cases l with
  | nil => exact absurd rfl h
  | cons x r =>
    unfold Go.Sort.insertionSort
    exact insOuter_rev lt r [x] (x :: r).toArray (x :: r).length (by simp) (by simp)
/-- how far a runner is; runners by their numbers, the farthest one first -/
def farN (l : List S45) (t : Int) (i : Nat) : Int := wrap64 ((rd_T45 l ((i % l.length : Nat) : Int)).f0 + wrap64 ((rd_T45 l ((i % l.length : Nat) : Int)).f1 * t))
def ltN (l : List S45) (t : Int) (x y : Nat) : Bool := decide (farN l t y < farN l t x)
def cfN (l : List S45) (t : Int) (x y : Nat) : Int := Go.Lib.compareInt (farN l t y) (farN l t x)
def orderN (l : List S45) (t : Int) : List Int := (sortRev (ltN l t) (List.range l.length) []).reverse.map fun x => ((x % l.length : Nat) : Int)
def encN (n : Nat) (x : Nat) : Value := .int .i64 ((x % n : Nat) : Int)
theorem ltOf_cfN (l : List S45) (t : Int) : ltOf (cfN l t) = ltN l t := by
  funext x y
  unfold ltOf cfN ltN Go.Lib.compareInt
  by_cases h1 : farN l t y < farN l t x
  · simp [h1]
  · by_cases h2 : farN l t x < farN l t y <;> simp [h1, h2]
set_option maxHeartbeats 8000000 in
set_option maxRecDepth 100000 in
theorem farAt_ex (a b t : Int) (W : World) : Calls Try.prog 62 #[.agg #[.int .i64 a, .int .i64 b], .int .i64 t] W fun e w' => e = .returned (.int .i64 (wrap64 (a + wrap64 (b * t)))) ∧ ∃ q os', w' = Go.Sort.grow (W.drewN q) os' := by
  go_enter Try.func62, Try.ntmps62
  go_wp2
  go_ret
  exact ⟨rfl, 0, _, by rw [Go.Sort.alloc_eq_grow]; rfl⟩
set_option maxHeartbeats 8000000 in
set_option maxRecDepth 100000 in
theorem clos_order (l : List S45) (t : Int) (ad : Addr) (c1 bL bT : Nat) (i j : Int) (W : World) (hi : 0 ≤ i ∧ i < (l.length : Int)) (hj : 0 ≤ j ∧ j < (l.length : Int))
    (hL : ∀ n os, (Go.Sort.grow (W.drewN n) os).cell? ⟨bL, 0, none⟩ = some (.slice (some ad) l.length c1))
    (hT : ∀ n os, (Go.Sort.grow (W.drewN n) os).cell? ⟨bT, 0, none⟩ = some (.int .i64 t))
    (a0 a1 b0 b1 : Int)
    (hi0 : ∀ n os, (Go.Sort.grow (W.drewN n) os).cell? (ad.add (i.toNat * 2)) = some (.int .i64 a0))
    (hi1 : ∀ n os, (Go.Sort.grow (W.drewN n) os).cell? ⟨(ad.add (i.toNat * 2)).block, (ad.add (i.toNat * 2)).off + 1, none⟩ = some (.int .i64 a1))
    (hj0 : ∀ n os, (Go.Sort.grow (W.drewN n) os).cell? (ad.add (j.toNat * 2)) = some (.int .i64 b0))
    (hj1 : ∀ n os, (Go.Sort.grow (W.drewN n) os).cell? ⟨(ad.add (j.toNat * 2)).block, (ad.add (j.toNat * 2)).off + 1, none⟩ = some (.int .i64 b1)) :
    Calls Try.prog 60 #[.int .i64 i, .int .i64 j, .pointer (some ⟨bL, 0, none⟩), .pointer (some ⟨bT, 0, none⟩)] W fun e w' => e = .returned (.int .i64 (Go.Lib.compareInt (wrap64 (b0 + wrap64 (b1 * t))) (wrap64 (a0 + wrap64 (a1 * t))))) ∧ ∃ q os', w' = Go.Sort.grow (W.drewN q) os' := by
  have HF := Aside0.mk (fun a b n os => Go.Calls.grown_of (farAt_ex a b t (Go.Sort.grow (W.drewN n) os)))
  have HC := Aside0.mk (fun x y (n : Nat) (os : Array Obj) => Go.Calls.grown_of ((AnyG.cmp_Compare_int Try.ordCmpL x y (Go.Sort.grow (W.drewN n) os)).mono fun e w' hw => ⟨hw.1, 0, #[], by rw [hw.2, Go.Sort.grow_empty]; rfl⟩))
  have mixed := Try.ordInsL.mixed
  obtain ⟨p1, p2⟩ := hi
  obtain ⟨p3, p4⟩ := hj
  replace p1 := eq_true p1
  replace p2 := eq_true p2
  replace p3 := eq_true p3
  replace p4 := eq_true p4
  go_enter Try.func60, Try.ntmps60
  go_wp2_with fail
  go_quiet_grown (first | (go_at_call 62; exact HF.out _ _ _ _) | (go_at_call 61; exact HC.out _ _ _ _))
  go_wp2
  go_ret
  exact ⟨rfl, _, _, rfl⟩
theorem sort_cell {α : Type} [Inhabited α] (enc : α → Value) (w : World) (g m : Nat) (dk : Array α) (os : Array Obj) (a : Addr) (h1 : a.block ≠ g) (h2 : a.block < w.heap.size) (n : Nat) (os' : Array Obj) : (Go.Sort.grow ((sortWorld enc w g 0 m dk os).drewN n) os').cell? a = w.cell? a := by
  rw [sortWorld_grown_c]
  unfold sortWorld
  rw [Go.Sort.cell?_grow _ _ _ (by rw [size_putRow]; exact h2), Go.Sort.cell?_putRow_other _ _ _ _ _ _ (.inl h1)]
  rfl
/-- what the sort leans on: the two captured cells, the runners -/
structure OrdIn (l : List S45) (t : Int) (ad : Addr) (c1 bL bT g : Nat) (w : World) : Prop where
  hn : 1 ≤ l.length ∧ l.length ≤ 6
  hg : g < w.heap.size
  hbL : bL < w.heap.size ∧ bL ≠ g
  hbT : bT < w.heap.size ∧ bT ≠ g
  hL : w.cell? ⟨bL, 0, none⟩ = some (.slice (some ad) l.length c1)
  hT : w.cell? ⟨bT, 0, none⟩ = some (.int .i64 t)
  hC : Kd.C k45 w (some ad) l.length l
  had : ad.block < w.heap.size ∧ ad.block ≠ g
  hH : Go.Sort.Holds (encN l.length) w g 0 (List.range l.length).toArray
theorem ord_cmp {l : List S45} {t : Int} {ad : Addr} {c1 bL bT g : Nat} {w : World} (H : OrdIn l t ad c1 bL bT g w) :
    CmpLays1 Try.prog 60 #[.pointer (some ⟨bL, 0, none⟩), .pointer (some ⟨bT, 0, none⟩)] (encN l.length) (cfN l t) g 0 (List.range l.length).toArray.size w := by
  intro m os dk hs x y
  have hn := H.hn
  have hx : 0 ≤ ((x % l.length : Nat) : Int) ∧ ((x % l.length : Nat) : Int) < (l.length : Int) := by
    have := Nat.mod_lt x (show l.length > 0 by omega)
    omega
  have hy : 0 ≤ ((y % l.length : Nat) : Int) ∧ ((y % l.length : Nat) : Int) < (l.length : Int) := by
    have := Nat.mod_lt y (show l.length > 0 by omega)
    omega
  obtain ⟨ad1, e1, hx0, hx1⟩ := at_T45 H.hC _ hx.1 hx.2
  obtain ⟨ad2, e2, hy0, hy1⟩ := at_T45 H.hC _ hy.1 hy.2
  cases e1
  cases e2
  have cellK : ∀ a : Addr, a.block = ad.block → ∀ n os', (Go.Sort.grow ((sortWorld (encN l.length) w g 0 m dk os).drewN n) os').cell? a = w.cell? a := fun a ha n os' => sort_cell _ w g m dk os a (by rw [ha]; exact H.had.2) (by rw [ha]; exact H.had.1) n os'
  exact clos_order l t ad c1 bL bT ((x % l.length : Nat) : Int) ((y % l.length : Nat) : Int) (sortWorld (encN l.length) w g 0 m dk os) hx hy
    (fun n os' => (sort_cell _ w g m dk os ⟨bL, 0, none⟩ H.hbL.2 H.hbL.1 n os').trans H.hL)
    (fun n os' => (sort_cell _ w g m dk os ⟨bT, 0, none⟩ H.hbT.2 H.hbT.1 n os').trans H.hT)
    (rd_T45 l ((x % l.length : Nat) : Int)).f0 (rd_T45 l ((x % l.length : Nat) : Int)).f1 (rd_T45 l ((y % l.length : Nat) : Int)).f0 (rd_T45 l ((y % l.length : Nat) : Int)).f1
    (by intro n os'; refine (cellK _ ?_ n os').trans hx0; exact add_block _ _)
    (by intro n os'; refine (cellK _ ?_ n os').trans hx1; exact add_block _ _)
    (by intro n os'; refine (cellK _ ?_ n os').trans hy0; exact add_block _ _)
    (by intro n os'; refine (cellK _ ?_ n os').trans hy1; exact add_block _ _)
theorem ord_ins {l : List S45} {t : Int} {ad : Addr} {c1 bL bT g : Nat} {w : World} (H : OrdIn l t ad c1 bL bT g w) (cap : Nat) :
    Calls Try.prog 97 #[.slice (some ⟨g, 0, none⟩) l.length cap, .int .i64 0, .int .i64 l.length, .func (.func 60) #[] #[.pointer (some ⟨bL, 0, none⟩), .pointer (some ⟨bT, 0, none⟩)]] w
      fun e w' => e = .returned (.tuple #[]) ∧ ∃ m os, w' = sortWorld (encN l.length) w g 0 m (Go.Sort.insertionSort (ltOf (cfN l t)) (List.range l.length).toArray 0 l.length) os := by
  have hs : (List.range l.length).toArray.size = l.length := by simp
  have eg : ∀ args w, (Go.callFunc 60 args).run Try.prog w = .ok (.enter 60 args) w := enters_of Try.func60 (by kernel_rfl) rfl
  have R : Row1 (encN l.length) w g 0 (List.range l.length).toArray := ⟨fun _ => rfl, H.hH, H.hg⟩
  have hS : SW (encN l.length) w g 0 (List.range l.length).toArray w := SW.start H.hH
  have := H.hn
  have h := Any.insertionSortCmpFunc_s (P := Try.prog) (ρ := Try.ordInsL_ren) Try.ordInsL (encN l.length) (cfN l t) 60 #[.pointer (some ⟨bL, 0, none⟩), .pointer (some ⟨bT, 0, none⟩)] g 0 cap 0 l.length (List.range l.length).toArray (List.range l.length).toArray w w eg (ord_cmp H) R rfl hS (Nat.zero_le _) (by omega) (by omega)
  rw [hs] at h
  exact h
set_option maxHeartbeats 8000000 in
set_option maxRecDepth 100000 in
theorem ord_stable {l : List S45} {t : Int} {ad : Addr} {c1 bL bT g : Nat} {w : World} (H : OrdIn l t ad c1 bL bT g w) (cap : Nat) :
    Calls Try.prog 86 #[.slice (some ⟨g, 0, none⟩) l.length cap, .int .i64 l.length, .func (.func 60) #[] #[.pointer (some ⟨bL, 0, none⟩), .pointer (some ⟨bT, 0, none⟩)]] w
      fun e w' => e = .returned (.tuple #[]) ∧ ∃ m os, w' = sortWorld (encN l.length) w g 0 m (Go.Sort.insertionSort (ltOf (cfN l t)) (List.range l.length).toArray 0 l.length) os := by
  have HI := Aside0.mk (ord_ins H cap)
  have hn := H.hn
  have h1 : ¬ (20 : Int) ≤ (l.length : Int) := by omega
  have h2 : ¬ (20 : Int) < (l.length : Int) := by omega
  have h1b : decide ((20 : Int) ≤ (l.length : Int)) = false := decide_eq_false h1
  have h2b : decide ((20 : Int) < (l.length : Int)) = false := decide_eq_false h2
  clear H hn
  go_enter Try.func86, Try.ntmps86
  go_wp2
  go_loopg [7, 8] 0 (fun gg v7 v8 wr => v7 = .int .i64 0 ∧ v8 = .int .i64 20 ∧ wr = w)
  case atStart => exact ⟨rfl, rfl, rfl⟩
  case round =>
    obtain ⟨rfl, rfl, rfl⟩ := hrel
    go_wp2_with (go_at_call 97; refine HI.out.mono ?_; rintro e w' ⟨rfl, hw⟩)
    go_loopg [6, 7, 8] 0 (fun gg v6 v7 v8 wr => v6 = .int .i64 20 ∧ wr = w')
    case atStart => exact ⟨rfl, rfl⟩
    case round =>
      obtain ⟨rfl, rfl⟩ := hrel
      go_wp2
      go_end0
      exact ⟨rfl, hw⟩
set_option maxHeartbeats 8000000 in
set_option maxRecDepth 100000 in
theorem ord_whole {l : List S45} {t : Int} {ad : Addr} {c1 bL bT g : Nat} {w : World} (H : OrdIn l t ad c1 bL bT g w) (cap : Nat) :
    Calls Try.prog 59 #[.slice (some ⟨g, 0, none⟩) l.length cap, .func (.func 60) #[] #[.pointer (some ⟨bL, 0, none⟩), .pointer (some ⟨bT, 0, none⟩)]] w
      fun e w' => e = .returned (.tuple #[]) ∧ ∃ m os, w' = sortWorld (encN l.length) w g 0 m (Go.Sort.insertionSort (ltOf (cfN l t)) (List.range l.length).toArray 0 l.length) os := by
  have HI := Aside0.mk (ord_stable H cap)
  clear H
  go_enter Try.func59, Try.ntmps59
  go_wp2_with (go_at_call 86; refine HI.out.mono ?_; rintro e w' ⟨rfl, hw⟩)
  go_end0
  exact ⟨rfl, hw⟩
theorem insRev_perm_len {α : Type} (lt : α → α → Bool) (l : List α) : ∀ p, (sortRev lt l p).length = p.length + l.length := by
  induction l with
  | nil => intro p; rfl
  | cons x r ih =>
    intro p
    show (sortRev lt r (insRev lt x p)).length = _
    rw [ih, insRev_length, List.length_cons]
    omega
theorem orderN_length (l : List S45) (t : Int) : (orderN l t).length = l.length := by
  unfold orderN
  rw [List.length_map, List.length_reverse, insRev_perm_len, List.length_range, List.length_nil]
  omega
def upN (n : Nat) : List Int := (List.range n).map fun (i : Nat) => (i : Int)
theorem upN_length (n : Nat) : (upN n).length = n := by simp [upN]
theorem sortWorld_int (n : Nat) (w : World) (g m : Nat) (d : Array Nat) (os : Array Obj) : sortWorld (encN n) w g 0 m d os = Go.Sort.grow (Go.Sort.putRow (Value.int .i64) (Go.Sort.ahead w m) g 0 (d.map fun x => ((x % n : Nat) : Int))) os := by
  unfold sortWorld Go.Sort.putRow
  congr 2
  funext c
  unfold Go.Sort.putCells
  congr 1
  funext k x
  rw [Array.size_map]
  by_cases h : 0 ≤ k ∧ k < 0 + d.size
  · rw [if_pos h, if_pos h]
    have hk : k - 0 < d.size := by omega
    rw [getElem!_pos d _ hk, getElem!_pos _ _ (by rw [Array.size_map]; exact hk), Array.getElem_map]
    rfl
  · rw [if_neg h, if_neg h]
theorem ord_R {l : List S45} {t : Int} {ad : Addr} {c1 bL bT base : Nat} {w : World} {v : Value} (hR : Kd.R (Kd.int .i64) 3 w base (fun _ => True) v (upN l.length)) (hn : 1 ≤ l.length ∧ l.length ≤ 6) (hbase : base ≤ w.heap.size) (hbL : bL < base) (hbT : bT < base) (had : ad.block < base)
    (hL : w.cell? ⟨bL, 0, none⟩ = some (.slice (some ad) l.length c1)) (hT : w.cell? ⟨bT, 0, none⟩ = some (.int .i64 t)) (hC : Kd.C k45 w (some ad) l.length l) :
    Calls Try.prog 59 #[v, .func (.func 60) #[] #[.pointer (some ⟨bL, 0, none⟩), .pointer (some ⟨bT, 0, none⟩)]] w
      fun e w' => e = .returned (.tuple #[]) ∧ Kd.R (Kd.int .i64) 3 w' base (fun _ => True) v (orderN l t) ∧ Below base w w' := by
  have ho := Kd.own_of_R (enc := Value.int .i64) (h1 := fun _ => rfl) hR
  rcases ho with ⟨hb0, ⟨_, hn0⟩ | ⟨g, cap, cur, rfl, hg, hh, h1, h2, h3, h4⟩⟩
  · rw [upN_length] at hn0
    simp at hn0
    rw [hn0] at hn
    simp at hn
  · have hlt : g < w.heap.size := (Array.getElem?_eq_some_iff.1 hh).1
    rw [Nat.mul_one] at h4
    have hold := holds_of_blockI hh h4
    have hH : Go.Sort.Holds (encN l.length) w g 0 (List.range l.length).toArray := by
      intro j hj
      have hj2 : j < l.length := by simpa using hj
      obtain ⟨q1, q2⟩ := hold j (by simp [upN]; exact hj2)
      refine ⟨?_, q2⟩
      rw [q1]
      have e1 : (upN l.length).toArray[j]! = (j : Int) := getE _ _ rfl _ _ (by simp [upN, hj2])
      have e2 : (List.range l.length).toArray[j]! = j := getE _ _ rfl _ _ (by simp [hj2])
      rw [e1, e2]
      unfold encN
      rw [Nat.mod_eq_of_lt hj2]
    have H : OrdIn l t ad c1 bL bT g w := ⟨hn, hlt, ⟨by omega, by omega⟩, ⟨by omega, by omega⟩, hL, hT, hC, ⟨by omega, by omega⟩, hH⟩
    rw [upN_length]
    refine (ord_whole H cap).mono ?_
    rintro e w' ⟨rfl, m, os, rfl⟩
    have hd : (Go.Sort.insertionSort (ltOf (cfN l t)) (List.range l.length).toArray 0 l.length).map (fun x => ((x % l.length : Nat) : Int)) = (orderN l t).toArray := by
      apply Array.toList_inj.mp
      rw [Array.toList_map]
      have := insertionSort_rev (ltOf (cfN l t)) (List.range l.length) (by
        intro e
        have := congrArg List.length e
        rw [List.length_range, List.length_nil] at this
        omega)
      rw [List.length_range] at this
      rw [this, ltOf_cfN]
      rfl
    rw [sortWorld_int, hd]
    have hgb := grownBy_sortedI (w := w) (g := g) (n := m) (os := os) (orderN l t).toArray
    have hlen : (orderN l t).length = (upN l.length).length := by rw [orderN_length, upN_length]
    have hrow := ownsRow_sortedI (n := m) (os := os) hlen hg hh h1 h2 h3
    refine ⟨rfl, ?_, (Below.refl base w).grown hgb hbase (fun k hk => by cases hk; exact hg)⟩
    have e0 : (upN l.length).length = (orderN l t).length := hlen.symm
    rw [upN_length] at hrow e0
    exact Kd.R_of_own (by rw [← e0]; exact hrow) (fun k hk => trivial)
def impl_OrderOnTrack.f (a0 : Int) (l1 : List (S45)) (a2 : Int) : Option (List Int × Bool) := (impl_AreRunners.f a0 l1).bind fun t1 => (if t1 = true then ((impl_isRunTime.f a2).bind fun t2 => (if t2 = true then (some (orderN l1 a2, true)) else (some (([] : List Int), false)))) else (some (([] : List Int), false)))
theorem areRunners_len {a : Int} {l : List S45} (h : impl_AreRunners.f a l = some true) : 1 ≤ l.length ∧ l.length ≤ 6 := by
  unfold impl_AreRunners.f at h
  obtain ⟨t1, _, h⟩ := Option.bind_eq_some_iff.mp h
  cases t1 with
  | false => simp at h
  | true =>
    obtain ⟨t2, h2, h⟩ := Option.bind_eq_some_iff.mp (show ((impl_within.f (l.length : Int) 1 6).bind fun t2 => (if t2 = true then (some (!(l.any (noRun a)))) else (some false))) = some true from h)
    cases t2 with
    | false => simp at h
    | true =>
      unfold impl_within.f at h2
      by_cases c : (l.length : Int) ≥ 1
      · rw [if_pos c] at h2
        have := of_decide_eq_true (Option.some.inj h2)
        omega
      · rw [if_neg c] at h2
        simp at h2
theorem up_start (n : Nat) : (List.range 0).map (fun (i : Nat) => (i : Int)) ++ List.replicate (n - 0) 0 = List.replicate n 0 := by simp
theorem up_step (n i : Nat) (h : i < n) : ((List.range i).map (fun (i : Nat) => (i : Int)) ++ List.replicate (n - i) 0).set i (i : Int) = (List.range (i + 1)).map (fun (i : Nat) => (i : Int)) ++ List.replicate (n - (i + 1)) 0 := by
  obtain ⟨m, hm⟩ : ∃ m, n - i = m + 1 := ⟨n - i - 1, by omega⟩
  have hm2 : n - (i + 1) = m := by omega
  rw [List.set_append_right _ _ (by simp), hm, hm2, List.range_succ, List.map_append, List.append_assoc]
  simp [List.replicate_succ]
theorem up_end (n : Nat) : (List.range n).map (fun (i : Nat) => (i : Int)) ++ List.replicate (n - n) 0 = upN n := by simp [upN]
set_option maxHeartbeats 16000000 in
set_option maxRecDepth 100000 in
theorem impl_OrderOnTrack.calls (a0 : Int) (A1 : Option Addr) (c1 : Nat) (l1 : List (S45)) (a2 : Int) (r1 : List Int) (r2 : Bool) (w : World) (hr1 : Kd.C k45 w A1 l1.length l1) (hc1 : l1.length ≤ c1) (h : impl_OrderOnTrack.f a0 l1 a2 = some (r1, r2)) :
    Calls Try.prog 16 #[.int .i64 a0, .slice A1 l1.length c1, .int .i64 a2] w fun e w' => ∃ v0_ : Value, e = .returned (.tuple #[v0_, .bool r2]) ∧ Kd.R (Kd.int .i64) 3 w' w.heap.size (fun _ => True) v0_ r1 ∧ Below w.heap.size w w' := by
  have H : ((impl_AreRunners.f a0 l1).bind fun t1 => (if t1 = true then ((impl_isRunTime.f a2).bind fun t2 => (if t2 = true then (some (orderN l1 a2, true)) else (some (([] : List Int), false)))) else (some (([] : List Int), false)))) = some (r1, r2) := h
  clear h
  have HR1 := Aside0.mk hr1
  have HC1 := Aside0.mk hc1
  clear hr1 hc1
  have HB := Aside0.mk (Below.refl w.heap.size w)
  replace H := Option.bind_eq_some_iff.mp H
  obtain ⟨t1, A30, H⟩ := H
  have A3 := Aside0.mk A30
  clear A30
  cases t1 with
  | false =>
    have Hr := Aside0.mk (show r1 = [] ∧ r2 = false by simpa [eq_comm] using H)
    clear H
    go_enter Try.func16, Try.ntmps16
    go_wp2_with (go_at_call 40; refine (impl_AreRunners.calls a0 A1 c1 l1 false _ (by repeat (first | exact HR1.out | (with_reducible refine Kd.C_alloc ?_ _))) HC1.out A3.out).mono ?_; rintro e w1 ⟨rfl, hb⟩; have HB1 := Aside0.mk (below_step (by repeat (first | exact HB.out | apply below_alloc)) hb); clear hb)
    go_ret2
    exact ⟨_, by rw [Hr.out.2]; rfl, by rw [Hr.out.1]; exact Kd.R_nil _ _ _ _ _, by repeat (first | exact HB1.out | apply below_alloc | apply pw_below_drewN | apply below_drew1)⟩
  | true =>
    have hlen := areRunners_len A3.out
    replace H := Option.bind_eq_some_iff.mp (show ((impl_isRunTime.f a2).bind fun t2 => (if t2 = true then (some (orderN l1 a2, true)) else (some (([] : List Int), false)))) = some (r1, r2) from H)
    obtain ⟨t2, A40, H⟩ := H
    have A4 := Aside0.mk A40
    clear A40
    obtain ⟨ad, e1, hx0, _⟩ := at_T45 HR1.out 0 (by omega) (by omega)
    subst e1
    have hadw : ad.block < w.heap.size := by
      have := World.block_lt_of_cell? w _ hx0
      rwa [add_block] at this
    have HAD := Aside0.mk hadw
    have HLEN := Aside0.mk hlen
    clear hx0 hadw hlen
    cases t2 with
    | false =>
      have Hr := Aside0.mk (show r1 = [] ∧ r2 = false by simpa [eq_comm] using H)
      clear H
      go_enter Try.func16, Try.ntmps16
      go_wp2_with (first | (go_at_call 40; refine (impl_AreRunners.calls a0 _ c1 l1 true _ (by repeat (first | exact HR1.out | (with_reducible refine Kd.C_alloc ?_ _))) HC1.out A3.out).mono ?_; rintro e w1 ⟨rfl, hb⟩; have HB1 := Aside0.mk (below_step (by repeat (first | exact HB.out | apply below_alloc)) hb); have hT1 : w1.cell? ⟨w.heap.size + 1, 0, none⟩ = some (.int .i64 a2) := (hb.cell (p := ⟨w.heap.size + 1, 0, none⟩) (by simp)).trans (by simp); clear hb) | (go_at_call 58; refine (impl_isRunTime.calls a2 false _ A4.out).mono ?_; rintro e w' ⟨rfl, ⟨nd, rfl⟩⟩))
      go_ret2
      exact ⟨_, by rw [Hr.out.2]; rfl, by rw [Hr.out.1]; exact Kd.R_nil _ _ _ _ _, by repeat (first | exact HB1.out | apply below_alloc | apply pw_below_drewN | apply below_drew1)⟩
    | true =>
      have Hr := Aside0.mk (show r1 = orderN l1 a2 ∧ r2 = true by simpa [eq_comm] using H)
      clear H
      go_enter Try.func16, Try.ntmps16
      go_wp2_with (first | (go_at_call 40; refine (impl_AreRunners.calls a0 _ c1 l1 true _ (by repeat (first | exact HR1.out | (with_reducible refine Kd.C_alloc ?_ _))) HC1.out A3.out).mono ?_; rintro e w1 ⟨rfl, hb⟩; have HB1 := Aside0.mk (below_step (by repeat (first | exact HB.out | apply below_alloc)) hb); have HS1 := Aside0.mk (show w.heap.size + 2 ≤ w1.heap.size by have := hb.size; simp at this; omega); have hL1 : w1.cell? ⟨w.heap.size, 0, none⟩ = some (.slice (some ad) l1.length c1) := (hb.cell (p := ⟨w.heap.size, 0, none⟩) (by simp; omega)).trans (by simp); have hT1 : w1.cell? ⟨w.heap.size + 1, 0, none⟩ = some (.int .i64 a2) := (hb.cell (p := ⟨w.heap.size + 1, 0, none⟩) (by simp)).trans (by simp); clear hb) | (go_at_call 58; refine (impl_isRunTime.calls a2 true _ A4.out).mono ?_; rintro e w' ⟨rfl, ⟨nd, rfl⟩⟩) | ((with_reducible refine gate_dst (N := 21) rfl ?_); refine Kd.R_make (Kd.int .i64) _ 3 rfl (N := 21) rfl 34 _ _ rfl (l1.length : Int) rfl rfl Try.underlying34 (.int .i64 0) 8 info3 rfl (by decide) (by omega) (0 : Int) (ok := fun _ => True) (okp := fun _ => True) rfl (fun _ hk => hk) trivial (Int.natCast_nonneg _) (by have := HLEN.out; omega) (Below.refl _ _) (Nat.le_refl _) ?_; intro v wb ho hb hg_ hnew_; clear hg_ hnew_; obtain ⟨g, cap, e0, hg1, hg2, -⟩ := Kd.R_form ho (by rw [List.length_replicate]; have := HLEN.out; omega); replace e0 : v = .slice (some ⟨g, 0, none⟩) l1.length cap := (by simpa using e0); subst e0; have HO := Aside0.mk (show Kd.R (Kd.int .i64) 3 wb (w1.drewN nd).heap.size (fun _ => True) (.slice (some ⟨g, 0, none⟩) l1.length cap) (List.replicate l1.length 0) from ho); have HBb := Aside0.mk hb; have HG := Aside0.mk hg1; clear ho hb hg1 hg2))
      go_loopg [24] l1.length (fun gg v24 w' => ∃ i : Nat, v24 = .int .i64 i ∧ Aside0 (i ≤ l1.length) ∧ Aside0 (l1.length - i ≤ gg) ∧ Aside0 (Kd.R (Kd.int .i64) 3 w' (w1.drewN nd).heap.size (fun _ => True) (.slice (some ⟨g, 0, none⟩) l1.length cap) ((List.range i).map (fun (i : Nat) => (i : Int)) ++ List.replicate (l1.length - i) 0)) ∧ Aside0 (Below (w1.drewN nd).heap.size (w1.drewN nd) w'))
      case atStart => exact ⟨0, rfl, ⟨Nat.zero_le _⟩, ⟨by omega⟩, ⟨by rw [up_start]; exact HO.out⟩, ⟨HBb.out⟩⟩
      case round =>
        obtain ⟨i, rfl, HI, HGG, HOi, HBi⟩ := hrel
        by_cases c : (i : Int) < (l1.length : Int)
        · have cb : decide ((i : Int) < (l1.length : Int)) = true := decide_eq_true c
          have p1 : 0 ≤ (i : Int) := Int.natCast_nonneg _
          obtain ⟨hx, hf⟩ := Kd.R_celln (0 : Int) HOi.out (i : Int) p1 c
          have HP := Aside0.mk (Kd.R_putg HOi.out (i : Int) (i : Int))
          have C := Aside0.mk c
          replace p1 := eq_true p1
          replace c := eq_true c
          rw [Int.toNat_natCast] at hx hf
          go_wp2
          go_roundg (l1.length - (i + 1))
          case measure =>
            have := C.out
            have := HGG.out
            omega
          case rel =>
            have h1 := C.out
            have h2 := HLEN.out
            have e1 : wrap64 ((i : Int) + 1) = ((i + 1 : Nat) : Int) := by unfold wrap64; omega
            obtain ⟨hp1, hp2⟩ := HP.out
            rw [Int.toNat_natCast, up_step l1.length i (by omega)] at hp1
            rw [Int.toNat_natCast] at hp2
            exact ⟨i + 1, by rw [e1], ⟨by omega⟩, ⟨Nat.le_refl _⟩, ⟨hp1⟩, ⟨HBi.out.grown hp2 HBi.out.size (fun k hk => by cases hk; exact HG.out)⟩⟩
        · have cb : decide ((i : Int) < (l1.length : Int)) = false := decide_eq_false c
          have e : i = l1.length := by have := HI.out; omega
          subst e
          have hS := HS1.out
          have hLW := HLEN.out
          have hAW := HAD.out
          have hL2 : wr.cell? ⟨w.heap.size, 0, none⟩ = some (.slice (some ad) l1.length c1) := (HBi.out.cell (p := ⟨w.heap.size, 0, none⟩) (by simp; omega)).trans (by simpa using hL1)
          have hT2 : wr.cell? ⟨w.heap.size + 1, 0, none⟩ = some (.int .i64 a2) := (HBi.out.cell (p := ⟨w.heap.size + 1, 0, none⟩) (by simp; omega)).trans (by simpa using hT1)
          have HBd := Aside0.mk (show Below w.heap.size w (w1.drewN nd) by apply pw_below_drewN; exact HB1.out)
          have hw1 : (w1.drewN nd).heap.size = w1.heap.size := rfl
          have hC2 : Kd.C k45 wr (some ad) l1.length l1 := Kd.C_below HR1.out ((HBd.out.trans (HBi.out.mono (show w.heap.size ≤ (w1.drewN nd).heap.size by rw [hw1]; omega))))
          have hR2 : Kd.R (Kd.int .i64) 3 wr (w1.drewN nd).heap.size (fun _ => True) (.slice (some ⟨g, 0, none⟩) l1.length cap) (upN l1.length) := by rw [← up_end]; exact HOi.out
          have HS := Aside0.mk (ord_R (c1 := c1) (bL := w.heap.size) (bT := w.heap.size + 1) hR2 hLW HBi.out.size (by omega) (by omega) (by omega) hL2 hT2 hC2)
          clear hS hLW hAW hw1 hC2 hR2 c
          go_wp2_with (go_at_call 59; refine HS.out.mono ?_; rintro e w2 ⟨rfl, hr2, hb2⟩; have HR2 := Aside0.mk hr2; have HB2 := Aside0.mk hb2; clear hr2 hb2)
          go_ret2
          have hle : w.heap.size ≤ (w1.drewN nd).heap.size := by have := HS1.out; simp; omega
          exact ⟨_, by rw [Hr.out.2]; rfl, by rw [Hr.out.1]; exact Kd.R_lower HR2.out hle, (HBd.out.trans (HBi.out.mono hle)).trans (HB2.out.mono hle)⟩

end Go.Proofs.Ytgobnhoblofglaa.PFnExactOrderOnTrack
