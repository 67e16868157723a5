-- Laid by a program of this session's (wip/gen/printp.sh): the functions that the law reaches, each with its walk.
import Derived.Test.YtfkieckkmcibbaaGreatDoorPFnRunnersRunx0
import Derived.Test.YtfkieckkmcibbaaGreatDoorPFnRunnersRunx2
import Derived.Test.YtfkieckkmcibbaaGreatDoorPFnRunnersRunx3
import Derived.Test.YtfkieckkmcibbaaGreatDoorPFnRunnersRunx4
import Derived.Test.YtfkieckkmcibbaaGreatDoorPFnRunnersRunx6
import Derived.Test.YtfkieckkmcibbaaGreatDoorPFnRunnersRunx7
import Derived.Test.YtfkieckkmcibbaaGreatDoorPFnRunnersRunx8
import Derived.Test.YtfkieckkmcibbaaGreatDoorPFnRunnersRunx9
namespace Go.Proofs.YtfkieckkmcibbaaGreatDoor.PFnRunnersRun
open Go.RowKit Go.Proofs.YtfkieckkmcibbaaGreatDoorW.PrintWords Go.Proofs.YtfkieckkmcibbaaGreatDoorW.PrintLast Go.Proofs.YtfkieckkmcibbaaGreatDoorW.PrintMore
attribute [local go_sem] max2_int min2_int max_two min_two max_three min_three max_four min_four   -- for this text's walks alone
set_option linter.unusedVariables false
set_option linter.unusedSimpArgs false

/-! ### spec_HandicapFor: function 21 -/
def spec_HandicapFor.j0 : Nat → Int → Int → Bool → Int → Int → Int → Int → Option (Int × Bool)
  | 0, _, _, _, _, _, _, _ => none
  | k + 1, x0, x3, x29, x403000, x403001, x404000, x404001 => if x29 = true then (some (0, false)) else (if x403001 = 0 then (none) else ((spec_trFar.f x403000 x403001 (wrap64 (Int.tdiv (wrap64 (x3 * x0)) x403001))).bind fun t406 => ((spec_trFar.f x404000 x404001 (wrap64 (Int.tdiv (wrap64 (x3 * x0)) x403001))).bind fun t407 => (some (wrap64 (t406 - t407), true)))))
def spec_HandicapFor.f (k : Nat) (a0 : Int) (a1_0 : Int) (a1_1 : Int) (a2_0 : Int) (a2_1 : Int) (a3 : Int) : Option (Int × Bool) := (spec_trTwo.f a0 a1_0 a1_1 a2_0 a2_1).bind fun t404 => (if t404 = true then ((spec_l1In.f a3 1 100).bind fun t405 => (if t405 = true then (if a1_1 = 0 then (none) else (spec_HandicapFor.j0 k a0 a3 ((Int.tmod (wrap64 (a3 * a0)) a1_1) != 0) a1_0 a1_1 a2_0 a2_1)) else (spec_HandicapFor.j0 k a0 a3 true a1_0 a1_1 a2_0 a2_1))) else (spec_HandicapFor.j0 k a0 a3 true a1_0 a1_1 a2_0 a2_1))


def spec_HandicapFor.T4 : Bool × List (List Nat × List Nat) := (true, [([], []), ([], []), ([0, 1], [0, 1]), ([], []), ([], []), ([3, 4, 2], [3, 4]), ([2, 5], [2, 5]), ([6, 5, 0, 1, 2, 3, 4, 5, 6], [6]), ([7, 0, 1, 2, 3, 4, 5, 6, 7], [])])
def spec_HandicapFor.B4 : List Nat := [0, 0, 3, 0, 0, 31, 63, 127, 255]
theorem spec_HandicapFor.tab4 : rtab .any (opsOf Tryz.f21 4) = spec_HandicapFor.T4 := by kernel_rfl
theorem spec_HandicapFor.bits4 : waitsOk spec_HandicapFor.T4.2 spec_HandicapFor.B4 = true := by kernel_rfl
set_option maxHeartbeats 8000000 in
set_option maxRecDepth 100000 in
theorem spec_HandicapFor.calls (k : Nat) (a0 : Int) (a1_0 : Int) (a1_1 : Int) (a2_0 : Int) (a2_1 : Int) (a3 : Int) (r1 : Int) (r2 : Bool) (w : World) (h : spec_HandicapFor.f k a0 a1_0 a1_1 a2_0 a2_1 a3 = some (r1, r2)) :
  Calls Tryz.prog 21 #[.int .i64 a0, .agg #[.int .i64 a1_0, .int .i64 a1_1], .agg #[.int .i64 a2_0, .int .i64 a2_1], .int .i64 a3] w fun e w' => e = .returned (.tuple #[.int .i64 r1, .bool r2]) ∧ Below w.heap.size w w' := by
 have hu35 := Tryz.underlying35
 have HB := A_ (Below.refl w.heap.size w)
 have H := h
 unfold spec_HandicapFor.f at H
 clear h
 have HC5 := A_ H
 clear H
 go_enter Tryz.func21, Tryz.ntmps21
 go_upto_region 1 with (first | ((with_reducible refine gate_dst (N := 5) rfl ?_); refine be_ 5 #[.int .i64 a1_0, .int .i64 a1_1] 35 ?_; intro gb402 hg w6 hbox hb; have BK402 := A_ hbox; have GW402 := A_ (bz_ (w := w) hg); have GE402 := A_ (bz_ (w := w) hg); replace HB := A_ (below_step bw_ hb); clear hb hbox hg) | ((with_reducible refine gate_dst (N := 6) rfl ?_); refine be_ 6 #[.int .i64 a2_0, .int .i64 a2_1] 35 ?_; intro gb403 hg w7 hbox hb; have BK403 := A_ hbox; have GW403 := A_ (bz_ (w := w) hg); have GE403 := A_ (bz_ (w := w) hg); have NB402_403 := A_ (nl_ BK402.out hg); have NB403_402 := A_ (ng_ BK402.out hg); replace HB := A_ (below_step bw_ hb); replace BK402 := A_ (bb_ BK402.out hb); clear hb hbox hg))
 (try simp only [Act.put, List.setIfInBounds_toArray, List.set_cons_zero, List.set_cons_succ])
 go_cut [29] (fun v29 wc => ∃ (kq : Nat) (x29_4 : Bool), v29 = .bool x29_4 ∧ Aside0 (spec_HandicapFor.j0 kq a0 a3 x29_4 a1_0 a1_1 a2_0 a2_1 = some (r1, r2)) ∧ Aside0 (kq ≤ k) ∧ Aside0 (wc.heap[gb402]? = some (.cells #[.int .i64 a1_0, .int .i64 a1_1] 35 (0, 0))) ∧ Aside0 (wc.heap[gb403]? = some (.cells #[.int .i64 a2_0, .int .i64 a2_1] 35 (0, 0))) ∧ Aside0 (Below w.heap.size w wc))
 case first =>
  have H := HC5.out
  clear HC5
  replace H := ob_ H
  obtain ⟨t404, A8, H⟩ := H
  (try dsimp only at H)
  by_cases c9 : t404 = true
  ·
   subst c9
   rw [if_pos rfl] at H
   replace H := ob_ H
   obtain ⟨t405, A10, H⟩ := H
   (try dsimp only at H)
   by_cases c11 : t405 = true
   ·
    subst c11
    rw [if_pos rfl] at H
    by_cases c12 : a1_1 = 0
    ·
     rw [if_pos c12] at H
     exact absurd H (by simp)
    ·
     rw [if_neg c12] at H
     have c12b0 : (a1_1 == 0) = false := beq_eq_false_iff_ne.mpr c12
     have c12b1 : (a1_1 != 0) = true := bne_iff_ne.mpr c12
     (first | rw [c12b0] | (simp only [i64_w, i32_w]; rw [c12b0]) | skip)
     have H' := A_ H
     clear H
     have hnb13 := NB402_403.out
     have hnc13 := NB403_402.out
     have hcz14_0 := hz_ BK402.out 0 (.int .i64 a1_0)
     have hcz14_1 := hz_ BK402.out 1 (.int .i64 a1_1)
     have hfz14_0 := blk_frozen BK402.out 0
     have hfz14_1 := blk_frozen BK402.out 1
     have hcz15_0 := hz_ BK403.out 0 (.int .i64 a2_0)
     have hcz15_1 := hz_ BK403.out 1 (.int .i64 a2_1)
     have hfz15_0 := blk_frozen BK403.out 0
     have hfz15_1 := blk_frozen BK403.out 1
     go_wp2_with (first | ((with_reducible refine gate_callee (f := 66) rfl ?_); refine gl_ (some 14) Tryz.func66 #[.int .i64 a0, .agg #[.int .i64 a1_0, .int .i64 a1_1], .agg #[.int .i64 a2_0, .int .i64 a2_1]] ?_; (with_reducible refine (spec_trTwo.calls a0 a1_0 a1_1 a2_0 a2_1 true _ A8.out).mono ?_); rintro e w16 ⟨rfl, hb⟩; refine ⟨_, rfl, ?_⟩; replace HB := A_ (below_step bw_ hb); replace BK402 := A_ (bb_ BK402.out hb); replace BK403 := A_ (bb_ BK403.out hb); (try clear hb)) | (go_at_call 67; (with_reducible refine (spec_l1In.calls a3 1 100 true _ A10.out).mono ?_); rintro e w' ⟨rfl, ⟨nd, rfl⟩⟩; have hcz17_0 := hz_ BK402.out 0 (.int .i64 a1_0); have hcz17_1 := hz_ BK402.out 1 (.int .i64 a1_1); have hfz17_0 := blk_frozen BK402.out 0; have hfz17_1 := blk_frozen BK402.out 1))
     go_meet
     case rel => exact ⟨_, (((Int.tmod (wrap64 (a3 * a0)) a1_1) != 0)), (rs_), H', ⟨by first | omega | exact Nat.le_refl _⟩, ⟨bk_⟩, ⟨bk_⟩, ⟨bw_⟩⟩
   ·
    replace c11 := Bool.eq_false_iff.mpr c11
    subst c11
    rw [if_neg (show ¬ (false = true) by decide)] at H
    have H' := A_ H
    clear H
    have hnb18 := NB402_403.out
    have hnc18 := NB403_402.out
    have hcz19_0 := hz_ BK402.out 0 (.int .i64 a1_0)
    have hcz19_1 := hz_ BK402.out 1 (.int .i64 a1_1)
    have hfz19_0 := blk_frozen BK402.out 0
    have hfz19_1 := blk_frozen BK402.out 1
    have hcz20_0 := hz_ BK403.out 0 (.int .i64 a2_0)
    have hcz20_1 := hz_ BK403.out 1 (.int .i64 a2_1)
    have hfz20_0 := blk_frozen BK403.out 0
    have hfz20_1 := blk_frozen BK403.out 1
    go_wp2_with (first | ((with_reducible refine gate_callee (f := 66) rfl ?_); refine gl_ (some 14) Tryz.func66 #[.int .i64 a0, .agg #[.int .i64 a1_0, .int .i64 a1_1], .agg #[.int .i64 a2_0, .int .i64 a2_1]] ?_; (with_reducible refine (spec_trTwo.calls a0 a1_0 a1_1 a2_0 a2_1 true _ A8.out).mono ?_); rintro e w21 ⟨rfl, hb⟩; refine ⟨_, rfl, ?_⟩; replace HB := A_ (below_step bw_ hb); replace BK402 := A_ (bb_ BK402.out hb); replace BK403 := A_ (bb_ BK403.out hb); (try clear hb)) | (go_at_call 67; (with_reducible refine (spec_l1In.calls a3 1 100 false _ A10.out).mono ?_); rintro e w' ⟨rfl, ⟨nd, rfl⟩⟩))
    go_meet
    case rel => exact ⟨_, (true), (rs_), H', ⟨by first | omega | exact Nat.le_refl _⟩, ⟨bk_⟩, ⟨bk_⟩, ⟨bw_⟩⟩
  ·
   replace c9 := Bool.eq_false_iff.mpr c9
   subst c9
   rw [if_neg (show ¬ (false = true) by decide)] at H
   have H' := A_ H
   clear H
   have hnb22 := NB402_403.out
   have hnc22 := NB403_402.out
   have hcz23_0 := hz_ BK402.out 0 (.int .i64 a1_0)
   have hcz23_1 := hz_ BK402.out 1 (.int .i64 a1_1)
   have hfz23_0 := blk_frozen BK402.out 0
   have hfz23_1 := blk_frozen BK402.out 1
   have hcz24_0 := hz_ BK403.out 0 (.int .i64 a2_0)
   have hcz24_1 := hz_ BK403.out 1 (.int .i64 a2_1)
   have hfz24_0 := blk_frozen BK403.out 0
   have hfz24_1 := blk_frozen BK403.out 1
   go_wp2_with (first | ((with_reducible refine gate_callee (f := 66) rfl ?_); refine gl_ (some 14) Tryz.func66 #[.int .i64 a0, .agg #[.int .i64 a1_0, .int .i64 a1_1], .agg #[.int .i64 a2_0, .int .i64 a2_1]] ?_; (with_reducible refine (spec_trTwo.calls a0 a1_0 a1_1 a2_0 a2_1 false _ A8.out).mono ?_); rintro e w25 ⟨rfl, hb⟩; refine ⟨_, rfl, ?_⟩; replace HB := A_ (below_step bw_ hb); replace BK402 := A_ (bb_ BK402.out hb); replace BK403 := A_ (bb_ BK403.out hb); (try clear hb)))
   go_meet
   case rel => exact ⟨_, (true), (rs_), H', ⟨by first | omega | exact Nat.le_refl _⟩, ⟨bk_⟩, ⟨bk_⟩, ⟨bw_⟩⟩
 case rest =>
  clear HC5
  try clear c1
  try clear c2
  try clear p2
  try clear c6
  try clear p6
  try clear c9
  try clear c11
  try clear c12
  try clear c12b0
  try clear c12b1
  try clear c13
  try clear c18
  try clear c21
  try clear c22
  try clear hcz14_0
  try clear hcz14_1
  try clear hcz15_0
  try clear hcz15_1
  try clear hcz17_0
  try clear hcz17_1
  try clear hcz19_0
  try clear hcz19_1
  try clear hcz20_0
  try clear hcz20_1
  try clear hcz23_0
  try clear hcz23_1
  try clear hcz24_0
  try clear hcz24_1
  try clear hfz14_0
  try clear hfz14_1
  try clear hfz15_0
  try clear hfz15_1
  try clear hfz17_0
  try clear hfz17_1
  try clear hfz19_0
  try clear hfz19_1
  try clear hfz20_0
  try clear hfz20_1
  try clear hfz23_0
  try clear hfz23_1
  try clear hfz24_0
  try clear hfz24_1
  obtain ⟨kq, x29_4, rfl, HA, HJ4, BK402, BK403, HB⟩ := hcut
  cases kq with
    | zero => exact absurd HA.out (by simp [spec_HandicapFor.j0])
    | succ kj4 =>
   have H := HA.out
   clear HA
   simp only [spec_HandicapFor.j0] at H
   by_cases c26 : x29_4 = true
   ·
    subst c26
    rw [if_pos rfl] at H
    simp only [Option.some.injEq, Prod.mk.injEq] at H
    obtain ⟨rfl, rfl⟩ := H
    go_wp2
    go_ret2
    exact ⟨rt_, bw_⟩
   ·
    replace c26 := Bool.eq_false_iff.mpr c26
    subst c26
    rw [if_neg (show ¬ (false = true) by decide)] at H
    by_cases c27 : a1_1 = 0
    ·
     rw [if_pos c27] at H
     exact absurd H (by simp)
    ·
     rw [if_neg c27] at H
     have c27b0 : (a1_1 == 0) = false := beq_eq_false_iff_ne.mpr c27
     have c27b1 : (a1_1 != 0) = true := bne_iff_ne.mpr c27
     replace H := ob_ H
     obtain ⟨t406, A28, H⟩ := H
     (try dsimp only at H)
     replace H := ob_ H
     obtain ⟨t407, A29, H⟩ := H
     (try dsimp only at H)
     simp only [Option.some.injEq, Prod.mk.injEq] at H
     obtain ⟨rfl, rfl⟩ := H
     have hnb30 := NB402_403.out
     have hnc30 := NB403_402.out
     have hcz31_0 := hz_ BK402.out 0 (.int .i64 a1_0)
     have hcz31_1 := hz_ BK402.out 1 (.int .i64 a1_1)
     have hfz31_0 := blk_frozen BK402.out 0
     have hfz31_1 := blk_frozen BK402.out 1
     try go_wp2
     replace BK402 := A_ (blk_drew BK402.out)
     replace BK403 := A_ (blk_drew BK403.out)
     replace HB := A_ (below_drew1 HB.out)
     refine start_ (n := 9) (S := fun w' => w'.cell? ⟨gb402, 0, none⟩ = some (.int .i64 a1_0) ∧ w'.cell? ⟨gb402, 1, none⟩ = some (.int .i64 a1_1) ∧ w'.cell? ⟨gb403, 0, none⟩ = some (.int .i64 a2_0) ∧ w'.cell? ⟨gb403, 1, none⟩ = some (.int .i64 a2_1)) (ds := []) #[false, false, false, false, false, false, false, false, false] (by kernel_rfl) rfl rfl ⟨(blk_cell BK402.out 0).trans rfl, (blk_cell BK402.out 1).trans rfl, (blk_cell BK403.out 0).trans rfl, (blk_cell BK403.out 1).trans rfl⟩ (fun hHeld => ?_); refine with_tabW spec_HandicapFor.tab4 spec_HandicapFor.bits4 (fun HT_ HW_ => ?_)
     generalize wc.drew = w32 at BK402 BK403 HB hHeld ⊢
     refine pu_ 1 37 9 2 ?_
     refine pu_ 4 40 9 18 ?_
     refine tk_ 0 36 9 19 hHeld ?_
     refine tk_ 3 39 9 27 hHeld ?_
     refine one_ (i := 2) (N := some 38) (pm_ 9 31) rfl rfl (one_of HT_.out (by kernel_rfl)) (by decide) (fun K hK => ?_)
     refine goes_ Tryz.func50 (by kernel_rfl) rfl #[.agg #[.int .i64 a1_0, .int .i64 a1_1], .int .i64 (wrap64 (Int.tdiv (wrap64 (a3 * a0)) a1_1))] (by rfl) rfl rfl (by (try simp only [List.map_toArray, List.map_cons, List.map_nil]); first | done | rfl | (simp only [List.length_drop, List.length_take]; rfl)) ?_
     with_reducible refine (spec_trFar.calls a1_0 a1_1 (wrap64 (Int.tdiv (wrap64 (a3 * a0)) a1_1)) t406 _ A28.out).mono ?_
     rintro e w33 ⟨rfl, hb⟩
     refine ⟨_, rfl, ?_⟩
     replace HB := A_ (below_step bw_ hb)
     replace BK402 := A_ (bb_ BK402.out hb)
     replace BK403 := A_ (bb_ BK403.out hb)
     (try clear hb)
     (try clear hb2)
     (try clear hk)
     (try clear hi)
     refine hK.out _ _ ⟨(blk_cell BK402.out 0).trans rfl, (blk_cell BK402.out 1).trans rfl, (blk_cell BK403.out 0).trans rfl, (blk_cell BK403.out 1).trans rfl⟩ (fun hHeld => ?_)
     clear hK K
     refine norm_ (a' := ?_) ?_ ?_
     rotate_left
     ·
      show Act.put _ (some 38) _ = _
      simp only [Act.put, List.setIfInBounds_toArray, List.set_cons_zero, List.set_cons_succ, i64_w, i32_w]
      rfl
     refine one_ (i := 5) (N := some 41) (pm_ 9 63) rfl rfl (one_of HT_.out (by kernel_rfl)) (by decide) (fun K hK => ?_)
     refine goes_ Tryz.func50 (by kernel_rfl) rfl #[.agg #[.int .i64 a2_0, .int .i64 a2_1], .int .i64 (wrap64 (Int.tdiv (wrap64 (a3 * a0)) a1_1))] (by rfl) rfl rfl (by (try simp only [List.map_toArray, List.map_cons, List.map_nil]); first | done | rfl | (simp only [List.length_drop, List.length_take]; rfl)) ?_
     with_reducible refine (spec_trFar.calls a2_0 a2_1 (wrap64 (Int.tdiv (wrap64 (a3 * a0)) a1_1)) t407 _ A29.out).mono ?_
     rintro e w34 ⟨rfl, hb⟩
     refine ⟨_, rfl, ?_⟩
     replace HB := A_ (below_step bw_ hb)
     replace BK402 := A_ (bb_ BK402.out hb)
     replace BK403 := A_ (bb_ BK403.out hb)
     (try clear hb)
     (try clear hb2)
     (try clear hk)
     (try clear hi)
     refine hK.out _ _ ⟨(blk_cell BK402.out 0).trans rfl, (blk_cell BK402.out 1).trans rfl, (blk_cell BK403.out 0).trans rfl, (blk_cell BK403.out 1).trans rfl⟩ (fun hHeld => ?_)
     clear hK K
     refine norm_ (a' := ?_) ?_ ?_
     rotate_left
     ·
      show Act.put _ (some 41) _ = _
      simp only [Act.put, List.setIfInBounds_toArray, List.set_cons_zero, List.set_cons_succ, i64_w, i32_w]
      rfl
     refine pu_ 6 42 9 127 ?_
     refine pu_ 7 8 9 255 ?_
     refine pu_ 8 9 9 511 ?_
     refine done_ (done_of HT_.out (by kernel_rfl)) ?_
     try go_wp2
     go_ret2
     exact ⟨rt_, bw_⟩

/-! ### impl_absOf: function 94 -/
def impl_absOf.f (a0 : Int) : Option (Int) := some (mx a0 (wrap64 (-a0)))
set_option maxHeartbeats 8000000 in
set_option maxRecDepth 100000 in
theorem impl_absOf.calls (a0 : Int) (r : Int) (w : World) (h : impl_absOf.f a0 = some r) :
  Calls Tryz.prog 94 #[.int .i64 a0] w fun e w' => e = .returned (.int .i64 r) ∧ Below w.heap.size w w' := by
 have HB := A_ (Below.refl w.heap.size w)
 have H : (some (mx a0 (wrap64 (-a0)))) = some r := h
 clear h
 obtain ⟨ji2, hji2⟩ : ∃ j_ : Int, (mx a0 (wrap64 (-a0))) = j_ := ⟨_, rfl⟩
 replace H : (some ji2) = some r := by first | (rw [hji2] at H; exact H) | (simp only [hji2] at H ⊢; exact H)
 have hji2_ : (if a0 < (wrap64 (-a0)) then (wrap64 (-a0)) else a0) = ji2 := hji2
 obtain rfl := Option.some.inj H
 go_enter Tryz.func94, Tryz.ntmps94
 go_wp2
 go_ret
 exact ⟨by first | rfl | (simp [errW_none, errW_some] <;> rfl) | (simp only [← hji2]; first | rfl | (simp [errW_none, errW_some] <;> rfl)) | (simp [*, errW_none, errW_some] <;> rfl), bw_⟩

/-! ### impl_lowest: function 68 -/
def impl_lowest.f (k : Nat) (a0 : Int) (a1 : Int) : Option (Int × Int) := if a1 < 0 then ((impl_absOf.f (wrap64 (-a0))).bind fun t408 => ((impl_divisorOf.f k (wrap64 (-a1)) t408).bind fun t409 => (if t409 = 0 then (none) else (some (wrap64 (Int.tdiv (wrap64 (-a0)) t409), wrap64 (Int.tdiv (wrap64 (-a1)) t409)))))) else ((impl_absOf.f a0).bind fun t410 => ((impl_divisorOf.f k a1 t410).bind fun t411 => (if t411 = 0 then (none) else (some (wrap64 (Int.tdiv a0 t411), wrap64 (Int.tdiv a1 t411))))))

set_option maxHeartbeats 8000000 in
set_option maxRecDepth 100000 in
theorem impl_lowest.calls (k : Nat) (a0 : Int) (a1 : Int) (r1 : Int) (r2 : Int) (w : World) (h : impl_lowest.f k a0 a1 = some (r1, r2)) :
  Calls Tryz.prog 68 #[.int .i64 a0, .int .i64 a1] w fun e w' => e = .returned (.tuple #[.int .i64 r1, .int .i64 r2]) ∧ Below w.heap.size w w' := by
 have HB := A_ (Below.refl w.heap.size w)
 have H := h
 unfold impl_lowest.f at H
 clear h
 by_cases c3 : a1 < 0
 ·
  rw [if_pos c3] at H
  replace c3 := decide_eq_true c3
  replace H := ob_ H
  obtain ⟨t408, A4, H⟩ := H
  (try dsimp only at H)
  replace H := ob_ H
  obtain ⟨t409, A5, H⟩ := H
  (try dsimp only at H)
  by_cases c6 : t409 = 0
  ·
   rw [if_pos c6] at H
   exact absurd H (by simp)
  ·
   rw [if_neg c6] at H
   have c6b0 : (t409 == 0) = false := beq_eq_false_iff_ne.mpr c6
   have c6b1 : (t409 != 0) = true := bne_iff_ne.mpr c6
   simp only [Option.some.injEq, Prod.mk.injEq] at H
   obtain ⟨rfl, rfl⟩ := H
   go_enter Tryz.func68, Tryz.ntmps68
   go_wp2_with (first | (go_at_call 94; (with_reducible refine (impl_absOf.calls (wrap64 (-a0)) t408 _ A4.out).mono ?_); rintro e w7 ⟨rfl, hb⟩; replace HB := A_ (below_step bw_ hb); (try clear hb)) | (go_at_call 91; (with_reducible refine (impl_divisorOf.calls k (wrap64 (-a1)) t408 t409 _ A5.out).mono ?_); rintro e w' ⟨rfl, ⟨nd, rfl⟩⟩; (try first | exact ⟨rfl, _, World.drewN_drewN _ _ _⟩ | exact ⟨rfl, _, Eq.trans (World.drewN_drewN _ _ _) (congrArg (World.drewN _) (Nat.add_assoc _ _ _))⟩)))
   repeat (go_quiet (first | (go_at_call 94; (with_reducible refine (impl_absOf.calls (wrap64 (-a0)) t408 _ A4.out).mono ?_); rintro e w7 ⟨rfl, hb⟩; replace HB := A_ (below_step bw_ hb); (try clear hb)) | (go_at_call 91; (with_reducible refine (impl_divisorOf.calls k (wrap64 (-a1)) t408 t409 _ A5.out).mono ?_); rintro e w' ⟨rfl, ⟨nd, rfl⟩⟩; (try first | exact ⟨rfl, _, World.drewN_drewN _ _ _⟩ | exact ⟨rfl, _, Eq.trans (World.drewN_drewN _ _ _) (congrArg (World.drewN _) (Nat.add_assoc _ _ _))⟩))); try go_wp2_with (first | (go_at_call 94; (with_reducible refine (impl_absOf.calls (wrap64 (-a0)) t408 _ A4.out).mono ?_); rintro e w7 ⟨rfl, hb⟩; replace HB := A_ (below_step bw_ hb); (try clear hb)) | (go_at_call 91; (with_reducible refine (impl_divisorOf.calls k (wrap64 (-a1)) t408 t409 _ A5.out).mono ?_); rintro e w' ⟨rfl, ⟨nd, rfl⟩⟩; (try first | exact ⟨rfl, _, World.drewN_drewN _ _ _⟩ | exact ⟨rfl, _, Eq.trans (World.drewN_drewN _ _ _) (congrArg (World.drewN _) (Nat.add_assoc _ _ _))⟩))))
   go_ret2
   exact ⟨rt_, bw_⟩
 ·
  rw [if_neg c3] at H
  replace c3 := decide_eq_false c3
  replace H := ob_ H
  obtain ⟨t410, A8, H⟩ := H
  (try dsimp only at H)
  replace H := ob_ H
  obtain ⟨t411, A9, H⟩ := H
  (try dsimp only at H)
  by_cases c10 : t411 = 0
  ·
   rw [if_pos c10] at H
   exact absurd H (by simp)
  ·
   rw [if_neg c10] at H
   have c10b0 : (t411 == 0) = false := beq_eq_false_iff_ne.mpr c10
   have c10b1 : (t411 != 0) = true := bne_iff_ne.mpr c10
   simp only [Option.some.injEq, Prod.mk.injEq] at H
   obtain ⟨rfl, rfl⟩ := H
   go_enter Tryz.func68, Tryz.ntmps68
   go_wp2_with (first | (go_at_call 94; (with_reducible refine (impl_absOf.calls a0 t410 _ A8.out).mono ?_); rintro e w11 ⟨rfl, hb⟩; replace HB := A_ (below_step bw_ hb); (try clear hb)) | (go_at_call 91; (with_reducible refine (impl_divisorOf.calls k a1 t410 t411 _ A9.out).mono ?_); rintro e w' ⟨rfl, ⟨nd, rfl⟩⟩; (try first | exact ⟨rfl, _, World.drewN_drewN _ _ _⟩ | exact ⟨rfl, _, Eq.trans (World.drewN_drewN _ _ _) (congrArg (World.drewN _) (Nat.add_assoc _ _ _))⟩)))
   repeat (go_quiet (first | (go_at_call 94; (with_reducible refine (impl_absOf.calls a0 t410 _ A8.out).mono ?_); rintro e w11 ⟨rfl, hb⟩; replace HB := A_ (below_step bw_ hb); (try clear hb)) | (go_at_call 91; (with_reducible refine (impl_divisorOf.calls k a1 t410 t411 _ A9.out).mono ?_); rintro e w' ⟨rfl, ⟨nd, rfl⟩⟩; (try first | exact ⟨rfl, _, World.drewN_drewN _ _ _⟩ | exact ⟨rfl, _, Eq.trans (World.drewN_drewN _ _ _) (congrArg (World.drewN _) (Nat.add_assoc _ _ _))⟩))); try go_wp2_with (first | (go_at_call 94; (with_reducible refine (impl_absOf.calls a0 t410 _ A8.out).mono ?_); rintro e w11 ⟨rfl, hb⟩; replace HB := A_ (below_step bw_ hb); (try clear hb)) | (go_at_call 91; (with_reducible refine (impl_divisorOf.calls k a1 t410 t411 _ A9.out).mono ?_); rintro e w' ⟨rfl, ⟨nd, rfl⟩⟩; (try first | exact ⟨rfl, _, World.drewN_drewN _ _ _⟩ | exact ⟨rfl, _, Eq.trans (World.drewN_drewN _ _ _) (congrArg (World.drewN _) (Nat.add_assoc _ _ _))⟩))))
   go_ret2
   exact ⟨rt_, bw_⟩

/-! ### impl_TimeOfLaps: function 22 -/
def impl_TimeOfLaps.f (k : Nat) (a0 : Int) (a1_0 : Int) (a1_1 : Int) (a2 : Int) : Option (Int × Int × Bool) := (impl_onTrack.f a0 (([(⟨a1_0, a1_1⟩ : S35)] : List (S35)))).bind fun t416 => (if t416 = true then ((impl_areLaps.f a2).bind fun t417 => (if t417 = true then ((impl_lowest.f k (wrap64 (a2 * a0)) a1_1).bind fun bt418 => (some (bt418.1, bt418.2, true))) else (some (0, 0, false)))) else (some (0, 0, false)))

set_option maxHeartbeats 8000000 in
set_option maxRecDepth 100000 in
theorem impl_TimeOfLaps.calls (k : Nat) (a0 : Int) (a1_0 : Int) (a1_1 : Int) (a2 : Int) (r1 : Int) (r2 : Int) (r3 : Bool) (w : World) (h : impl_TimeOfLaps.f k a0 a1_0 a1_1 a2 = some (r1, r2, r3)) :
  Calls Tryz.prog 22 #[.int .i64 a0, .agg #[.int .i64 a1_0, .int .i64 a1_1], .int .i64 a2] w fun e w' => e = .returned (.tuple #[.int .i64 r1, .int .i64 r2, .bool r3]) ∧ Below w.heap.size w w' := by
 have hu35 := Tryz.underlying35
 have HB := A_ (Below.refl w.heap.size w)
 have H := h
 unfold impl_TimeOfLaps.f at H
 clear h
 obtain ⟨y413, hy413⟩ : ∃ y_ : List (S35), y_ = (([(⟨a1_0, a1_1⟩ : S35)] : List (S35))) := ⟨_, rfl⟩
 replace H : ((impl_onTrack.f a0 y413).bind fun t416 => (if t416 = true then ((impl_areLaps.f a2).bind fun t417 => (if t417 = true then ((impl_lowest.f k (wrap64 (a2 * a0)) a1_1).bind fun bt418 => (some (bt418.1, bt418.2, true))) else (some (0, 0, false)))) else (some (0, 0, false)))) = some (r1, r2, r3) := by first | (rw [hy413]; with_reducible exact H) | (have H2_ := (Option.bind_some _ _).symm.trans H; rw [hy413]; with_reducible exact H2_) | (have H2_ := (Option.bind_some _ _).symm.trans H; with_reducible exact H2_) | with_reducible exact H | (rw [hy413]; exact H) | exact H
 have Ny413 := A_ hy413
 clear hy413
 replace H := ob_ H
 obtain ⟨t416, A4, H⟩ := H
 (try dsimp only at H)
 by_cases c5 : t416 = true
 ·
  subst c5
  rw [if_pos rfl] at H
  replace H := ob_ H
  obtain ⟨t417, A6, H⟩ := H
  (try dsimp only at H)
  by_cases c7 : t417 = true
  ·
   subst c7
   rw [if_pos rfl] at H
   replace H := ob_ H
   obtain ⟨⟨t418, t419⟩, A8, H⟩ := H
   (try dsimp only at H)
   simp only [Option.some.injEq, Prod.mk.injEq] at H
   obtain ⟨rfl, rfl, rfl⟩ := H
   go_enter Tryz.func22, Tryz.ntmps22
   go_wp2_with (first | ((with_reducible refine gate_dst (N := 4) rfl ?_); refine be_ 4 #[.int .i64 a1_0, .int .i64 a1_1] 35 ?_; intro gb412 hg w9 hbox hb; have BK412 := A_ hbox; have GW412 := A_ (bz_ (w := w) hg); have GE412 := A_ (bz_ (w := w) hg); replace HB := A_ (below_step bw_ hb); clear hb hbox hg; have hcz10_0 := hz_ BK412.out 0 (.int .i64 a1_0); have hcz10_1 := hz_ BK412.out 1 (.int .i64 a1_1); have hfz10_0 := blk_frozen BK412.out 0; have hfz10_1 := blk_frozen BK412.out 1) | ((with_reducible refine gate_dst (N := 13) rfl ?_); refine Kd.R_lit k35 _ 35 ?hg (N := 13) ?hd (xs := ([(⟨a1_0, a1_1⟩ : S35)] : List (S35))) (inner := [.int .i64 a1_0, .int .i64 a1_1]) (ok := fun _ => True) (okp := fun _ => True) ?hr ?hp (fun _ hk => hk) trivial (Below.refl _ _) (Nat.le_refl _) (by simp) ?_; (case hd => rfl); (case hg => rfl); (case hr => first | (go_simp; done) | (go_simp; rfl)); (case hp => exact (Reps.c2 (show Kd.M k35 _ _ _ (⟨a1_0, a1_1⟩ : S35) [.int .i64 a1_0, .int .i64 a1_1] from (k35_mkM _ _ _ (⟨a1_0, a1_1⟩ : S35) )) (Reps.none _ _))); intro v414 w11 ho12 hb hg_ hnew_; clear hg_ hnew_; (first | rw [← Ny413.out] at ho12 | (simp only [Int.reduceToNat] at ho12; rw [← Ny413.out] at ho12)); have HO415 := A_ (Kd.R_lower (Kd.R_newB ho12 (g := gb412) (o := .cells #[.int .i64 a1_0, .int .i64 a1_1] 35 (0, 0)) bk_) (below_size bw_)); replace HB := A_ (below_step bw_ hb); replace BK412 := A_ (bb_ BK412.out hb); clear hb ho12; obtain ⟨Ao13, co13, eo13⟩ := Kd.R_slice HO415.out; subst eo13) | ((with_reducible refine gate_callee (f := 52) rfl ?_); refine gl_ (some 14) Tryz.func52 #[.int .i64 a0, .slice Ao13 y413.length co13] ?_; (with_reducible refine (impl_onTrack.calls a0 _ _ y413 true _ ?side1 ?side2 A4.out).mono ?_); (case side1 => repeat (first | exact (Kd.R_reads' HO415.out).2.2 | (with_reducible refine Kd.C_alloc ?_ _) | (with_reducible refine Kd.C_drewN ?_ _) | (with_reducible refine Kd.C_drew ?_))); (case side2 => exact (Kd.R_reads' HO415.out).2.1); rintro e w14 ⟨rfl, hb⟩; refine ⟨_, rfl, ?_⟩; replace HB := A_ (below_step bw_ hb); replace BK412 := A_ (bb_ BK412.out hb); replace HO415 := A_ (Kd.R_below (by (with_reducible repeat (first | apply Kd.R_alloc | apply Kd.R_drewN | apply Kd.R_drew)); exact HO415.out) hb); (try clear hb)) | (go_at_call 65; (with_reducible refine (impl_areLaps.calls a2 true _ A6.out).mono ?_); rintro e w' ⟨rfl, ⟨nd, rfl⟩⟩; have hcz15_0 := hz_ BK412.out 0 (.int .i64 a1_0); have hcz15_1 := hz_ BK412.out 1 (.int .i64 a1_1); have hfz15_0 := blk_frozen BK412.out 0; have hfz15_1 := blk_frozen BK412.out 1) | ((with_reducible refine gate_callee (f := 68) rfl ?_); refine gl_ (some 27) Tryz.func68 #[.int .i64 (wrap64 (a2 * a0)), .int .i64 a1_1] ?_; (with_reducible refine (impl_lowest.calls k (wrap64 (a2 * a0)) a1_1 t418 t419 _ A8.out).mono ?_); rintro e w16 ⟨rfl, hb⟩; refine ⟨_, rfl, ?_⟩; replace HB := A_ (below_step bw_ hb); replace BK412 := A_ (bb_ BK412.out hb); replace HO415 := A_ (Kd.R_below (by (with_reducible repeat (first | apply Kd.R_alloc | apply Kd.R_drewN | apply Kd.R_drew)); exact HO415.out) hb); (try clear hb)))
   go_ret3
   exact ⟨rt_, bw_⟩
  ·
   replace c7 := Bool.eq_false_iff.mpr c7
   subst c7
   rw [if_neg (show ¬ (false = true) by decide)] at H
   simp only [Option.some.injEq, Prod.mk.injEq] at H
   obtain ⟨rfl, rfl, rfl⟩ := H
   go_enter Tryz.func22, Tryz.ntmps22
   go_wp2_with (first | ((with_reducible refine gate_dst (N := 4) rfl ?_); refine be_ 4 #[.int .i64 a1_0, .int .i64 a1_1] 35 ?_; intro gb412 hg w17 hbox hb; have BK412 := A_ hbox; have GW412 := A_ (bz_ (w := w) hg); have GE412 := A_ (bz_ (w := w) hg); replace HB := A_ (below_step bw_ hb); clear hb hbox hg; have hcz18_0 := hz_ BK412.out 0 (.int .i64 a1_0); have hcz18_1 := hz_ BK412.out 1 (.int .i64 a1_1); have hfz18_0 := blk_frozen BK412.out 0; have hfz18_1 := blk_frozen BK412.out 1) | ((with_reducible refine gate_dst (N := 13) rfl ?_); refine Kd.R_lit k35 _ 35 ?hg (N := 13) ?hd (xs := ([(⟨a1_0, a1_1⟩ : S35)] : List (S35))) (inner := [.int .i64 a1_0, .int .i64 a1_1]) (ok := fun _ => True) (okp := fun _ => True) ?hr ?hp (fun _ hk => hk) trivial (Below.refl _ _) (Nat.le_refl _) (by simp) ?_; (case hd => rfl); (case hg => rfl); (case hr => first | (go_simp; done) | (go_simp; rfl)); (case hp => exact (Reps.c2 (show Kd.M k35 _ _ _ (⟨a1_0, a1_1⟩ : S35) [.int .i64 a1_0, .int .i64 a1_1] from (k35_mkM _ _ _ (⟨a1_0, a1_1⟩ : S35) )) (Reps.none _ _))); intro v414 w19 ho20 hb hg_ hnew_; clear hg_ hnew_; (first | rw [← Ny413.out] at ho20 | (simp only [Int.reduceToNat] at ho20; rw [← Ny413.out] at ho20)); have HO415 := A_ (Kd.R_lower (Kd.R_newB ho20 (g := gb412) (o := .cells #[.int .i64 a1_0, .int .i64 a1_1] 35 (0, 0)) bk_) (below_size bw_)); replace HB := A_ (below_step bw_ hb); replace BK412 := A_ (bb_ BK412.out hb); clear hb ho20; obtain ⟨Ao21, co21, eo21⟩ := Kd.R_slice HO415.out; subst eo21) | ((with_reducible refine gate_callee (f := 52) rfl ?_); refine gl_ (some 14) Tryz.func52 #[.int .i64 a0, .slice Ao21 y413.length co21] ?_; (with_reducible refine (impl_onTrack.calls a0 _ _ y413 true _ ?side1 ?side2 A4.out).mono ?_); (case side1 => repeat (first | exact (Kd.R_reads' HO415.out).2.2 | (with_reducible refine Kd.C_alloc ?_ _) | (with_reducible refine Kd.C_drewN ?_ _) | (with_reducible refine Kd.C_drew ?_))); (case side2 => exact (Kd.R_reads' HO415.out).2.1); rintro e w22 ⟨rfl, hb⟩; refine ⟨_, rfl, ?_⟩; replace HB := A_ (below_step bw_ hb); replace BK412 := A_ (bb_ BK412.out hb); replace HO415 := A_ (Kd.R_below (by (with_reducible repeat (first | apply Kd.R_alloc | apply Kd.R_drewN | apply Kd.R_drew)); exact HO415.out) hb); (try clear hb)) | (go_at_call 65; (with_reducible refine (impl_areLaps.calls a2 false _ A6.out).mono ?_); rintro e w' ⟨rfl, ⟨nd, rfl⟩⟩))
   go_ret3
   exact ⟨rt_, bw_⟩
 ·
  replace c5 := Bool.eq_false_iff.mpr c5
  subst c5
  rw [if_neg (show ¬ (false = true) by decide)] at H
  simp only [Option.some.injEq, Prod.mk.injEq] at H
  obtain ⟨rfl, rfl, rfl⟩ := H
  go_enter Tryz.func22, Tryz.ntmps22
  go_wp2_with (first | ((with_reducible refine gate_dst (N := 4) rfl ?_); refine be_ 4 #[.int .i64 a1_0, .int .i64 a1_1] 35 ?_; intro gb412 hg w23 hbox hb; have BK412 := A_ hbox; have GW412 := A_ (bz_ (w := w) hg); have GE412 := A_ (bz_ (w := w) hg); replace HB := A_ (below_step bw_ hb); clear hb hbox hg; have hcz24_0 := hz_ BK412.out 0 (.int .i64 a1_0); have hcz24_1 := hz_ BK412.out 1 (.int .i64 a1_1); have hfz24_0 := blk_frozen BK412.out 0; have hfz24_1 := blk_frozen BK412.out 1) | ((with_reducible refine gate_dst (N := 13) rfl ?_); refine Kd.R_lit k35 _ 35 ?hg (N := 13) ?hd (xs := ([(⟨a1_0, a1_1⟩ : S35)] : List (S35))) (inner := [.int .i64 a1_0, .int .i64 a1_1]) (ok := fun _ => True) (okp := fun _ => True) ?hr ?hp (fun _ hk => hk) trivial (Below.refl _ _) (Nat.le_refl _) (by simp) ?_; (case hd => rfl); (case hg => rfl); (case hr => first | (go_simp; done) | (go_simp; rfl)); (case hp => exact (Reps.c2 (show Kd.M k35 _ _ _ (⟨a1_0, a1_1⟩ : S35) [.int .i64 a1_0, .int .i64 a1_1] from (k35_mkM _ _ _ (⟨a1_0, a1_1⟩ : S35) )) (Reps.none _ _))); intro v414 w25 ho26 hb hg_ hnew_; clear hg_ hnew_; (first | rw [← Ny413.out] at ho26 | (simp only [Int.reduceToNat] at ho26; rw [← Ny413.out] at ho26)); have HO415 := A_ (Kd.R_lower (Kd.R_newB ho26 (g := gb412) (o := .cells #[.int .i64 a1_0, .int .i64 a1_1] 35 (0, 0)) bk_) (below_size bw_)); replace HB := A_ (below_step bw_ hb); replace BK412 := A_ (bb_ BK412.out hb); clear hb ho26; obtain ⟨Ao27, co27, eo27⟩ := Kd.R_slice HO415.out; subst eo27) | ((with_reducible refine gate_callee (f := 52) rfl ?_); refine gl_ (some 14) Tryz.func52 #[.int .i64 a0, .slice Ao27 y413.length co27] ?_; (with_reducible refine (impl_onTrack.calls a0 _ _ y413 false _ ?side1 ?side2 A4.out).mono ?_); (case side1 => repeat (first | exact (Kd.R_reads' HO415.out).2.2 | (with_reducible refine Kd.C_alloc ?_ _) | (with_reducible refine Kd.C_drewN ?_ _) | (with_reducible refine Kd.C_drew ?_))); (case side2 => exact (Kd.R_reads' HO415.out).2.1); rintro e w28 ⟨rfl, hb⟩; refine ⟨_, rfl, ?_⟩; replace HB := A_ (below_step bw_ hb); replace BK412 := A_ (bb_ BK412.out hb); replace HO415 := A_ (Kd.R_below (by (with_reducible repeat (first | apply Kd.R_alloc | apply Kd.R_drewN | apply Kd.R_drew)); exact HO415.out) hb); (try clear hb)))
  go_ret3
  exact ⟨rt_, bw_⟩

/-! ### spec_TimeOfLaps: function 23 -/
def spec_TimeOfLaps.f (k : Nat) (a0 : Int) (a1_0 : Int) (a1_1 : Int) (a2 : Int) : Option (Int × Int × Bool) := (spec_trRunner.f a0 a1_0 a1_1).bind fun t421 => (if t421 = true then ((spec_l1In.f a2 1 100).bind fun t422 => (if t422 = true then ((spec_trCommon.f k (wrap64 (a2 * a0)) a1_1).bind fun t423 => (if t423 = 0 then (none) else (some (wrap64 (Int.tdiv (wrap64 (a2 * a0)) t423), wrap64 (Int.tdiv a1_1 t423), true)))) else (some (0, 0, false)))) else (some (0, 0, false)))

set_option maxHeartbeats 8000000 in
set_option maxRecDepth 100000 in
theorem spec_TimeOfLaps.calls (k : Nat) (a0 : Int) (a1_0 : Int) (a1_1 : Int) (a2 : Int) (r1 : Int) (r2 : Int) (r3 : Bool) (w : World) (h : spec_TimeOfLaps.f k a0 a1_0 a1_1 a2 = some (r1, r2, r3)) :
  Calls Tryz.prog 23 #[.int .i64 a0, .agg #[.int .i64 a1_0, .int .i64 a1_1], .int .i64 a2] w fun e w' => e = .returned (.tuple #[.int .i64 r1, .int .i64 r2, .bool r3]) ∧ Below w.heap.size w w' := by
 have hu35 := Tryz.underlying35
 have HB := A_ (Below.refl w.heap.size w)
 have H := h
 unfold spec_TimeOfLaps.f at H
 clear h
 replace H := ob_ H
 obtain ⟨t421, A4, H⟩ := H
 (try dsimp only at H)
 by_cases c5 : t421 = true
 ·
  subst c5
  rw [if_pos rfl] at H
  replace H := ob_ H
  obtain ⟨t422, A6, H⟩ := H
  (try dsimp only at H)
  by_cases c7 : t422 = true
  ·
   subst c7
   rw [if_pos rfl] at H
   replace H := ob_ H
   obtain ⟨t423, A8, H⟩ := H
   (try dsimp only at H)
   by_cases c9 : t423 = 0
   ·
    rw [if_pos c9] at H
    exact absurd H (by simp)
   ·
    rw [if_neg c9] at H
    have c9b0 : (t423 == 0) = false := beq_eq_false_iff_ne.mpr c9
    have c9b1 : (t423 != 0) = true := bne_iff_ne.mpr c9
    simp only [Option.some.injEq, Prod.mk.injEq] at H
    obtain ⟨rfl, rfl, rfl⟩ := H
    go_enter Tryz.func23, Tryz.ntmps23
    go_wp2_with (first | ((with_reducible refine gate_dst (N := 4) rfl ?_); refine be_ 4 #[.int .i64 a1_0, .int .i64 a1_1] 35 ?_; intro gb420 hg w10 hbox hb; have BK420 := A_ hbox; have GW420 := A_ (bz_ (w := w) hg); have GE420 := A_ (bz_ (w := w) hg); replace HB := A_ (below_step bw_ hb); clear hb hbox hg; have hcz11_0 := hz_ BK420.out 0 (.int .i64 a1_0); have hcz11_1 := hz_ BK420.out 1 (.int .i64 a1_1); have hfz11_0 := blk_frozen BK420.out 0; have hfz11_1 := blk_frozen BK420.out 1) | (go_at_call 54; (with_reducible refine (spec_trRunner.calls a0 a1_0 a1_1 true _ A4.out).mono ?_); rintro e w12 ⟨rfl, hb⟩; replace HB := A_ (below_step bw_ hb); replace BK420 := A_ (bb_ BK420.out hb); (try clear hb)) | (go_at_call 67; (with_reducible refine (spec_l1In.calls a2 1 100 true _ A6.out).mono ?_); rintro e w' ⟨rfl, ⟨nd, rfl⟩⟩; (try first | exact ⟨rfl, _, World.drewN_drewN _ _ _⟩ | exact ⟨rfl, _, Eq.trans (World.drewN_drewN _ _ _) (congrArg (World.drewN _) (Nat.add_assoc _ _ _))⟩); have hcz13_0 := hz_ BK420.out 0 (.int .i64 a1_0); have hcz13_1 := hz_ BK420.out 1 (.int .i64 a1_1); have hfz13_0 := blk_frozen BK420.out 0; have hfz13_1 := blk_frozen BK420.out 1) | (go_at_call 69; (with_reducible refine (spec_trCommon.calls k (wrap64 (a2 * a0)) a1_1 t423 _ A8.out).mono ?_); rintro e w' ⟨rfl, ⟨nd, rfl⟩⟩; (try first | exact ⟨rfl, _, World.drewN_drewN _ _ _⟩ | exact ⟨rfl, _, Eq.trans (World.drewN_drewN _ _ _) (congrArg (World.drewN _) (Nat.add_assoc _ _ _))⟩)))
    repeat (go_quiet (first | ((with_reducible refine gate_dst (N := 4) rfl ?_); refine be_ 4 #[.int .i64 a1_0, .int .i64 a1_1] 35 ?_; intro gb420 hg w10 hbox hb; have BK420 := A_ hbox; have GW420 := A_ (bz_ (w := w) hg); have GE420 := A_ (bz_ (w := w) hg); replace HB := A_ (below_step bw_ hb); clear hb hbox hg; have hcz11_0 := hz_ BK420.out 0 (.int .i64 a1_0); have hcz11_1 := hz_ BK420.out 1 (.int .i64 a1_1); have hfz11_0 := blk_frozen BK420.out 0; have hfz11_1 := blk_frozen BK420.out 1) | (go_at_call 54; (with_reducible refine (spec_trRunner.calls a0 a1_0 a1_1 true _ A4.out).mono ?_); rintro e w12 ⟨rfl, hb⟩; replace HB := A_ (below_step bw_ hb); replace BK420 := A_ (bb_ BK420.out hb); (try clear hb)) | (go_at_call 67; (with_reducible refine (spec_l1In.calls a2 1 100 true _ A6.out).mono ?_); rintro e w' ⟨rfl, ⟨nd, rfl⟩⟩; (try first | exact ⟨rfl, _, World.drewN_drewN _ _ _⟩ | exact ⟨rfl, _, Eq.trans (World.drewN_drewN _ _ _) (congrArg (World.drewN _) (Nat.add_assoc _ _ _))⟩); have hcz13_0 := hz_ BK420.out 0 (.int .i64 a1_0); have hcz13_1 := hz_ BK420.out 1 (.int .i64 a1_1); have hfz13_0 := blk_frozen BK420.out 0; have hfz13_1 := blk_frozen BK420.out 1) | (go_at_call 69; (with_reducible refine (spec_trCommon.calls k (wrap64 (a2 * a0)) a1_1 t423 _ A8.out).mono ?_); rintro e w' ⟨rfl, ⟨nd, rfl⟩⟩; (try first | exact ⟨rfl, _, World.drewN_drewN _ _ _⟩ | exact ⟨rfl, _, Eq.trans (World.drewN_drewN _ _ _) (congrArg (World.drewN _) (Nat.add_assoc _ _ _))⟩))); try go_wp2_with (first | ((with_reducible refine gate_dst (N := 4) rfl ?_); refine be_ 4 #[.int .i64 a1_0, .int .i64 a1_1] 35 ?_; intro gb420 hg w10 hbox hb; have BK420 := A_ hbox; have GW420 := A_ (bz_ (w := w) hg); have GE420 := A_ (bz_ (w := w) hg); replace HB := A_ (below_step bw_ hb); clear hb hbox hg; have hcz11_0 := hz_ BK420.out 0 (.int .i64 a1_0); have hcz11_1 := hz_ BK420.out 1 (.int .i64 a1_1); have hfz11_0 := blk_frozen BK420.out 0; have hfz11_1 := blk_frozen BK420.out 1) | (go_at_call 54; (with_reducible refine (spec_trRunner.calls a0 a1_0 a1_1 true _ A4.out).mono ?_); rintro e w12 ⟨rfl, hb⟩; replace HB := A_ (below_step bw_ hb); replace BK420 := A_ (bb_ BK420.out hb); (try clear hb)) | (go_at_call 67; (with_reducible refine (spec_l1In.calls a2 1 100 true _ A6.out).mono ?_); rintro e w' ⟨rfl, ⟨nd, rfl⟩⟩; (try first | exact ⟨rfl, _, World.drewN_drewN _ _ _⟩ | exact ⟨rfl, _, Eq.trans (World.drewN_drewN _ _ _) (congrArg (World.drewN _) (Nat.add_assoc _ _ _))⟩); have hcz13_0 := hz_ BK420.out 0 (.int .i64 a1_0); have hcz13_1 := hz_ BK420.out 1 (.int .i64 a1_1); have hfz13_0 := blk_frozen BK420.out 0; have hfz13_1 := blk_frozen BK420.out 1) | (go_at_call 69; (with_reducible refine (spec_trCommon.calls k (wrap64 (a2 * a0)) a1_1 t423 _ A8.out).mono ?_); rintro e w' ⟨rfl, ⟨nd, rfl⟩⟩; (try first | exact ⟨rfl, _, World.drewN_drewN _ _ _⟩ | exact ⟨rfl, _, Eq.trans (World.drewN_drewN _ _ _) (congrArg (World.drewN _) (Nat.add_assoc _ _ _))⟩))))
    go_ret3
    exact ⟨rt_, bw_⟩
  ·
   replace c7 := Bool.eq_false_iff.mpr c7
   subst c7
   rw [if_neg (show ¬ (false = true) by decide)] at H
   simp only [Option.some.injEq, Prod.mk.injEq] at H
   obtain ⟨rfl, rfl, rfl⟩ := H
   go_enter Tryz.func23, Tryz.ntmps23
   go_wp2_with (first | ((with_reducible refine gate_dst (N := 4) rfl ?_); refine be_ 4 #[.int .i64 a1_0, .int .i64 a1_1] 35 ?_; intro gb420 hg w14 hbox hb; have BK420 := A_ hbox; have GW420 := A_ (bz_ (w := w) hg); have GE420 := A_ (bz_ (w := w) hg); replace HB := A_ (below_step bw_ hb); clear hb hbox hg; have hcz15_0 := hz_ BK420.out 0 (.int .i64 a1_0); have hcz15_1 := hz_ BK420.out 1 (.int .i64 a1_1); have hfz15_0 := blk_frozen BK420.out 0; have hfz15_1 := blk_frozen BK420.out 1) | (go_at_call 54; (with_reducible refine (spec_trRunner.calls a0 a1_0 a1_1 true _ A4.out).mono ?_); rintro e w16 ⟨rfl, hb⟩; replace HB := A_ (below_step bw_ hb); replace BK420 := A_ (bb_ BK420.out hb); (try clear hb)) | (go_at_call 67; (with_reducible refine (spec_l1In.calls a2 1 100 false _ A6.out).mono ?_); rintro e w' ⟨rfl, ⟨nd, rfl⟩⟩; (try first | exact ⟨rfl, _, World.drewN_drewN _ _ _⟩ | exact ⟨rfl, _, Eq.trans (World.drewN_drewN _ _ _) (congrArg (World.drewN _) (Nat.add_assoc _ _ _))⟩)))
   repeat (go_quiet (first | ((with_reducible refine gate_dst (N := 4) rfl ?_); refine be_ 4 #[.int .i64 a1_0, .int .i64 a1_1] 35 ?_; intro gb420 hg w14 hbox hb; have BK420 := A_ hbox; have GW420 := A_ (bz_ (w := w) hg); have GE420 := A_ (bz_ (w := w) hg); replace HB := A_ (below_step bw_ hb); clear hb hbox hg; have hcz15_0 := hz_ BK420.out 0 (.int .i64 a1_0); have hcz15_1 := hz_ BK420.out 1 (.int .i64 a1_1); have hfz15_0 := blk_frozen BK420.out 0; have hfz15_1 := blk_frozen BK420.out 1) | (go_at_call 54; (with_reducible refine (spec_trRunner.calls a0 a1_0 a1_1 true _ A4.out).mono ?_); rintro e w16 ⟨rfl, hb⟩; replace HB := A_ (below_step bw_ hb); replace BK420 := A_ (bb_ BK420.out hb); (try clear hb)) | (go_at_call 67; (with_reducible refine (spec_l1In.calls a2 1 100 false _ A6.out).mono ?_); rintro e w' ⟨rfl, ⟨nd, rfl⟩⟩; (try first | exact ⟨rfl, _, World.drewN_drewN _ _ _⟩ | exact ⟨rfl, _, Eq.trans (World.drewN_drewN _ _ _) (congrArg (World.drewN _) (Nat.add_assoc _ _ _))⟩))); try go_wp2_with (first | ((with_reducible refine gate_dst (N := 4) rfl ?_); refine be_ 4 #[.int .i64 a1_0, .int .i64 a1_1] 35 ?_; intro gb420 hg w14 hbox hb; have BK420 := A_ hbox; have GW420 := A_ (bz_ (w := w) hg); have GE420 := A_ (bz_ (w := w) hg); replace HB := A_ (below_step bw_ hb); clear hb hbox hg; have hcz15_0 := hz_ BK420.out 0 (.int .i64 a1_0); have hcz15_1 := hz_ BK420.out 1 (.int .i64 a1_1); have hfz15_0 := blk_frozen BK420.out 0; have hfz15_1 := blk_frozen BK420.out 1) | (go_at_call 54; (with_reducible refine (spec_trRunner.calls a0 a1_0 a1_1 true _ A4.out).mono ?_); rintro e w16 ⟨rfl, hb⟩; replace HB := A_ (below_step bw_ hb); replace BK420 := A_ (bb_ BK420.out hb); (try clear hb)) | (go_at_call 67; (with_reducible refine (spec_l1In.calls a2 1 100 false _ A6.out).mono ?_); rintro e w' ⟨rfl, ⟨nd, rfl⟩⟩; (try first | exact ⟨rfl, _, World.drewN_drewN _ _ _⟩ | exact ⟨rfl, _, Eq.trans (World.drewN_drewN _ _ _) (congrArg (World.drewN _) (Nat.add_assoc _ _ _))⟩))))
   go_ret3
   exact ⟨rt_, bw_⟩
 ·
  replace c5 := Bool.eq_false_iff.mpr c5
  subst c5
  rw [if_neg (show ¬ (false = true) by decide)] at H
  simp only [Option.some.injEq, Prod.mk.injEq] at H
  obtain ⟨rfl, rfl, rfl⟩ := H
  go_enter Tryz.func23, Tryz.ntmps23
  go_wp2_with (first | ((with_reducible refine gate_dst (N := 4) rfl ?_); refine be_ 4 #[.int .i64 a1_0, .int .i64 a1_1] 35 ?_; intro gb420 hg w17 hbox hb; have BK420 := A_ hbox; have GW420 := A_ (bz_ (w := w) hg); have GE420 := A_ (bz_ (w := w) hg); replace HB := A_ (below_step bw_ hb); clear hb hbox hg; have hcz18_0 := hz_ BK420.out 0 (.int .i64 a1_0); have hcz18_1 := hz_ BK420.out 1 (.int .i64 a1_1); have hfz18_0 := blk_frozen BK420.out 0; have hfz18_1 := blk_frozen BK420.out 1) | (go_at_call 54; (with_reducible refine (spec_trRunner.calls a0 a1_0 a1_1 false _ A4.out).mono ?_); rintro e w19 ⟨rfl, hb⟩; replace HB := A_ (below_step bw_ hb); replace BK420 := A_ (bb_ BK420.out hb); (try clear hb)))
  repeat (go_quiet (first | ((with_reducible refine gate_dst (N := 4) rfl ?_); refine be_ 4 #[.int .i64 a1_0, .int .i64 a1_1] 35 ?_; intro gb420 hg w17 hbox hb; have BK420 := A_ hbox; have GW420 := A_ (bz_ (w := w) hg); have GE420 := A_ (bz_ (w := w) hg); replace HB := A_ (below_step bw_ hb); clear hb hbox hg; have hcz18_0 := hz_ BK420.out 0 (.int .i64 a1_0); have hcz18_1 := hz_ BK420.out 1 (.int .i64 a1_1); have hfz18_0 := blk_frozen BK420.out 0; have hfz18_1 := blk_frozen BK420.out 1) | (go_at_call 54; (with_reducible refine (spec_trRunner.calls a0 a1_0 a1_1 false _ A4.out).mono ?_); rintro e w19 ⟨rfl, hb⟩; replace HB := A_ (below_step bw_ hb); replace BK420 := A_ (bb_ BK420.out hb); (try clear hb))); try go_wp2_with (first | ((with_reducible refine gate_dst (N := 4) rfl ?_); refine be_ 4 #[.int .i64 a1_0, .int .i64 a1_1] 35 ?_; intro gb420 hg w17 hbox hb; have BK420 := A_ hbox; have GW420 := A_ (bz_ (w := w) hg); have GE420 := A_ (bz_ (w := w) hg); replace HB := A_ (below_step bw_ hb); clear hb hbox hg; have hcz18_0 := hz_ BK420.out 0 (.int .i64 a1_0); have hcz18_1 := hz_ BK420.out 1 (.int .i64 a1_1); have hfz18_0 := blk_frozen BK420.out 0; have hfz18_1 := blk_frozen BK420.out 1) | (go_at_call 54; (with_reducible refine (spec_trRunner.calls a0 a1_0 a1_1 false _ A4.out).mono ?_); rintro e w19 ⟨rfl, hb⟩; replace HB := A_ (below_step bw_ hb); replace BK420 := A_ (bb_ BK420.out hb); (try clear hb))))
  go_ret3
  exact ⟨rt_, bw_⟩

/-! ### spec_DrawWinnerOfLaps: function 24 -/
def spec_DrawWinnerOfLaps.f (k : Nat) (l0 : List Int) : Option (Int × (List (S35)) × Int) := (spec_l1Cur_runners.f k l0 0 0).bind fun bt425 => ((spec_l1Cur_among.f l0 bt425.2.2.1 bt425.2.2.2 (([1, 1, 2, 3, 5, 100, 101, 0, (-1)] : List Int))).bind fun bt434 => (some (bt425.1, bt425.2.1, bt434.1)))

set_option maxHeartbeats 8000000 in
set_option maxRecDepth 100000 in
theorem spec_DrawWinnerOfLaps.calls (k : Nat) (A0 : Option Addr) (c0 : Nat) (l0 : List Int) (r1 : Int) (r2 : List (S35)) (r3 : Int) (w : World) (hr0 : Kd.C (Kd.int .u8) w A0 l0.length l0) (hc0 : l0.length ≤ c0) (h : spec_DrawWinnerOfLaps.f k l0 = some (r1, r2, r3)) :
  Calls Tryz.prog 24 #[.slice A0 l0.length c0] w fun e w' => ∃ v1_ : Value, e = .returned (.tuple #[.int .i64 r1, v1_, .int .i64 r3]) ∧ Kd.R k35 35 w' w.heap.size (fun _ => True) v1_ r2 ∧ Below w.heap.size w w' := by
 have hu60 := Tryz.underlying60
 have HR0 := A_ hr0
 have HC0 := A_ hc0
 clear hr0 hc0
 have HB := A_ (Below.refl w.heap.size w)
 have H := h
 unfold spec_DrawWinnerOfLaps.f at H
 clear h
 replace H := ob_ H
 obtain ⟨⟨t425, t426, t429, t430⟩, A2, H⟩ := H
 (try dsimp only at H)
 obtain ⟨y431, hy431⟩ : ∃ y_ : List Int, y_ = (([1, 1, 2, 3, 5, 100, 101, 0, (-1)] : List Int)) := ⟨_, rfl⟩
 replace H : ((spec_l1Cur_among.f l0 t429 t430 y431).bind fun bt434 => (some (t425, t426, bt434.1))) = some (r1, r2, r3) := by first | (rw [hy431]; with_reducible exact H) | (have H2_ := (Option.bind_some _ _).symm.trans H; rw [hy431]; with_reducible exact H2_) | (have H2_ := (Option.bind_some _ _).symm.trans H; with_reducible exact H2_) | with_reducible exact H | (rw [hy431]; exact H) | exact H
 have Ny431 := A_ hy431
 clear hy431
 replace H := ob_ H
 obtain ⟨⟨t434, t435, t436⟩, A3, H⟩ := H
 (try dsimp only at H)
 simp only [Option.some.injEq, Prod.mk.injEq] at H
 obtain ⟨rfl, rfl, rfl⟩ := H
 go_enter Tryz.func24, Tryz.ntmps24
 go_wp2_with (first | ((with_reducible refine gate_dst (N := 10) rfl ?_); refine be_ 10 #[.slice A0 l0.length c0, .int .i64 0, .int .u64 0] 60 ?_; intro gb424 hg w4 hbox hb; have HI424 := A_ ((⟨_, _, hbox, (by rw [hg]; exact (below_size bw_) : w.heap.size ≤ gb424), HR0.out⟩ : IsS60 w _ gb424 l0 0 0)); have GW424 := A_ (bz_ (w := w) hg); have GE424 := A_ (bz_ (w := w) hg); replace HB := A_ (below_step bw_ hb); clear hb hbox hg) | ((with_reducible refine gate_callee (f := 40) rfl ?_); refine gl_ (some 13) Tryz.func40 #[.pointer (some ⟨gb424, 0, none⟩)] ?_; (with_reducible refine (spec_l1Cur_runners.calls k gb424 l0 0 0 t425 t426 t429 t430 w _ ?side1 ?side2 A2.out).mono ?_); (case side1 => repeat (first | (with_reducible first | exact HI424.out | apply IsS60.alloc | apply IsS60.drewN | apply IsS60.drew | apply IsS60.set_1 | apply IsS60.set_2) | exact HI424.out)); (case side2 => repeat (first | (with_reducible first | exact HB.out | apply below_alloc | apply pw_below_drewN | apply below_drew1 | refine below_set ?_ (IsS60.ge HI424.out)) | exact HB.out)); rintro e w5 ⟨v427, rfl, ho0, hi, hb, hk⟩; refine ⟨_, rfl, ?_⟩; have HO428 := A_ (Kd.R_lower ho0 (below_size (by repeat (first | (with_reducible first | exact HB.out | apply below_alloc | apply pw_below_drewN | apply below_drew1 | refine below_set ?_ (IsS60.ge HI424.out)) | exact HB.out)))); replace HB := A_ (hb); replace HI424 := A_ (hi); (try clear hb hk hi); (try clear ho0)) | ((with_reducible refine gate_dst (N := 19) rfl ?_); refine Kd.R_lit (Kd.int .i64) _ 3 ?hg (N := 19) ?hd (xs := ([1, 1, 2, 3, 5, 100, 101, 0, (-1)] : List Int)) (inner := [.int .i64 1, .int .i64 1, .int .i64 2, .int .i64 3, .int .i64 5, .int .i64 100, .int .i64 101, .int .i64 0, .int .i64 (-1)]) (ok := fun _ => True) (okp := fun _ => True) ?hr ?hp (fun _ hk => hk) trivial (Below.refl _ _) (Nat.le_refl _) (by simp) ?_; (case hd => rfl); (case hg => rfl); (case hr => first | (go_simp; done) | (go_simp; rfl)); (case hp => exact (Reps.one (show Kd.M (Kd.int .i64) _ _ _ 1 [.int .i64 1] from rfl) (Reps.one (show Kd.M (Kd.int .i64) _ _ _ 1 [.int .i64 1] from rfl) (Reps.one (show Kd.M (Kd.int .i64) _ _ _ 2 [.int .i64 2] from rfl) (Reps.one (show Kd.M (Kd.int .i64) _ _ _ 3 [.int .i64 3] from rfl) (Reps.one (show Kd.M (Kd.int .i64) _ _ _ 5 [.int .i64 5] from rfl) (Reps.one (show Kd.M (Kd.int .i64) _ _ _ 100 [.int .i64 100] from rfl) (Reps.one (show Kd.M (Kd.int .i64) _ _ _ 101 [.int .i64 101] from rfl) (Reps.one (show Kd.M (Kd.int .i64) _ _ _ 0 [.int .i64 0] from rfl) (Reps.one (show Kd.M (Kd.int .i64) _ _ _ (-1) [.int .i64 (-1)] from rfl) (Reps.none _ _))))))))))); intro v432 w6 ho7 hb hg_ hnew_; clear hg_ hnew_; (first | rw [← Ny431.out] at ho7 | (simp only [Int.reduceToNat] at ho7; rw [← Ny431.out] at ho7)); have n0_ := A_ (Kd.R_below (by (with_reducible repeat (first | apply Kd.R_alloc | apply Kd.R_drewN | apply Kd.R_drew)); exact HO428.out) hb); have n1_ := A_ (Kd.R_lower ho7 (below_size (by repeat (first | (with_reducible first | exact HB.out | apply below_alloc | apply pw_below_drewN | apply below_drew1 | refine below_set ?_ (IsS60.ge HI424.out)) | exact HB.out)))); have n2_ := A_ (IsS60.below (by repeat (first | (with_reducible first | exact HI424.out | apply IsS60.alloc | apply IsS60.drewN | apply IsS60.drew | apply IsS60.set_1 | apply IsS60.set_2) | exact HI424.out)) hb); have n3_ := A_ (below_step (by repeat (first | (with_reducible first | exact HB.out | apply below_alloc | apply pw_below_drewN | apply below_drew1 | refine below_set ?_ (IsS60.ge HI424.out)) | exact HB.out)) hb); clear HO428; clear HI424; clear HB; have HO428 := n0_; have HO433 := n1_; have HI424 := n2_; have HB := n3_; clear n0_ n1_ n2_ n3_; clear hb ho7; obtain ⟨Ao8, co8, eo8⟩ := Kd.R_slice HO433.out; subst eo8) | ((with_reducible refine gate_callee (f := 64) rfl ?_); refine gl_ (some 20) Tryz.func64 #[.pointer (some ⟨gb424, 0, none⟩), .slice Ao8 y431.length co8] ?_; (with_reducible refine (spec_l1Cur_among.calls gb424 l0 t429 t430 _ _ y431 t434 t435 t436 w _ ?side1 ?side2 ?side3 ?side4 ?side5 A3.out).mono ?_); (case side1 => repeat (first | (with_reducible first | exact HI424.out | apply IsS60.alloc | apply IsS60.drewN | apply IsS60.drew | apply IsS60.set_1 | apply IsS60.set_2) | exact HI424.out)); (case side2 => repeat (first | (with_reducible first | exact HB.out | apply below_alloc | apply pw_below_drewN | apply below_drew1 | refine below_set ?_ (IsS60.ge HI424.out)) | exact HB.out)); (case side3 => repeat (first | exact (Kd.R_reads' HO433.out).2.2 | (with_reducible refine Kd.C_alloc ?_ _) | (with_reducible refine Kd.C_drewN ?_ _) | (with_reducible refine Kd.C_drew ?_))); (case side4 => exact (Kd.R_reads' HO433.out).2.1); (case side5 => exact far_slice (IsS60.own_ne HI424.out HO433.out (by decide))); rintro e w9 ⟨rfl, hi, hb, hk⟩; refine ⟨_, rfl, ?_⟩; have n0_ := A_ (Kd.R_mono (Kd.R_keep (IsS60.apart (show IsS60 w _ gb424 l0 t429 t430 from by repeat (first | (with_reducible first | exact HI424.out | apply IsS60.alloc | apply IsS60.drewN | apply IsS60.drew | apply IsS60.set_1 | apply IsS60.set_2) | exact HI424.out)) (by (with_reducible repeat (first | apply Kd.R_alloc | apply Kd.R_drewN | apply Kd.R_drew)); exact HO428.out) (by decide)) hk (fun _ h => h.2)) (fun _ h => h.1)); have n1_ := A_ (Kd.R_mono (Kd.R_keep (IsS60.apart (show IsS60 w _ gb424 l0 t429 t430 from by repeat (first | (with_reducible first | exact HI424.out | apply IsS60.alloc | apply IsS60.drewN | apply IsS60.drew | apply IsS60.set_1 | apply IsS60.set_2) | exact HI424.out)) (by (with_reducible repeat (first | apply Kd.R_alloc | apply Kd.R_drewN | apply Kd.R_drew)); exact HO433.out) (by decide)) hk (fun _ h => h.2)) (fun _ h => h.1)); have n2_ := A_ (hb); have n3_ := A_ (hi); clear HO428; clear HO433; clear HB; clear HI424; have HO428 := n0_; have HO433 := n1_; have HB := n2_; have HI424 := n3_; clear n0_ n1_ n2_ n3_; (try clear hb hk hi)))
 go_ret3
 exact ⟨_, rt_, by (with_reducible repeat (first | apply Kd.R_alloc | apply Kd.R_drewN | apply Kd.R_drew)); exact HO428.out, by repeat (first | (with_reducible first | exact HB.out | apply below_alloc | apply pw_below_drewN | apply below_drew1 | refine below_set ?_ (IsS60.ge HI424.out)) | exact HB.out)⟩

end Go.Proofs.YtfkieckkmcibbaaGreatDoor.PFnRunnersRun
