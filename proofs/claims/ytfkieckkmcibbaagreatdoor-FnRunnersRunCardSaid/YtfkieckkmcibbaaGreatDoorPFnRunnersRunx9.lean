-- Laid by a program of this session's (wip/gen/printp.sh): the functions that the law reaches, each with its walk.
import Derived.Test.YtfkieckkmcibbaaGreatDoorPFnRunnersRunx0
import Derived.Test.YtfkieckkmcibbaaGreatDoorPFnRunnersRunx2
import Derived.Test.YtfkieckkmcibbaaGreatDoorPFnRunnersRunx3
import Derived.Test.YtfkieckkmcibbaaGreatDoorPFnRunnersRunx6
import Derived.Test.YtfkieckkmcibbaaGreatDoorPFnRunnersRunx8
namespace Go.Proofs.YtfkieckkmcibbaaGreatDoor.PFnRunnersRun
open Go.RowKit Go.Proofs.YtfkieckkmcibbaaGreatDoorW.PrintWords Go.Proofs.YtfkieckkmcibbaaGreatDoorW.PrintLast Go.Proofs.YtfkieckkmcibbaaGreatDoorW.PrintMore
attribute [local go_sem] max2_int min2_int max_two min_two max_three min_three max_four min_four   -- for this text's walks alone
set_option linter.unusedVariables false
set_option linter.unusedSimpArgs false

/-! ### spec_LonelyTime: function 18 -/
def spec_LonelyTime.l0 : Nat → Int → List (S35) → Int → Int → Int → Option (Int × Bool)
  | 0, _, _, _, _, _ => none
  | k + 1, x0, x1, x2, x8, x9 => (spec_trPeriod.f k x0 x1).bind fun t354 => (if x9 < t354 then ((spec_trNearest.f k x0 x1 x2 x9).bind fun t355 => ((spec_trNearest.f k x0 x1 x2 x8).bind fun t356 => (if t355 > t356 then (spec_LonelyTime.l0 k x0 x1 x2 x9 (wrap64 (x9 + 1))) else (spec_LonelyTime.l0 k x0 x1 x2 x8 (wrap64 (x9 + 1)))))) else (some (x8, true)))
def spec_LonelyTime.f (k : Nat) (a0 : Int) (l1 : List (S35)) (a2 : Int) : Option (Int × Bool) := (spec_trAsked.f k a0 l1 a2).bind fun t353 => (if t353 = true then (spec_LonelyTime.l0 k a0 l1 a2 0 1) else (some (0, false)))


set_option maxHeartbeats 8000000 in
set_option maxRecDepth 100000 in
theorem spec_LonelyTime.calls (k : Nat) (a0 : Int) (A1 : Option Addr) (c1 : Nat) (l1 : List (S35)) (a2 : Int) (r1 : Int) (r2 : Bool) (w : World) (hr1 : Kd.C k35 w A1 l1.length l1) (hc1 : l1.length ≤ c1) (h : spec_LonelyTime.f k a0 l1 a2 = some (r1, r2)) :
  Calls Tryz.prog 18 #[.int .i64 a0, .slice A1 l1.length c1, .int .i64 a2] w fun e w' => e = .returned (.tuple #[.int .i64 r1, .bool r2]) ∧ Below w.heap.size w w' := by
 have HR1 := A_ hr1
 have HC1 := A_ hc1
 clear hr1 hc1
 have HB := A_ (Below.refl w.heap.size w)
 have H := h
 unfold spec_LonelyTime.f at H
 clear h
 replace H := ob_ H
 obtain ⟨t353, A4, H⟩ := H
 (try dsimp only at H)
 by_cases c5 : t353 = true
 ·
  subst c5
  rw [if_pos rfl] at H
  have H' := A_ H
  clear H
  go_enter Tryz.func18, Tryz.ntmps18
  go_wp2_with (first | ((with_reducible refine gate_callee (f := 60) rfl ?_); refine gl_ (some 13) Tryz.func60 #[.int .i64 a0, .slice A1 l1.length c1, .int .i64 a2] ?_; (with_reducible refine (spec_trAsked.calls k a0 _ _ l1 a2 true _ ?side1 ?side2 A4.out).mono ?_); (case side1 => repeat (first | exact HR1.out | (with_reducible refine Kd.C_alloc ?_ _) | (with_reducible refine Kd.C_drewN ?_ _) | (with_reducible refine Kd.C_drew ?_))); (case side2 => exact HC1.out); rintro e w6 ⟨rfl, hb⟩; refine ⟨_, rfl, ?_⟩; replace HB := A_ (below_step bw_ hb); (try clear hb)))
  go_loopg [8, 9] k (fun kq v8 v9 w' => ∃ (x8_1 : Int) (x9_1 : Int), v8 = .int .i64 x8_1 ∧ v9 = .int .i64 x9_1 ∧ Aside0 (spec_LonelyTime.l0 kq a0 l1 a2 x8_1 x9_1 = some (r1, r2)) ∧ Aside0 (kq ≤ k) ∧ Aside0 (Below w.heap.size w w'))
  case atStart => exact ⟨(0), (1), (rs_), (rs_), H', ⟨Nat.le_refl _⟩, ⟨bw_⟩⟩
  case round =>
   clear H'
   try clear c1
   try clear p2
   try clear c5
   try clear c6
   obtain ⟨x8_1, x9_1, rfl, rfl, HA, HK1, HB⟩ := hrel
   cases gk with
      | zero => exact absurd HA.out (by simp [spec_LonelyTime.l0])
      | succ k1 =>
    have H := HA.out
    clear HA
    simp only [spec_LonelyTime.l0] at H
    replace H := ob_ H
    obtain ⟨t354, A7, H⟩ := H
    (try dsimp only at H)
    by_cases c8 : x9_1 < t354
    ·
     rw [if_pos c8] at H
     replace c8 := decide_eq_true c8
     replace H := ob_ H
     obtain ⟨t355, A9, H⟩ := H
     (try dsimp only at H)
     replace H := ob_ H
     obtain ⟨t356, A10, H⟩ := H
     (try dsimp only at H)
     by_cases c11 : t355 > t356
     ·
      rw [if_pos c11] at H
      replace c11 := decide_eq_true (gt_iff_lt.mp c11)
      have H' := A_ H
      clear H
      go_wp2_with (first | ((with_reducible refine gate_callee (f := 61) rfl ?_); refine gl_ (some 18) Tryz.func61 #[.int .i64 a0, .slice A1 l1.length c1] ?_; (with_reducible refine (spec_trPeriod.calls k1 a0 _ _ l1 t354 _ ?side1 ?side2 A7.out).mono ?_); (case side1 => repeat (first | exact (Kd.C_below HR1.out HB.out) | (with_reducible refine Kd.C_alloc ?_ _) | (with_reducible refine Kd.C_drewN ?_ _) | (with_reducible refine Kd.C_drew ?_))); (case side2 => exact HC1.out); rintro e w12 ⟨rfl, hb⟩; refine ⟨_, rfl, ?_⟩; replace HB := A_ (below_step bw_ hb); (try clear hb)) | ((with_reducible refine gate_callee (f := 62) rfl ?_); refine gl_ (some 26) Tryz.func62 #[.int .i64 a0, .slice A1 l1.length c1, .int .i64 a2, .int .i64 x9_1] ?_; (with_reducible refine (spec_trNearest.calls k1 a0 _ _ l1 a2 x9_1 t355 _ ?side1 ?side2 A9.out).mono ?_); (case side1 => repeat (first | exact (Kd.C_below HR1.out HB.out) | (with_reducible refine Kd.C_alloc ?_ _) | (with_reducible refine Kd.C_drewN ?_ _) | (with_reducible refine Kd.C_drew ?_))); (case side2 => exact HC1.out); rintro e w13 ⟨rfl, hb⟩; refine ⟨_, rfl, ?_⟩; replace HB := A_ (below_step bw_ hb); (try clear hb)) | ((with_reducible refine gate_callee (f := 62) rfl ?_); refine gl_ (some 31) Tryz.func62 #[.int .i64 a0, .slice A1 l1.length c1, .int .i64 a2, .int .i64 x8_1] ?_; (with_reducible refine (spec_trNearest.calls k1 a0 _ _ l1 a2 x8_1 t356 _ ?side1 ?side2 A10.out).mono ?_); (case side1 => repeat (first | exact (Kd.C_below HR1.out HB.out) | (with_reducible refine Kd.C_alloc ?_ _) | (with_reducible refine Kd.C_drewN ?_ _) | (with_reducible refine Kd.C_drew ?_))); (case side2 => exact HC1.out); rintro e w14 ⟨rfl, hb⟩; refine ⟨_, rfl, ?_⟩; replace HB := A_ (below_step bw_ hb); (try clear hb)))
      go_roundg k1
      case measure => have := HK1.out; omega
      case rel => exact ⟨(x9_1), (wrap64 (x9_1 + 1)), (rs_), (rs_), H', ⟨by have := HK1.out; omega⟩, ⟨bw_⟩⟩
     ·
      rw [if_neg c11] at H
      replace c11 := decide_eq_false (mt gt_iff_lt.mpr c11)
      have H' := A_ H
      clear H
      go_wp2_with (first | ((with_reducible refine gate_callee (f := 61) rfl ?_); refine gl_ (some 18) Tryz.func61 #[.int .i64 a0, .slice A1 l1.length c1] ?_; (with_reducible refine (spec_trPeriod.calls k1 a0 _ _ l1 t354 _ ?side1 ?side2 A7.out).mono ?_); (case side1 => repeat (first | exact (Kd.C_below HR1.out HB.out) | (with_reducible refine Kd.C_alloc ?_ _) | (with_reducible refine Kd.C_drewN ?_ _) | (with_reducible refine Kd.C_drew ?_))); (case side2 => exact HC1.out); rintro e w15 ⟨rfl, hb⟩; refine ⟨_, rfl, ?_⟩; replace HB := A_ (below_step bw_ hb); (try clear hb)) | ((with_reducible refine gate_callee (f := 62) rfl ?_); refine gl_ (some 26) Tryz.func62 #[.int .i64 a0, .slice A1 l1.length c1, .int .i64 a2, .int .i64 x9_1] ?_; (with_reducible refine (spec_trNearest.calls k1 a0 _ _ l1 a2 x9_1 t355 _ ?side1 ?side2 A9.out).mono ?_); (case side1 => repeat (first | exact (Kd.C_below HR1.out HB.out) | (with_reducible refine Kd.C_alloc ?_ _) | (with_reducible refine Kd.C_drewN ?_ _) | (with_reducible refine Kd.C_drew ?_))); (case side2 => exact HC1.out); rintro e w16 ⟨rfl, hb⟩; refine ⟨_, rfl, ?_⟩; replace HB := A_ (below_step bw_ hb); (try clear hb)) | ((with_reducible refine gate_callee (f := 62) rfl ?_); refine gl_ (some 31) Tryz.func62 #[.int .i64 a0, .slice A1 l1.length c1, .int .i64 a2, .int .i64 x8_1] ?_; (with_reducible refine (spec_trNearest.calls k1 a0 _ _ l1 a2 x8_1 t356 _ ?side1 ?side2 A10.out).mono ?_); (case side1 => repeat (first | exact (Kd.C_below HR1.out HB.out) | (with_reducible refine Kd.C_alloc ?_ _) | (with_reducible refine Kd.C_drewN ?_ _) | (with_reducible refine Kd.C_drew ?_))); (case side2 => exact HC1.out); rintro e w17 ⟨rfl, hb⟩; refine ⟨_, rfl, ?_⟩; replace HB := A_ (below_step bw_ hb); (try clear hb)))
      go_roundg k1
      case measure => have := HK1.out; omega
      case rel => exact ⟨(x8_1), (wrap64 (x9_1 + 1)), (rs_), (rs_), H', ⟨by have := HK1.out; omega⟩, ⟨bw_⟩⟩
    ·
     rw [if_neg c8] at H
     replace c8 := decide_eq_false c8
     simp only [Option.some.injEq, Prod.mk.injEq] at H
     obtain ⟨rfl, rfl⟩ := H
     go_wp2_with (first | ((with_reducible refine gate_callee (f := 61) rfl ?_); refine gl_ (some 18) Tryz.func61 #[.int .i64 a0, .slice A1 l1.length c1] ?_; (with_reducible refine (spec_trPeriod.calls k1 a0 _ _ l1 t354 _ ?side1 ?side2 A7.out).mono ?_); (case side1 => repeat (first | exact (Kd.C_below HR1.out HB.out) | (with_reducible refine Kd.C_alloc ?_ _) | (with_reducible refine Kd.C_drewN ?_ _) | (with_reducible refine Kd.C_drew ?_))); (case side2 => exact HC1.out); rintro e w18 ⟨rfl, hb⟩; refine ⟨_, rfl, ?_⟩; replace HB := A_ (below_step bw_ hb); (try clear hb)))
     go_ret2
     exact ⟨rt_, bw_⟩
 ·
  replace c5 := Bool.eq_false_iff.mpr c5
  subst c5
  rw [if_neg (show ¬ (false = true) by decide)] at H
  simp only [Option.some.injEq, Prod.mk.injEq] at H
  obtain ⟨rfl, rfl⟩ := H
  go_enter Tryz.func18, Tryz.ntmps18
  go_wp2_with (first | ((with_reducible refine gate_callee (f := 60) rfl ?_); refine gl_ (some 13) Tryz.func60 #[.int .i64 a0, .slice A1 l1.length c1, .int .i64 a2] ?_; (with_reducible refine (spec_trAsked.calls k a0 _ _ l1 a2 false _ ?side1 ?side2 A4.out).mono ?_); (case side1 => repeat (first | exact HR1.out | (with_reducible refine Kd.C_alloc ?_ _) | (with_reducible refine Kd.C_drewN ?_ _) | (with_reducible refine Kd.C_drew ?_))); (case side2 => exact HC1.out); rintro e w19 ⟨rfl, hb⟩; refine ⟨_, rfl, ?_⟩; replace HB := A_ (below_step bw_ hb); (try clear hb)))
  go_ret2
  exact ⟨rt_, bw_⟩

/-! ### spec_l1Cur_twoRunners: function 63 -/
def spec_l1Cur_twoRunners.f (s0_0 : List Int) (s0_1 : Int) (s0_2 : Int) : Option (Int × Int × Int × Int × Int × Int × Int) := (spec_l1Cur_lap.f s0_0 s0_1 s0_2).bind fun bt359 => ((spec_l1Cur_runner.f s0_0 bt359.2.1 bt359.2.2 bt359.1).bind fun bt362 => ((spec_l1Cur_runner.f s0_0 bt362.2.2.1 bt362.2.2.2 bt359.1).bind fun bt366 => (some (bt359.1, bt362.1, bt362.2.1, bt366.1, bt366.2.1, bt366.2.2.1, bt366.2.2.2))))
set_option maxHeartbeats 8000000 in
set_option maxRecDepth 100000 in
theorem spec_l1Cur_twoRunners.calls (g : Nat) (s0_0 : List Int) (s0_1 : Int) (s0_2 : Int) (r1 : Int) (r2 : Int) (r3 : Int) (r4 : Int) (r5 : Int) (r6 : Int) (r7 : Int) (w0 w : World) (hI : IsS60 w0 w g s0_0 s0_1 s0_2) (hB : Below w0.heap.size w0 w) (h : spec_l1Cur_twoRunners.f s0_0 s0_1 s0_2 = some (r1, r2, r3, r4, r5, r6, r7)) :
  Calls Tryz.prog 63 #[.pointer (some ⟨g, 0, none⟩)] w fun e w' => e = .returned (.tuple #[.int .i64 r1, .agg #[.int .i64 r2, .int .i64 r3], .agg #[.int .i64 r4, .int .i64 r5]]) ∧ IsS60 w0 w' g s0_0 r6 r7 ∧ Below w0.heap.size w0 w' ∧ KeepBut w w' g none := by
 have hu35 := Tryz.underlying35
 have HI0 := A_ hI
 have HK := A_ (KeepBut.refl w g none)
 have HL := A_ hB.size
 clear hI
 have HW0 := A_ hB.size
 have HB := A_ hB
 clear hB
 have H := h
 unfold spec_l1Cur_twoRunners.f at H
 clear h
 replace H := ob_ H
 obtain ⟨⟨t359, t360, t361⟩, A2, H⟩ := H
 (try dsimp only at H)
 replace H := ob_ H
 obtain ⟨⟨t362, t363, t364, t365⟩, A3, H⟩ := H
 (try dsimp only at H)
 replace H := ob_ H
 obtain ⟨⟨t366, t367, t368, t369⟩, A4, H⟩ := H
 (try dsimp only at H)
 simp only [Option.some.injEq, Prod.mk.injEq] at H
 obtain ⟨rfl, rfl, rfl, rfl, rfl, rfl, rfl⟩ := H
 go_enter Tryz.func63, Tryz.ntmps63
 go_wp2_with (first | ((with_reducible refine gate_dst (N := 3) rfl ?_); refine be_ 3 #[.int .i64 0, .int .i64 0] 35 ?_; intro gb357 hg w5 hbox hb; have BK357 := A_ hbox; have GW357 := A_ ((by rw [hg]; exact (keep_size (w := w) (g := g) (row := none) ke_) : w.heap.size ≤ gb357)); have GE357 := A_ ((Nat.le_trans HW0.out (by rw [hg]; exact (keep_size (w := w) (g := g) (row := none) ke_) : w.heap.size ≤ gb357) : w0.heap.size ≤ gb357)); have NB0_357 := A_ ((by rw [hg]; exact Nat.ne_of_lt (IsS60.lt (show IsS60 w0 _ g s0_0 s0_1 s0_2 from is_)) : g ≠ gb357)); have NB357_0 := A_ ((by rw [hg]; exact Nat.ne_of_gt (IsS60.lt (show IsS60 w0 _ g s0_0 s0_1 s0_2 from is_)) : gb357 ≠ g)); replace HB := A_ (below_step bx_ hb); replace HK := A_ (KeepBut.trans (ke_ (w := w)) (KeepBut.of_below hb g none) (.inl rfl)); replace HI0 := A_ (IsS60.below is_ hb); clear hb hbox hg) | ((with_reducible refine gate_dst (N := 4) rfl ?_); refine be_ 4 #[.int .i64 0, .int .i64 0] 35 ?_; intro gb358 hg w6 hbox hb; have BK358 := A_ hbox; have GW358 := A_ ((by rw [hg]; exact (keep_size (w := w) (g := g) (row := none) ke_) : w.heap.size ≤ gb358)); have GE358 := A_ ((Nat.le_trans HW0.out (by rw [hg]; exact (keep_size (w := w) (g := g) (row := none) ke_) : w.heap.size ≤ gb358) : w0.heap.size ≤ gb358)); have NB357_358 := A_ (nl_ BK357.out hg); have NB358_357 := A_ (ng_ BK357.out hg); have NB0_358 := A_ ((by rw [hg]; exact Nat.ne_of_lt (IsS60.lt (show IsS60 w0 _ g s0_0 s0_1 s0_2 from is_)) : g ≠ gb358)); have NB358_0 := A_ ((by rw [hg]; exact Nat.ne_of_gt (IsS60.lt (show IsS60 w0 _ g s0_0 s0_1 s0_2 from is_)) : gb358 ≠ g)); replace HB := A_ (below_step bx_ hb); replace HK := A_ (KeepBut.trans (ke_ (w := w)) (KeepBut.of_below hb g none) (.inl rfl)); replace BK357 := A_ (bb_ BK357.out hb); replace HI0 := A_ (IsS60.below is_ hb); clear hb hbox hg) | ((with_reducible refine gate_callee (f := 81) rfl ?_); refine gl_ (some 7) Tryz.func81 #[.pointer (some ⟨g, 0, none⟩)] ?_; (with_reducible refine (spec_l1Cur_lap.calls g s0_0 s0_1 s0_2 t359 t360 t361 w0 _ ?side1 ?side2 A2.out).mono ?_); (case side1 => exact is_); (case side2 => exact bx_); rintro e w7 ⟨rfl, hi, hb, hk⟩; refine ⟨_, rfl, ?_⟩; replace HK := A_ (KeepBut.trans (ke_ (w := w)) hk (.inl rfl)); replace BK357 := A_ (kb_ BK357.out hk NB357_0.out); replace BK358 := A_ (kb_ BK358.out hk NB358_0.out); replace HB := A_ (hb); replace HI0 := A_ (hi); (try clear hb hk hi)) | ((with_reducible refine gate_callee (f := 82) rfl ?_); refine gl_ (some 11) Tryz.func82 #[.pointer (some ⟨g, 0, none⟩), .int .i64 t359] ?_; (with_reducible refine (spec_l1Cur_runner.calls g s0_0 t360 t361 t359 t362 t363 t364 t365 w0 _ ?side1 ?side2 A3.out).mono ?_); (case side1 => exact is_); (case side2 => exact bx_); rintro e w8 ⟨rfl, hi, hb, hk⟩; refine ⟨_, rfl, ?_⟩; replace HK := A_ (KeepBut.trans (ke_ (w := w)) hk (.inl rfl)); replace BK357 := A_ (kb_ BK357.out hk NB357_0.out); replace BK358 := A_ (kb_ BK358.out hk NB358_0.out); replace HB := A_ (hb); replace HI0 := A_ (hi); (try clear hb hk hi)) | ((with_reducible refine gate_callee (f := 82) rfl ?_); refine gl_ (some 14) Tryz.func82 #[.pointer (some ⟨g, 0, none⟩), .int .i64 t359] ?_; (with_reducible refine (spec_l1Cur_runner.calls g s0_0 t364 t365 t359 t366 t367 t368 t369 w0 _ ?side1 ?side2 A4.out).mono ?_); (case side1 => exact is_); (case side2 => exact bx_); rintro e w9 ⟨rfl, hi, hb, hk⟩; refine ⟨_, rfl, ?_⟩; replace HK := A_ (KeepBut.trans (ke_ (w := w)) hk (.inl rfl)); replace BK357 := A_ (kb_ BK357.out hk NB357_0.out); replace BK358 := A_ (kb_ BK358.out hk NB358_0.out); replace HB := A_ (hb); replace HI0 := A_ (hi); (try clear hb hk hi); have hnb10 := NB357_358.out; have hnc10 := NB358_357.out; have hnb11 := NB357_0.out; have hnc11 := NB0_357.out; have hcz12_0 := hz_ BK357.out 0 (.int .i64 0); have hcz12_1 := hz_ BK357.out 1 (.int .i64 0); have hfz12_0 := blk_frozen BK357.out 0; have hfz12_1 := blk_frozen BK357.out 1; have hnb13 := NB358_0.out; have hnc13 := NB0_358.out; have hcz14_0 := hz_ BK358.out 0 (.int .i64 0); have hcz14_1 := hz_ BK358.out 1 (.int .i64 0); have hfz14_0 := blk_frozen BK358.out 0; have hfz14_1 := blk_frozen BK358.out 1))
 refine bodyPost_ret (results_list (rs := [.tmp 2, .cell 3 35, .cell 4 35]) rfl (by simp) (.tmp (.cell gb357 35 #[.int .i64 t362, .int .i64 t363] (0, 0) _ rfl (by (with_reducible repeat (first | refine blk_drewN ?_ _ | refine blk_drew ?_ | refine blk_alloc ?_ _)); refine blk_far ?_ NB357_358.out _; (with_reducible repeat (first | refine blk_drewN ?_ _ | refine blk_drew ?_ | refine blk_alloc ?_ _)); refine blk_far ?_ NB357_358.out _; (with_reducible repeat (first | refine blk_drewN ?_ _ | refine blk_drew ?_ | refine blk_alloc ?_ _)); refine blk_put (cs := #[.int .i64 t362, .int .i64 0]) ?_ 1 _ rfl; (with_reducible repeat (first | refine blk_drewN ?_ _ | refine blk_drew ?_ | refine blk_alloc ?_ _)); refine blk_put (cs := #[.int .i64 0, .int .i64 0]) ?_ 0 _ rfl; (with_reducible repeat (first | refine blk_drewN ?_ _ | refine blk_drew ?_ | refine blk_alloc ?_ _)); exact BK357.out) Tryz.underlying35 rfl (by kernel_rfl) (.cell gb358 35 #[.int .i64 t366, .int .i64 t367] (0, 0) _ rfl (by (with_reducible repeat (first | refine blk_drewN ?_ _ | refine blk_drew ?_ | refine blk_alloc ?_ _)); refine blk_put (cs := #[.int .i64 t366, .int .i64 0]) ?_ 1 _ rfl; (with_reducible repeat (first | refine blk_drewN ?_ _ | refine blk_drew ?_ | refine blk_alloc ?_ _)); refine blk_put (cs := #[.int .i64 0, .int .i64 0]) ?_ 0 _ rfl; (with_reducible repeat (first | refine blk_drewN ?_ _ | refine blk_drew ?_ | refine blk_alloc ?_ _)); refine blk_far ?_ NB358_357.out _; (with_reducible repeat (first | refine blk_drewN ?_ _ | refine blk_drew ?_ | refine blk_alloc ?_ _)); refine blk_far ?_ NB358_357.out _; (with_reducible repeat (first | refine blk_drewN ?_ _ | refine blk_drew ?_ | refine blk_alloc ?_ _)); exact BK358.out) Tryz.underlying35 rfl (by kernel_rfl) .nil)))) rfl ?_
 exact ⟨rt_, is_, bx_, ke_⟩

/-! ### spec_DrawHandicapFor: function 19 -/
def spec_DrawHandicapFor.f (l0 : List Int) : Option (Int × Int × Int × Int × Int × Int) := (spec_l1Cur_twoRunners.f l0 0 0).bind fun bt373 => ((spec_l1Cur_among.f l0 bt373.2.2.2.2.2.1 bt373.2.2.2.2.2.2 (([1, 1, 2, 3, 5, 6, 12, 60, 100, 101, 0, (-1)] : List Int))).bind fun bt385 => (some (bt373.1, bt373.2.1, bt373.2.2.1, bt373.2.2.2.1, bt373.2.2.2.2.1, bt385.1)))
def spec_DrawHandicapFor.T3 : Bool × List (List Nat × List Nat) := (true, [([], []), ([], []), ([], []), ([], []), ([], []), ([3, 4], [3, 4]), ([0, 5, 0], [0]), ([1, 6, 0, 1, 6], [1]), ([2, 7, 0, 1, 2, 6, 7], [2]), ([5, 8, 0, 1, 2, 3, 4, 5, 6, 7, 8], [5])])
def spec_DrawHandicapFor.B3 : List Nat := [0, 0, 0, 0, 0, 24, 57, 123, 255, 511]
theorem spec_DrawHandicapFor.tab3 : rtab .any (opsOf Tryz.f19 3) = spec_DrawHandicapFor.T3 := by kernel_rfl
theorem spec_DrawHandicapFor.bits3 : waitsOk spec_DrawHandicapFor.T3.2 spec_DrawHandicapFor.B3 = true := by kernel_rfl
set_option maxHeartbeats 8000000 in
set_option maxRecDepth 100000 in
theorem spec_DrawHandicapFor.calls (A0 : Option Addr) (c0 : Nat) (l0 : List Int) (r1 : Int) (r2 : Int) (r3 : Int) (r4 : Int) (r5 : Int) (r6 : Int) (w : World) (hr0 : Kd.C (Kd.int .u8) w A0 l0.length l0) (hc0 : l0.length ≤ c0) (h : spec_DrawHandicapFor.f l0 = some (r1, r2, r3, r4, r5, r6)) :
  Calls Tryz.prog 19 #[.slice A0 l0.length c0] w fun e w' => e = .returned (.tuple #[.int .i64 r1, .agg #[.int .i64 r2, .int .i64 r3], .agg #[.int .i64 r4, .int .i64 r5], .int .i64 r6]) ∧ Below w.heap.size w w' := by
 have hu35 := Tryz.underlying35
 have hu60 := Tryz.underlying60
 have HR0 := A_ hr0
 have HC0 := A_ hc0
 clear hr0 hc0
 have HB := A_ (Below.refl w.heap.size w)
 have H := h
 unfold spec_DrawHandicapFor.f at H
 clear h
 replace H := ob_ H
 obtain ⟨⟨t373, t374, t375, t376, t377, t378, t379⟩, A2, H⟩ := H
 (try dsimp only at H)
 obtain ⟨y382, hy382⟩ : ∃ y_ : List Int, y_ = (([1, 1, 2, 3, 5, 6, 12, 60, 100, 101, 0, (-1)] : List Int)) := ⟨_, rfl⟩
 replace H : ((spec_l1Cur_among.f l0 t378 t379 y382).bind fun bt385 => (some (t373, t374, t375, t376, t377, bt385.1))) = some (r1, r2, r3, r4, r5, r6) := by first | (rw [hy382]; with_reducible exact H) | (have H2_ := (Option.bind_some _ _).symm.trans H; rw [hy382]; with_reducible exact H2_) | (have H2_ := (Option.bind_some _ _).symm.trans H; with_reducible exact H2_) | with_reducible exact H | (rw [hy382]; exact H) | exact H
 have Ny382 := A_ hy382
 clear hy382
 replace H := ob_ H
 obtain ⟨⟨t385, t386, t387⟩, A3, H⟩ := H
 (try dsimp only at H)
 simp only [Option.some.injEq, Prod.mk.injEq] at H
 obtain ⟨rfl, rfl, rfl, rfl, rfl, rfl⟩ := H
 go_enter Tryz.func19, Tryz.ntmps19
 try go_wp2_with (first | ((with_reducible refine gate_dst (N := 3) rfl ?_); refine be_ 3 #[.int .i64 0, .int .i64 0] 35 ?_; intro gb370 hg w4 hbox hb; have BK370 := A_ hbox; have GW370 := A_ (bz_ (w := w) hg); have GE370 := A_ (bz_ (w := w) hg); replace HB := A_ (below_step bw_ hb); clear hb hbox hg) | ((with_reducible refine gate_dst (N := 4) rfl ?_); refine be_ 4 #[.int .i64 0, .int .i64 0] 35 ?_; intro gb371 hg w5 hbox hb; have BK371 := A_ hbox; have GW371 := A_ (bz_ (w := w) hg); have GE371 := A_ (bz_ (w := w) hg); have NB370_371 := A_ (nl_ BK370.out hg); have NB371_370 := A_ (ng_ BK370.out hg); replace HB := A_ (below_step bw_ hb); replace BK370 := A_ (bb_ BK370.out hb); clear hb hbox hg) | ((with_reducible refine gate_dst (N := 12) rfl ?_); refine be_ 12 #[.slice A0 l0.length c0, .int .i64 0, .int .u64 0] 60 ?_; intro gb372 hg w6 hbox hb; have HI372 := A_ ((⟨_, _, hbox, (by rw [hg]; exact (below_size bw_) : w.heap.size ≤ gb372), HR0.out⟩ : IsS60 w _ gb372 l0 0 0)); have GW372 := A_ (bz_ (w := w) hg); have GE372 := A_ (bz_ (w := w) hg); have NB370_372 := A_ (nl_ BK370.out hg); have NB372_370 := A_ (ng_ BK370.out hg); have NB371_372 := A_ (nl_ BK371.out hg); have NB372_371 := A_ (ng_ BK371.out hg); replace HB := A_ (below_step bw_ hb); replace BK370 := A_ (bb_ BK370.out hb); replace BK371 := A_ (bb_ BK371.out hb); clear hb hbox hg) | ((with_reducible refine gate_callee (f := 63) rfl ?_); refine gl_ (some 15) Tryz.func63 #[.pointer (some ⟨gb372, 0, none⟩)] ?_; (with_reducible refine (spec_l1Cur_twoRunners.calls gb372 l0 0 0 t373 t374 t375 t376 t377 t378 t379 w _ ?side1 ?side2 A2.out).mono ?_); (case side1 => repeat (first | (with_reducible first | exact HI372.out | apply IsS60.alloc | apply IsS60.drewN | apply IsS60.drew | apply IsS60.set_1 | apply IsS60.set_2 | refine IsS60.far ?_ NB372_370.out _ | refine IsS60.far ?_ NB372_371.out _) | exact HI372.out)); (case side2 => repeat (first | (with_reducible first | exact HB.out | apply below_alloc | apply pw_below_drewN | apply below_drew1 | refine below_set ?_ (IsS60.ge HI372.out) | refine below_set ?_ GE370.out | refine below_set ?_ GE371.out) | exact HB.out)); rintro e w7 ⟨rfl, hi, hb, hk⟩; refine ⟨_, rfl, ?_⟩; replace BK370 := A_ (kb_ BK370.out hk NB370_372.out); replace BK371 := A_ (kb_ BK371.out hk NB371_372.out); replace HB := A_ (hb); replace HI372 := A_ (hi); (try clear hb hk hi)) | ((with_reducible refine gate_dst (N := 8) rfl ?_); refine be_ 8 #[.int .i64 0, .int .i64 0] 35 ?_; intro gb380 hg w8 hbox hb; have n0_ := A_ (bb_ BK370.out hb); have n1_ := A_ (bb_ BK371.out hb); have n2_ := A_ (IsS60.below (by repeat (first | (with_reducible first | exact HI372.out | apply IsS60.alloc | apply IsS60.drewN | apply IsS60.drew | apply IsS60.set_1 | apply IsS60.set_2 | refine IsS60.far ?_ NB372_370.out _ | refine IsS60.far ?_ NB372_371.out _) | exact HI372.out)) hb); have n3_ := A_ (below_step (by repeat (first | (with_reducible first | exact HB.out | apply below_alloc | apply pw_below_drewN | apply below_drew1 | refine below_set ?_ (IsS60.ge HI372.out) | refine below_set ?_ GE370.out | refine below_set ?_ GE371.out) | exact HB.out)) hb); have n4_ := A_ (hbox); have n5_ := A_ ((by rw [hg]; exact (below_size (by repeat (first | (with_reducible first | exact HB.out | apply below_alloc | apply pw_below_drewN | apply below_drew1 | refine below_set ?_ (IsS60.ge HI372.out) | refine below_set ?_ GE370.out | refine below_set ?_ GE371.out) | exact HB.out))) : w.heap.size ≤ gb380)); have n6_ := A_ ((by rw [hg]; exact (below_size (by repeat (first | (with_reducible first | exact HB.out | apply below_alloc | apply pw_below_drewN | apply below_drew1 | refine below_set ?_ (IsS60.ge HI372.out) | refine below_set ?_ GE370.out | refine below_set ?_ GE371.out) | exact HB.out))) : w.heap.size ≤ gb380)); have n7_ := A_ (nl_ BK370.out hg); have n8_ := A_ (ng_ BK370.out hg); have n9_ := A_ (nl_ BK371.out hg); have n10_ := A_ (ng_ BK371.out hg); have n11_ := A_ ((by rw [hg]; exact Nat.ne_of_lt (IsS60.lt (show IsS60 w _ gb372 l0 t378 t379 from by repeat (first | (with_reducible first | exact HI372.out | apply IsS60.alloc | apply IsS60.drewN | apply IsS60.drew | apply IsS60.set_1 | apply IsS60.set_2 | refine IsS60.far ?_ NB372_370.out _ | refine IsS60.far ?_ NB372_371.out _) | exact HI372.out))) : gb372 ≠ gb380)); have n12_ := A_ ((by rw [hg]; exact Nat.ne_of_gt (IsS60.lt (show IsS60 w _ gb372 l0 t378 t379 from by repeat (first | (with_reducible first | exact HI372.out | apply IsS60.alloc | apply IsS60.drewN | apply IsS60.drew | apply IsS60.set_1 | apply IsS60.set_2 | refine IsS60.far ?_ NB372_370.out _ | refine IsS60.far ?_ NB372_371.out _) | exact HI372.out))) : gb380 ≠ gb372)); clear BK370; clear BK371; clear HI372; clear HB; have BK370 := n0_; have BK371 := n1_; have HI372 := n2_; have HB := n3_; have BK380 := n4_; have GW380 := n5_; have GE380 := n6_; have NB370_380 := n7_; have NB380_370 := n8_; have NB371_380 := n9_; have NB380_371 := n10_; have NB372_380 := n11_; have NB380_372 := n12_; clear n0_ n1_ n2_ n3_ n4_ n5_ n6_ n7_ n8_ n9_ n10_ n11_ n12_; clear hb hbox hg) | ((with_reducible refine gate_dst (N := 9) rfl ?_); refine be_ 9 #[.int .i64 0, .int .i64 0] 35 ?_; intro gb381 hg w9 hbox hb; have n0_ := A_ (bb_ BK370.out hb); have n1_ := A_ (bb_ BK371.out hb); have n2_ := A_ (IsS60.below (by repeat (first | (with_reducible first | exact HI372.out | apply IsS60.alloc | apply IsS60.drewN | apply IsS60.drew | apply IsS60.set_1 | apply IsS60.set_2 | refine IsS60.far ?_ NB372_370.out _ | refine IsS60.far ?_ NB372_371.out _ | refine IsS60.far ?_ NB372_380.out _) | exact HI372.out)) hb); have n3_ := A_ (bb_ BK380.out hb); have n4_ := A_ (below_step (by repeat (first | (with_reducible first | exact HB.out | apply below_alloc | apply pw_below_drewN | apply below_drew1 | refine below_set ?_ (IsS60.ge HI372.out) | refine below_set ?_ GE370.out | refine below_set ?_ GE371.out | refine below_set ?_ GE380.out) | exact HB.out)) hb); have n5_ := A_ (hbox); have n6_ := A_ ((by rw [hg]; exact (below_size (by repeat (first | (with_reducible first | exact HB.out | apply below_alloc | apply pw_below_drewN | apply below_drew1 | refine below_set ?_ (IsS60.ge HI372.out) | refine below_set ?_ GE370.out | refine below_set ?_ GE371.out | refine below_set ?_ GE380.out) | exact HB.out))) : w.heap.size ≤ gb381)); have n7_ := A_ ((by rw [hg]; exact (below_size (by repeat (first | (with_reducible first | exact HB.out | apply below_alloc | apply pw_below_drewN | apply below_drew1 | refine below_set ?_ (IsS60.ge HI372.out) | refine below_set ?_ GE370.out | refine below_set ?_ GE371.out | refine below_set ?_ GE380.out) | exact HB.out))) : w.heap.size ≤ gb381)); have n8_ := A_ (nl_ BK370.out hg); have n9_ := A_ (ng_ BK370.out hg); have n10_ := A_ (nl_ BK371.out hg); have n11_ := A_ (ng_ BK371.out hg); have n12_ := A_ (nl_ BK380.out hg); have n13_ := A_ (ng_ BK380.out hg); have n14_ := A_ ((by rw [hg]; exact Nat.ne_of_lt (IsS60.lt (show IsS60 w _ gb372 l0 t378 t379 from by repeat (first | (with_reducible first | exact HI372.out | apply IsS60.alloc | apply IsS60.drewN | apply IsS60.drew | apply IsS60.set_1 | apply IsS60.set_2 | refine IsS60.far ?_ NB372_370.out _ | refine IsS60.far ?_ NB372_371.out _ | refine IsS60.far ?_ NB372_380.out _) | exact HI372.out))) : gb372 ≠ gb381)); have n15_ := A_ ((by rw [hg]; exact Nat.ne_of_gt (IsS60.lt (show IsS60 w _ gb372 l0 t378 t379 from by repeat (first | (with_reducible first | exact HI372.out | apply IsS60.alloc | apply IsS60.drewN | apply IsS60.drew | apply IsS60.set_1 | apply IsS60.set_2 | refine IsS60.far ?_ NB372_370.out _ | refine IsS60.far ?_ NB372_371.out _ | refine IsS60.far ?_ NB372_380.out _) | exact HI372.out))) : gb381 ≠ gb372)); clear BK370; clear BK371; clear HI372; clear BK380; clear HB; have BK370 := n0_; have BK371 := n1_; have HI372 := n2_; have BK380 := n3_; have HB := n4_; have BK381 := n5_; have GW381 := n6_; have GE381 := n7_; have NB370_381 := n8_; have NB381_370 := n9_; have NB371_381 := n10_; have NB381_371 := n11_; have NB380_381 := n12_; have NB381_380 := n13_; have NB372_381 := n14_; have NB381_372 := n15_; clear n0_ n1_ n2_ n3_ n4_ n5_ n6_ n7_ n8_ n9_ n10_ n11_ n12_ n13_ n14_ n15_; clear hb hbox hg; have hnb10 := NB380_370.out; have hnc10 := NB370_380.out; have hnb11 := NB380_371.out; have hnc11 := NB371_380.out; have hnb12 := NB380_381.out; have hnc12 := NB381_380.out; have hnb13 := NB380_372.out; have hnc13 := NB372_380.out; have hcz14_0 := hz_ BK380.out 0 (.int .i64 0); have hcz14_1 := hz_ BK380.out 1 (.int .i64 0); have hfz14_0 := blk_frozen BK380.out 0; have hfz14_1 := blk_frozen BK380.out 1; have hnb15 := NB381_370.out; have hnc15 := NB370_381.out; have hnb16 := NB381_371.out; have hnc16 := NB371_381.out; have hnb17 := NB381_372.out; have hnc17 := NB372_381.out; have hcz18_0 := hz_ BK381.out 0 (.int .i64 0); have hcz18_1 := hz_ BK381.out 1 (.int .i64 0); have hfz18_0 := blk_frozen BK381.out 0; have hfz18_1 := blk_frozen BK381.out 1))
 have n0_ : Aside0 (((((w9.setCell ⟨gb380, 0, none⟩ (.int .i64 t374)).setCell ⟨gb380, 1, none⟩ (.int .i64 t375)).setCell ⟨gb381, 0, none⟩ (.int .i64 t376)).setCell ⟨gb381, 1, none⟩ (.int .i64 t377)).heap[gb370]? = some (.cells #[.int .i64 0, .int .i64 0] 35 (0, 0))) := ⟨by (with_reducible repeat (first | refine blk_drewN ?_ _ | refine blk_drew ?_ | refine blk_alloc ?_ _)); refine blk_far ?_ NB370_381.out _; (with_reducible repeat (first | refine blk_drewN ?_ _ | refine blk_drew ?_ | refine blk_alloc ?_ _)); refine blk_far ?_ NB370_381.out _; (with_reducible repeat (first | refine blk_drewN ?_ _ | refine blk_drew ?_ | refine blk_alloc ?_ _)); refine blk_far ?_ NB370_380.out _; (with_reducible repeat (first | refine blk_drewN ?_ _ | refine blk_drew ?_ | refine blk_alloc ?_ _)); refine blk_far ?_ NB370_380.out _; (with_reducible repeat (first | refine blk_drewN ?_ _ | refine blk_drew ?_ | refine blk_alloc ?_ _)); exact BK370.out⟩
 have n1_ : Aside0 (((((w9.setCell ⟨gb380, 0, none⟩ (.int .i64 t374)).setCell ⟨gb380, 1, none⟩ (.int .i64 t375)).setCell ⟨gb381, 0, none⟩ (.int .i64 t376)).setCell ⟨gb381, 1, none⟩ (.int .i64 t377)).heap[gb371]? = some (.cells #[.int .i64 0, .int .i64 0] 35 (0, 0))) := ⟨by (with_reducible repeat (first | refine blk_drewN ?_ _ | refine blk_drew ?_ | refine blk_alloc ?_ _)); refine blk_far ?_ NB371_381.out _; (with_reducible repeat (first | refine blk_drewN ?_ _ | refine blk_drew ?_ | refine blk_alloc ?_ _)); refine blk_far ?_ NB371_381.out _; (with_reducible repeat (first | refine blk_drewN ?_ _ | refine blk_drew ?_ | refine blk_alloc ?_ _)); refine blk_far ?_ NB371_380.out _; (with_reducible repeat (first | refine blk_drewN ?_ _ | refine blk_drew ?_ | refine blk_alloc ?_ _)); refine blk_far ?_ NB371_380.out _; (with_reducible repeat (first | refine blk_drewN ?_ _ | refine blk_drew ?_ | refine blk_alloc ?_ _)); exact BK371.out⟩
 have n2_ : Aside0 (((((w9.setCell ⟨gb380, 0, none⟩ (.int .i64 t374)).setCell ⟨gb380, 1, none⟩ (.int .i64 t375)).setCell ⟨gb381, 0, none⟩ (.int .i64 t376)).setCell ⟨gb381, 1, none⟩ (.int .i64 t377)).heap[gb380]? = some (.cells #[.int .i64 t374, .int .i64 t375] 35 (0, 0))) := ⟨by (with_reducible repeat (first | refine blk_drewN ?_ _ | refine blk_drew ?_ | refine blk_alloc ?_ _)); refine blk_far ?_ NB380_381.out _; (with_reducible repeat (first | refine blk_drewN ?_ _ | refine blk_drew ?_ | refine blk_alloc ?_ _)); refine blk_far ?_ NB380_381.out _; (with_reducible repeat (first | refine blk_drewN ?_ _ | refine blk_drew ?_ | refine blk_alloc ?_ _)); refine blk_put (cs := #[.int .i64 t374, .int .i64 0]) ?_ 1 _ rfl; (with_reducible repeat (first | refine blk_drewN ?_ _ | refine blk_drew ?_ | refine blk_alloc ?_ _)); refine blk_put (cs := #[.int .i64 0, .int .i64 0]) ?_ 0 _ rfl; (with_reducible repeat (first | refine blk_drewN ?_ _ | refine blk_drew ?_ | refine blk_alloc ?_ _)); exact BK380.out⟩
 have n3_ : Aside0 (((((w9.setCell ⟨gb380, 0, none⟩ (.int .i64 t374)).setCell ⟨gb380, 1, none⟩ (.int .i64 t375)).setCell ⟨gb381, 0, none⟩ (.int .i64 t376)).setCell ⟨gb381, 1, none⟩ (.int .i64 t377)).heap[gb381]? = some (.cells #[.int .i64 t376, .int .i64 t377] 35 (0, 0))) := ⟨by (with_reducible repeat (first | refine blk_drewN ?_ _ | refine blk_drew ?_ | refine blk_alloc ?_ _)); refine blk_put (cs := #[.int .i64 t376, .int .i64 0]) ?_ 1 _ rfl; (with_reducible repeat (first | refine blk_drewN ?_ _ | refine blk_drew ?_ | refine blk_alloc ?_ _)); refine blk_put (cs := #[.int .i64 0, .int .i64 0]) ?_ 0 _ rfl; (with_reducible repeat (first | refine blk_drewN ?_ _ | refine blk_drew ?_ | refine blk_alloc ?_ _)); refine blk_far ?_ NB381_380.out _; (with_reducible repeat (first | refine blk_drewN ?_ _ | refine blk_drew ?_ | refine blk_alloc ?_ _)); refine blk_far ?_ NB381_380.out _; (with_reducible repeat (first | refine blk_drewN ?_ _ | refine blk_drew ?_ | refine blk_alloc ?_ _)); exact BK381.out⟩
 have n4_ : Aside0 (IsS60 w ((((w9.setCell ⟨gb380, 0, none⟩ (.int .i64 t374)).setCell ⟨gb380, 1, none⟩ (.int .i64 t375)).setCell ⟨gb381, 0, none⟩ (.int .i64 t376)).setCell ⟨gb381, 1, none⟩ (.int .i64 t377)) gb372 l0 t378 t379) := ⟨by repeat (first | (with_reducible first | exact HI372.out | apply IsS60.alloc | apply IsS60.drewN | apply IsS60.drew | apply IsS60.set_1 | apply IsS60.set_2 | refine IsS60.far ?_ NB372_370.out _ | refine IsS60.far ?_ NB372_371.out _ | refine IsS60.far ?_ NB372_380.out _ | refine IsS60.far ?_ NB372_381.out _) | exact HI372.out)⟩
 have n5_ : Aside0 (Below w.heap.size w ((((w9.setCell ⟨gb380, 0, none⟩ (.int .i64 t374)).setCell ⟨gb380, 1, none⟩ (.int .i64 t375)).setCell ⟨gb381, 0, none⟩ (.int .i64 t376)).setCell ⟨gb381, 1, none⟩ (.int .i64 t377))) := ⟨by repeat (first | (with_reducible first | exact HB.out | apply below_alloc | apply pw_below_drewN | apply below_drew1 | refine below_set ?_ (IsS60.ge HI372.out) | refine below_set ?_ GE370.out | refine below_set ?_ GE371.out | refine below_set ?_ GE380.out | refine below_set ?_ GE381.out) | exact HB.out)⟩
 (try clear BK370)
 (try clear BK371)
 (try clear BK380)
 (try clear BK381)
 (try clear HI372)
 (try clear HB)
 generalize ((((w9.setCell ⟨gb380, 0, none⟩ (.int .i64 t374)).setCell ⟨gb380, 1, none⟩ (.int .i64 t375)).setCell ⟨gb381, 0, none⟩ (.int .i64 t376)).setCell ⟨gb381, 1, none⟩ (.int .i64 t377)) = w19 at n0_ n1_ n2_ n3_ n4_ n5_ ⊢
 have BK370 := n0_
 have BK371 := n1_
 have BK380 := n2_
 have BK381 := n3_
 have HI372 := n4_
 have HB := n5_
 clear n0_ n1_ n2_ n3_ n4_ n5_
 replace BK370 := A_ (blk_drew BK370.out)
 replace BK371 := A_ (blk_drew BK371.out)
 replace BK380 := A_ (blk_drew BK380.out)
 replace BK381 := A_ (blk_drew BK381.out)
 replace HI372 := A_ (IsS60.drew HI372.out)
 replace HB := A_ (below_drew1 HB.out)
 refine start_ (n := 10) (S := fun w' => w'.cell? ⟨gb380, 0, none⟩ = some (.int .i64 t374) ∧ w'.cell? ⟨gb380, 1, none⟩ = some (.int .i64 t375) ∧ w'.cell? ⟨gb381, 0, none⟩ = some (.int .i64 t376) ∧ w'.cell? ⟨gb381, 1, none⟩ = some (.int .i64 t377)) (ds := []) #[false, false, false, false, false, false, false, false, false, false] (by kernel_rfl) rfl rfl ⟨(blk_cell BK380.out 0).trans rfl, (blk_cell BK380.out 1).trans rfl, (blk_cell BK381.out 0).trans rfl, (blk_cell BK381.out 1).trans rfl⟩ (fun hHeld => ?_); refine with_tabW spec_DrawHandicapFor.tab3 spec_DrawHandicapFor.bits3 (fun HT_ HW_ => ?_)
 generalize w19.drew = w20 at BK370 BK371 BK380 BK381 HI372 HB hHeld ⊢
 refine pu_ 0 19 10 1 ?_
 refine pu_ 3 22 10 9 ?_
 refine tk_ 1 20 10 11 hHeld ?_
 refine tk_ 2 21 10 15 hHeld ?_
 refine one_ (i := 4) (N := some 23) (pm_ 10 31) rfl rfl (one_of HT_.out (by kernel_rfl)) (by decide) (fun K hK => ?_)
 refine Kd.R_lit_step (Kd.int .i64) _ 3 ?hg (N := 23) ?hd (xs := ([1, 1, 2, 3, 5, 6, 12, 60, 100, 101, 0, (-1)] : List Int)) (inner := [.int .i64 1, .int .i64 1, .int .i64 2, .int .i64 3, .int .i64 5, .int .i64 6, .int .i64 12, .int .i64 60, .int .i64 100, .int .i64 101, .int .i64 0, .int .i64 (-1)]) (ok := fun _ => True) (okp := fun _ => True) ?hr ?hp (fun _ hk => hk) trivial (Below.refl _ _) (Nat.le_refl _) (by simp) ?_; (case hd => rfl); (case hg => rfl); (case hr => first | (go_simp; done) | (go_simp; rfl)); (case hp => exact (Reps.one (show Kd.M (Kd.int .i64) _ _ _ 1 [.int .i64 1] from rfl) (Reps.one (show Kd.M (Kd.int .i64) _ _ _ 1 [.int .i64 1] from rfl) (Reps.one (show Kd.M (Kd.int .i64) _ _ _ 2 [.int .i64 2] from rfl) (Reps.one (show Kd.M (Kd.int .i64) _ _ _ 3 [.int .i64 3] from rfl) (Reps.one (show Kd.M (Kd.int .i64) _ _ _ 5 [.int .i64 5] from rfl) (Reps.one (show Kd.M (Kd.int .i64) _ _ _ 6 [.int .i64 6] from rfl) (Reps.one (show Kd.M (Kd.int .i64) _ _ _ 12 [.int .i64 12] from rfl) (Reps.one (show Kd.M (Kd.int .i64) _ _ _ 60 [.int .i64 60] from rfl) (Reps.one (show Kd.M (Kd.int .i64) _ _ _ 100 [.int .i64 100] from rfl) (Reps.one (show Kd.M (Kd.int .i64) _ _ _ 101 [.int .i64 101] from rfl) (Reps.one (show Kd.M (Kd.int .i64) _ _ _ 0 [.int .i64 0] from rfl) (Reps.one (show Kd.M (Kd.int .i64) _ _ _ (-1) [.int .i64 (-1)] from rfl) (Reps.none _ _))))))))))))))
 intro v383 w21 ho22 hb hg_ hnew_
 clear hg_ hnew_
 (first | rw [← Ny382.out] at ho22 | (simp only [Int.reduceToNat] at ho22; rw [← Ny382.out] at ho22))
 have n0_ := A_ (Kd.R_lower ho22 (below_size (by repeat (first | (with_reducible first | exact HB.out | apply below_alloc | apply pw_below_drewN | apply below_drew1 | refine below_set ?_ (IsS60.ge HI372.out) | refine below_set ?_ GE370.out | refine below_set ?_ GE371.out | refine below_set ?_ GE380.out | refine below_set ?_ GE381.out) | exact HB.out))))
 have n1_ := A_ (bb_ BK370.out hb)
 have n2_ := A_ (bb_ BK371.out hb)
 have n3_ := A_ (IsS60.below (by repeat (first | (with_reducible first | exact HI372.out | apply IsS60.alloc | apply IsS60.drewN | apply IsS60.drew | apply IsS60.set_1 | apply IsS60.set_2 | refine IsS60.far ?_ NB372_370.out _ | refine IsS60.far ?_ NB372_371.out _ | refine IsS60.far ?_ NB372_380.out _ | refine IsS60.far ?_ NB372_381.out _) | exact HI372.out)) hb)
 have n4_ := A_ (bb_ BK380.out hb)
 have n5_ := A_ (bb_ BK381.out hb)
 have n6_ := A_ (below_step (by repeat (first | (with_reducible first | exact HB.out | apply below_alloc | apply pw_below_drewN | apply below_drew1 | refine below_set ?_ (IsS60.ge HI372.out) | refine below_set ?_ GE370.out | refine below_set ?_ GE371.out | refine below_set ?_ GE380.out | refine below_set ?_ GE381.out) | exact HB.out)) hb)
 clear BK370
 clear BK371
 clear HI372
 clear BK380
 clear BK381
 clear HB
 have HO384 := n0_
 have BK370 := n1_
 have BK371 := n2_
 have HI372 := n3_
 have BK380 := n4_
 have BK381 := n5_
 have HB := n6_
 clear n0_ n1_ n2_ n3_ n4_ n5_ n6_
 clear hb ho22
 obtain ⟨Ao23, co23, eo23⟩ := Kd.R_slice HO384.out
 (first | subst eo23 | (injection eo23 with f1_ f2_ f3_; have f4_ := f1_.symm; have f5_ := f3_.symm; clear f1_ f2_ f3_; subst f4_; subst f5_))
 refine hK.out _ _ ⟨(blk_cell BK380.out 0).trans rfl, (blk_cell BK380.out 1).trans rfl, (blk_cell BK381.out 0).trans rfl, (blk_cell BK381.out 1).trans rfl⟩ (fun hHeld => ?_)
 clear hK K
 refine norm_ (a' := ?_) ?_ ?_
 rotate_left
 ·
  show Act.put _ (some 23) _ = _
  simp only [Act.put, List.setIfInBounds_toArray, List.set_cons_zero, List.set_cons_succ, i64_w, i32_w]
  rfl
 refine one_ (i := 5) (N := some 24) (pm_ 10 63) rfl rfl (one_of HT_.out (by kernel_rfl)) (by decide) (fun K hK => ?_)
 refine goes_ Tryz.func64 (by kernel_rfl) rfl #[.pointer (some ⟨gb372, 0, none⟩), .slice Ao23 y382.length co23] (by rfl) rfl rfl (by (try simp only [List.map_toArray, List.map_cons, List.map_nil]); first | done | rfl | (simp only [List.length_drop, List.length_take]; rfl)) ?_
 with_reducible refine (spec_l1Cur_among.calls gb372 l0 t378 t379 _ _ y382 t385 t386 t387 w _ ?side1 ?side2 ?side3 ?side4 ?side5 A3.out).mono ?_
 (case side1 => repeat (first | (with_reducible first | exact HI372.out | apply IsS60.alloc | apply IsS60.drewN | apply IsS60.drew | apply IsS60.set_1 | apply IsS60.set_2 | refine IsS60.far ?_ NB372_370.out _ | refine IsS60.far ?_ NB372_371.out _ | refine IsS60.far ?_ NB372_380.out _ | refine IsS60.far ?_ NB372_381.out _) | exact HI372.out))
 (case side2 => repeat (first | (with_reducible first | exact HB.out | apply below_alloc | apply pw_below_drewN | apply below_drew1 | refine below_set ?_ (IsS60.ge HI372.out) | refine below_set ?_ GE370.out | refine below_set ?_ GE371.out | refine below_set ?_ GE380.out | refine below_set ?_ GE381.out) | exact HB.out))
 (case side3 => repeat (first | exact (Kd.R_reads' HO384.out).2.2 | (with_reducible refine Kd.C_alloc ?_ _) | (with_reducible refine Kd.C_drewN ?_ _) | (with_reducible refine Kd.C_drew ?_)))
 (case side4 => exact (Kd.R_reads' HO384.out).2.1)
 (case side5 => exact far_slice (IsS60.own_ne HI372.out HO384.out (by decide)))
 rintro e w24 ⟨rfl, hi, hb, hk⟩
 refine ⟨_, rfl, ?_⟩
 have n0_ := A_ (kb_ BK370.out hk NB370_372.out)
 have n1_ := A_ (kb_ BK371.out hk NB371_372.out)
 have n2_ := A_ (kb_ BK380.out hk NB380_372.out)
 have n3_ := A_ (kb_ BK381.out hk NB381_372.out)
 have n4_ := A_ (Kd.R_mono (Kd.R_keep (IsS60.apart (show IsS60 w _ gb372 l0 t378 t379 from by repeat (first | (with_reducible first | exact HI372.out | apply IsS60.alloc | apply IsS60.drewN | apply IsS60.drew | apply IsS60.set_1 | apply IsS60.set_2 | refine IsS60.far ?_ NB372_370.out _ | refine IsS60.far ?_ NB372_371.out _ | refine IsS60.far ?_ NB372_380.out _ | refine IsS60.far ?_ NB372_381.out _) | exact HI372.out)) (by (with_reducible repeat (first | apply Kd.R_alloc | apply Kd.R_drewN | apply Kd.R_drew)); exact HO384.out) (by decide)) hk (fun _ h => h.2)) (fun _ h => h.1))
 have n5_ := A_ (hb)
 have n6_ := A_ (hi)
 clear BK370
 clear BK371
 clear BK380
 clear BK381
 clear HO384
 clear HB
 clear HI372
 have BK370 := n0_
 have BK371 := n1_
 have BK380 := n2_
 have BK381 := n3_
 have HO384 := n4_
 have HB := n5_
 have HI372 := n6_
 clear n0_ n1_ n2_ n3_ n4_ n5_ n6_
 (try clear hb)
 (try clear hb2)
 (try clear hk)
 (try clear hi)
 refine hK.out _ _ ⟨(blk_cell BK380.out 0).trans rfl, (blk_cell BK380.out 1).trans rfl, (blk_cell BK381.out 0).trans rfl, (blk_cell BK381.out 1).trans rfl⟩ (fun hHeld => ?_)
 clear hK K
 refine norm_ (a' := ?_) ?_ ?_
 rotate_left
 ·
  show Act.put _ (some 24) _ = _
  simp only [Act.put, List.setIfInBounds_toArray, List.set_cons_zero, List.set_cons_succ, i64_w, i32_w]
  rfl
 refine pu_ 6 2 10 127 ?_
 refine one_ (i := 7) (N := none) (pm_ 10 255) rfl rfl (one_of HT_.out (by kernel_rfl)) (by decide) (fun K hK => ?_)
 have hs25 : w24.cell? ⟨gb370, 0, none⟩ = some (.int .i64 0) := (blk_cell BK370.out 0).trans rfl
 have hfs25 := blk_frozen BK370.out 0
 have hns25_1 := NB371_370.out
 have hns25_2 := NB380_370.out
 have hns25_3 := NB381_370.out
 have hms25_1 := NB370_371.out
 have hms25_2 := NB370_380.out
 have hms25_3 := NB370_381.out
 have hs26 : w24.cell? ⟨gb370, 1, none⟩ = some (.int .i64 0) := (blk_cell BK370.out 1).trans rfl
 have hfs26 := blk_frozen BK370.out 1
 have hns26_1 := NB371_370.out
 have hns26_2 := NB380_370.out
 have hns26_3 := NB381_370.out
 have hms26_1 := NB370_371.out
 have hms26_2 := NB370_380.out
 have hms26_3 := NB370_381.out
 refine skip_ (w1 := ?_) (by rfl) rfl ?_ ?_
 rotate_left
 ·
  go_simp
  rfl
 refine hK.out _ _ ⟨((cell_far (p := ⟨gb370, _, none⟩) NB380_370.out _).trans (((cell_far (p := ⟨gb370, _, none⟩) NB380_370.out _).trans (hHeld.1)))), ((cell_far (p := ⟨gb370, _, none⟩) NB380_370.out _).trans (((cell_far (p := ⟨gb370, _, none⟩) NB380_370.out _).trans (hHeld.2.1)))), ((cell_far (p := ⟨gb370, _, none⟩) NB381_370.out _).trans (((cell_far (p := ⟨gb370, _, none⟩) NB381_370.out _).trans (hHeld.2.2.1)))), ((cell_far (p := ⟨gb370, _, none⟩) NB381_370.out _).trans (((cell_far (p := ⟨gb370, _, none⟩) NB381_370.out _).trans (hHeld.2.2.2))))⟩ (fun hHeld => ?_)
 clear hK K
 refine one_ (i := 8) (N := none) (pm_ 10 511) rfl rfl (one_of HT_.out (by kernel_rfl)) (by decide) (fun K hK => ?_)
 have hs27 : w24.cell? ⟨gb371, 0, none⟩ = some (.int .i64 0) := (blk_cell BK371.out 0).trans rfl
 have hfs27 := blk_frozen BK371.out 0
 have hns27_0 := NB370_371.out
 have hns27_2 := NB380_371.out
 have hns27_3 := NB381_371.out
 have hms27_0 := NB371_370.out
 have hms27_2 := NB371_380.out
 have hms27_3 := NB371_381.out
 have hs28 : w24.cell? ⟨gb371, 1, none⟩ = some (.int .i64 0) := (blk_cell BK371.out 1).trans rfl
 have hfs28 := blk_frozen BK371.out 1
 have hns28_0 := NB370_371.out
 have hns28_2 := NB380_371.out
 have hns28_3 := NB381_371.out
 have hms28_0 := NB371_370.out
 have hms28_2 := NB371_380.out
 have hms28_3 := NB371_381.out
 refine skip_ (w1 := ?_) (by rfl) rfl ?_ ?_
 rotate_left
 ·
  go_simp
  rfl
 refine hK.out _ _ ⟨((cell_far (p := ⟨gb371, _, none⟩) NB380_371.out _).trans (((cell_far (p := ⟨gb371, _, none⟩) NB380_371.out _).trans (hHeld.1)))), ((cell_far (p := ⟨gb371, _, none⟩) NB380_371.out _).trans (((cell_far (p := ⟨gb371, _, none⟩) NB380_371.out _).trans (hHeld.2.1)))), ((cell_far (p := ⟨gb371, _, none⟩) NB381_371.out _).trans (((cell_far (p := ⟨gb371, _, none⟩) NB381_371.out _).trans (hHeld.2.2.1)))), ((cell_far (p := ⟨gb371, _, none⟩) NB381_371.out _).trans (((cell_far (p := ⟨gb371, _, none⟩) NB381_371.out _).trans (hHeld.2.2.2))))⟩ (fun hHeld => ?_)
 clear hK K
 refine pu_ 9 5 10 1023 ?_
 refine done_ (done_of HT_.out (by kernel_rfl)) ?_
 try go_wp2
 refine bodyPost_ret (results_list (rs := [.tmp 2, .cell 3 35, .cell 4 35, .tmp 5]) rfl (by simp) (.tmp (.cell gb370 35 #[.int .i64 t374, .int .i64 t375] (0, 0) _ rfl (by (with_reducible repeat (first | refine blk_drewN ?_ _ | refine blk_drew ?_ | refine blk_alloc ?_ _)); refine blk_far ?_ NB370_371.out _; (with_reducible repeat (first | refine blk_drewN ?_ _ | refine blk_drew ?_ | refine blk_alloc ?_ _)); refine blk_far ?_ NB370_371.out _; (with_reducible repeat (first | refine blk_drewN ?_ _ | refine blk_drew ?_ | refine blk_alloc ?_ _)); refine blk_put (cs := #[.int .i64 t374, .int .i64 0]) ?_ 1 _ rfl; (with_reducible repeat (first | refine blk_drewN ?_ _ | refine blk_drew ?_ | refine blk_alloc ?_ _)); refine blk_put (cs := #[.int .i64 0, .int .i64 0]) ?_ 0 _ rfl; (with_reducible repeat (first | refine blk_drewN ?_ _ | refine blk_drew ?_ | refine blk_alloc ?_ _)); exact BK370.out) Tryz.underlying35 rfl (by kernel_rfl) (.cell gb371 35 #[.int .i64 t376, .int .i64 t377] (0, 0) _ rfl (by (with_reducible repeat (first | refine blk_drewN ?_ _ | refine blk_drew ?_ | refine blk_alloc ?_ _)); refine blk_put (cs := #[.int .i64 t376, .int .i64 0]) ?_ 1 _ rfl; (with_reducible repeat (first | refine blk_drewN ?_ _ | refine blk_drew ?_ | refine blk_alloc ?_ _)); refine blk_put (cs := #[.int .i64 0, .int .i64 0]) ?_ 0 _ rfl; (with_reducible repeat (first | refine blk_drewN ?_ _ | refine blk_drew ?_ | refine blk_alloc ?_ _)); refine blk_far ?_ NB371_370.out _; (with_reducible repeat (first | refine blk_drewN ?_ _ | refine blk_drew ?_ | refine blk_alloc ?_ _)); refine blk_far ?_ NB371_370.out _; (with_reducible repeat (first | refine blk_drewN ?_ _ | refine blk_drew ?_ | refine blk_alloc ?_ _)); exact BK371.out) Tryz.underlying35 rfl (by kernel_rfl) (.tmp .nil))))) rfl ?_
 exact ⟨rt_, by repeat (first | (with_reducible first | exact HB.out | apply below_alloc | apply pw_below_drewN | apply below_drew1 | refine below_set ?_ (IsS60.ge HI372.out) | refine below_set ?_ GE370.out | refine below_set ?_ GE371.out | refine below_set ?_ GE380.out | refine below_set ?_ GE381.out) | exact HB.out)⟩

/-! ### impl_areLaps: function 65 -/
def impl_areLaps.f (a0 : Int) : Option (Bool) := (impl_within.f a0 1 100).bind fun t388 => (some t388)
set_option maxHeartbeats 8000000 in
set_option maxRecDepth 100000 in
theorem impl_areLaps.calls (a0 : Int) (r : Bool) (w : World) (h : impl_areLaps.f a0 = some r) :
  Calls Tryz.prog 65 #[.int .i64 a0] w fun e w' => e = .returned (.bool r) ∧ Drawn0 w w' := by
 have H : ((impl_within.f a0 1 100).bind fun t388 => (some t388)) = some r := h
 clear h
 replace H := Option.bind_eq_some_iff.mp H
 obtain ⟨t388, A20, H⟩ := H
 replace H : (some t388) = some r := H
 have A2 := A_ A20
 clear A20
 obtain rfl := Option.some.inj H
 go_enter Tryz.func65, Tryz.ntmps65
 go_wp2_with (first | ((with_reducible refine gate_callee (f := 83) rfl ?_); refine gl_ (some 4) Tryz.func83 #[.int .i64 a0, .int .i64 1, .int .i64 100] ?_; (with_reducible refine (impl_within.calls a0 1 100 t388 _ A2.out).mono ?_); rintro e w' ⟨rfl, ⟨nd, rfl⟩⟩; refine ⟨_, rfl, ?_⟩))
 go_ret
 exact ⟨rs_, by repeat (first | exact Drawn0.refl _ | apply Drawn0.step)⟩

/-! ### impl_HandicapFor: function 20 -/
def impl_HandicapFor.j0 : Nat → Int → Int → Bool → Int → Int → Int → Int → Option (Int × Bool)
  | 0, _, _, _, _, _, _, _ => none
  | k + 1, x0, x3, x30, x390000, x390001, x391000, x391001 => if x30 = true then (some (0, false)) else (if x390001 = 0 then (none) else ((impl_farAt.f x390000 x390001 (wrap64 (Int.tdiv (wrap64 (x3 * x0)) x390001))).bind fun t396 => ((impl_farAt.f x391000 x391001 (wrap64 (Int.tdiv (wrap64 (x3 * x0)) x390001))).bind fun t397 => (some (wrap64 (t396 - t397), true)))))
def impl_HandicapFor.f (k : Nat) (a0 : Int) (a1_0 : Int) (a1_1 : Int) (a2_0 : Int) (a2_1 : Int) (a3 : Int) : Option (Int × Bool) := (impl_onTrack.f a0 (([(⟨a1_0, a1_1⟩ : S35), (⟨a2_0, a2_1⟩ : S35)] : List (S35)))).bind fun t394 => (if t394 = true then ((impl_areLaps.f a3).bind fun t395 => (if t395 = true then (if a1_1 = 0 then (none) else (impl_HandicapFor.j0 k a0 a3 ((Int.tmod (wrap64 (a3 * a0)) a1_1) != 0) a1_0 a1_1 a2_0 a2_1)) else (impl_HandicapFor.j0 k a0 a3 true a1_0 a1_1 a2_0 a2_1))) else (impl_HandicapFor.j0 k a0 a3 true a1_0 a1_1 a2_0 a2_1))


def impl_HandicapFor.T4 : Bool × List (List Nat × List Nat) := (true, [([], []), ([], []), ([0, 1], [0, 1]), ([], []), ([], []), ([3, 4, 2], [3, 4]), ([2, 5], [2, 5]), ([6, 5, 0, 1, 2, 3, 4, 5, 6], [6]), ([7, 0, 1, 2, 3, 4, 5, 6, 7], [])])
def impl_HandicapFor.B4 : List Nat := [0, 0, 3, 0, 0, 31, 63, 127, 255]
theorem impl_HandicapFor.tab4 : rtab .any (opsOf Tryz.f20 4) = impl_HandicapFor.T4 := by kernel_rfl
theorem impl_HandicapFor.bits4 : waitsOk impl_HandicapFor.T4.2 impl_HandicapFor.B4 = true := by kernel_rfl
set_option maxHeartbeats 8000000 in
set_option maxRecDepth 100000 in
theorem impl_HandicapFor.calls (k : Nat) (a0 : Int) (a1_0 : Int) (a1_1 : Int) (a2_0 : Int) (a2_1 : Int) (a3 : Int) (r1 : Int) (r2 : Bool) (w : World) (h : impl_HandicapFor.f k a0 a1_0 a1_1 a2_0 a2_1 a3 = some (r1, r2)) :
  Calls Tryz.prog 20 #[.int .i64 a0, .agg #[.int .i64 a1_0, .int .i64 a1_1], .agg #[.int .i64 a2_0, .int .i64 a2_1], .int .i64 a3] w fun e w' => e = .returned (.tuple #[.int .i64 r1, .bool r2]) ∧ Below w.heap.size w w' := by
 have hu35 := Tryz.underlying35
 have HB := A_ (Below.refl w.heap.size w)
 have H := h
 unfold impl_HandicapFor.f at H
 clear h
 have HC5 := A_ H
 clear H
 go_enter Tryz.func20, Tryz.ntmps20
 go_upto_region 1 with (first | ((with_reducible refine gate_dst (N := 5) rfl ?_); refine be_ 5 #[.int .i64 a1_0, .int .i64 a1_1] 35 ?_; intro gb389 hg w6 hbox hb; have BK389 := A_ hbox; have GW389 := A_ (bz_ (w := w) hg); have GE389 := A_ (bz_ (w := w) hg); replace HB := A_ (below_step bw_ hb); clear hb hbox hg) | ((with_reducible refine gate_dst (N := 6) rfl ?_); refine be_ 6 #[.int .i64 a2_0, .int .i64 a2_1] 35 ?_; intro gb390 hg w7 hbox hb; have BK390 := A_ hbox; have GW390 := A_ (bz_ (w := w) hg); have GE390 := A_ (bz_ (w := w) hg); have NB389_390 := A_ (nl_ BK389.out hg); have NB390_389 := A_ (ng_ BK389.out hg); replace HB := A_ (below_step bw_ hb); replace BK389 := A_ (bb_ BK389.out hb); clear hb hbox hg))
 (try simp only [Act.put, List.setIfInBounds_toArray, List.set_cons_zero, List.set_cons_succ])
 go_cut [30] (fun v30 wc => ∃ (kq : Nat) (x30_4 : Bool), v30 = .bool x30_4 ∧ Aside0 (impl_HandicapFor.j0 kq a0 a3 x30_4 a1_0 a1_1 a2_0 a2_1 = some (r1, r2)) ∧ Aside0 (kq ≤ k) ∧ Aside0 (wc.heap[gb389]? = some (.cells #[.int .i64 a1_0, .int .i64 a1_1] 35 (0, 0))) ∧ Aside0 (wc.heap[gb390]? = some (.cells #[.int .i64 a2_0, .int .i64 a2_1] 35 (0, 0))) ∧ Aside0 (Below w.heap.size w wc))
 case first =>
  have H := HC5.out
  clear HC5
  obtain ⟨y391, hy391⟩ : ∃ y_ : List (S35), y_ = (([(⟨a1_0, a1_1⟩ : S35), (⟨a2_0, a2_1⟩ : S35)] : List (S35))) := ⟨_, rfl⟩
  replace H : ((impl_onTrack.f a0 y391).bind fun t394 => (if t394 = true then ((impl_areLaps.f a3).bind fun t395 => (if t395 = true then (if a1_1 = 0 then (none) else (impl_HandicapFor.j0 k a0 a3 ((Int.tmod (wrap64 (a3 * a0)) a1_1) != 0) a1_0 a1_1 a2_0 a2_1)) else (impl_HandicapFor.j0 k a0 a3 true a1_0 a1_1 a2_0 a2_1))) else (impl_HandicapFor.j0 k a0 a3 true a1_0 a1_1 a2_0 a2_1))) = some (r1, r2) := by first | (rw [hy391]; with_reducible exact H) | (have H2_ := (Option.bind_some _ _).symm.trans H; rw [hy391]; with_reducible exact H2_) | (have H2_ := (Option.bind_some _ _).symm.trans H; with_reducible exact H2_) | with_reducible exact H | (rw [hy391]; exact H) | exact H
  have Ny391 := A_ hy391
  clear hy391
  replace H := ob_ H
  obtain ⟨t394, A8, H⟩ := H
  (try dsimp only at H)
  by_cases c9 : t394 = true
  ·
   subst c9
   rw [if_pos rfl] at H
   replace H := ob_ H
   obtain ⟨t395, A10, H⟩ := H
   (try dsimp only at H)
   by_cases c11 : t395 = true
   ·
    subst c11
    rw [if_pos rfl] at H
    by_cases c12 : a1_1 = 0
    ·
     rw [if_pos c12] at H
     exact absurd H (by simp)
    ·
     rw [if_neg c12] at H
     have c12b0 : (a1_1 == 0) = false := beq_eq_false_iff_ne.mpr c12
     have c12b1 : (a1_1 != 0) = true := bne_iff_ne.mpr c12
     (first | rw [c12b0] | (simp only [i64_w, i32_w]; rw [c12b0]) | skip)
     have H' := A_ H
     clear H
     have hnb13 := NB389_390.out
     have hnc13 := NB390_389.out
     have hcz14_0 := hz_ BK389.out 0 (.int .i64 a1_0)
     have hcz14_1 := hz_ BK389.out 1 (.int .i64 a1_1)
     have hfz14_0 := blk_frozen BK389.out 0
     have hfz14_1 := blk_frozen BK389.out 1
     have hcz15_0 := hz_ BK390.out 0 (.int .i64 a2_0)
     have hcz15_1 := hz_ BK390.out 1 (.int .i64 a2_1)
     have hfz15_0 := blk_frozen BK390.out 0
     have hfz15_1 := blk_frozen BK390.out 1
     go_wp2_with (first | ((with_reducible refine gate_dst (N := 14) rfl ?_); refine Kd.R_lit k35 _ 35 ?hg (N := 14) ?hd (xs := ([(⟨a1_0, a1_1⟩ : S35), (⟨a2_0, a2_1⟩ : S35)] : List (S35))) (inner := [.int .i64 a1_0, .int .i64 a1_1, .int .i64 a2_0, .int .i64 a2_1]) (ok := fun _ => True) (okp := fun _ => True) ?hr ?hp (fun _ hk => hk) trivial (Below.refl _ _) (Nat.le_refl _) (by simp) ?_; (case hd => rfl); (case hg => rfl); (case hr => first | (go_simp; done) | (go_simp; rfl)); (case hp => exact (Reps.c2 (show Kd.M k35 _ _ _ (⟨a1_0, a1_1⟩ : S35) [.int .i64 a1_0, .int .i64 a1_1] from (k35_mkM _ _ _ (⟨a1_0, a1_1⟩ : S35) )) (Reps.c2 (show Kd.M k35 _ _ _ (⟨a2_0, a2_1⟩ : S35) [.int .i64 a2_0, .int .i64 a2_1] from (k35_mkM _ _ _ (⟨a2_0, a2_1⟩ : S35) )) (Reps.none _ _)))); intro v392 w16 ho17 hb hg_ hnew_; clear hg_ hnew_; (first | rw [← Ny391.out] at ho17 | (simp only [Int.reduceToNat] at ho17; rw [← Ny391.out] at ho17)); have HO393 := A_ (Kd.R_lower (Kd.R_newB (Kd.R_newB ho17 (g := gb389) (o := .cells #[.int .i64 a1_0, .int .i64 a1_1] 35 (0, 0)) bk_) (g := gb390) (o := .cells #[.int .i64 a2_0, .int .i64 a2_1] 35 (0, 0)) bk_) (below_size bw_)); replace HB := A_ (below_step bw_ hb); replace BK389 := A_ (bb_ BK389.out hb); replace BK390 := A_ (bb_ BK390.out hb); clear hb ho17; obtain ⟨Ao18, co18, eo18⟩ := Kd.R_slice HO393.out; subst eo18) | ((with_reducible refine gate_callee (f := 52) rfl ?_); refine gl_ (some 15) Tryz.func52 #[.int .i64 a0, .slice Ao18 y391.length co18] ?_; (with_reducible refine (impl_onTrack.calls a0 _ _ y391 true _ ?side1 ?side2 A8.out).mono ?_); (case side1 => repeat (first | exact (Kd.R_reads' HO393.out).2.2 | (with_reducible refine Kd.C_alloc ?_ _) | (with_reducible refine Kd.C_drewN ?_ _) | (with_reducible refine Kd.C_drew ?_))); (case side2 => exact (Kd.R_reads' HO393.out).2.1); rintro e w19 ⟨rfl, hb⟩; refine ⟨_, rfl, ?_⟩; replace HB := A_ (below_step bw_ hb); replace BK389 := A_ (bb_ BK389.out hb); replace BK390 := A_ (bb_ BK390.out hb); replace HO393 := A_ (Kd.R_below (by (with_reducible repeat (first | apply Kd.R_alloc | apply Kd.R_drewN | apply Kd.R_drew)); exact HO393.out) hb); (try clear hb)) | (go_at_call 65; (with_reducible refine (impl_areLaps.calls a3 true _ A10.out).mono ?_); rintro e w' ⟨rfl, ⟨nd, rfl⟩⟩; have hcz20_0 := hz_ BK389.out 0 (.int .i64 a1_0); have hcz20_1 := hz_ BK389.out 1 (.int .i64 a1_1); have hfz20_0 := blk_frozen BK389.out 0; have hfz20_1 := blk_frozen BK389.out 1))
     go_meet
     case rel => exact ⟨_, (((Int.tmod (wrap64 (a3 * a0)) a1_1) != 0)), (rs_), H', ⟨by first | omega | exact Nat.le_refl _⟩, ⟨bk_⟩, ⟨bk_⟩, ⟨bw_⟩⟩
   ·
    replace c11 := Bool.eq_false_iff.mpr c11
    subst c11
    rw [if_neg (show ¬ (false = true) by decide)] at H
    have H' := A_ H
    clear H
    have hnb21 := NB389_390.out
    have hnc21 := NB390_389.out
    have hcz22_0 := hz_ BK389.out 0 (.int .i64 a1_0)
    have hcz22_1 := hz_ BK389.out 1 (.int .i64 a1_1)
    have hfz22_0 := blk_frozen BK389.out 0
    have hfz22_1 := blk_frozen BK389.out 1
    have hcz23_0 := hz_ BK390.out 0 (.int .i64 a2_0)
    have hcz23_1 := hz_ BK390.out 1 (.int .i64 a2_1)
    have hfz23_0 := blk_frozen BK390.out 0
    have hfz23_1 := blk_frozen BK390.out 1
    go_wp2_with (first | ((with_reducible refine gate_dst (N := 14) rfl ?_); refine Kd.R_lit k35 _ 35 ?hg (N := 14) ?hd (xs := ([(⟨a1_0, a1_1⟩ : S35), (⟨a2_0, a2_1⟩ : S35)] : List (S35))) (inner := [.int .i64 a1_0, .int .i64 a1_1, .int .i64 a2_0, .int .i64 a2_1]) (ok := fun _ => True) (okp := fun _ => True) ?hr ?hp (fun _ hk => hk) trivial (Below.refl _ _) (Nat.le_refl _) (by simp) ?_; (case hd => rfl); (case hg => rfl); (case hr => first | (go_simp; done) | (go_simp; rfl)); (case hp => exact (Reps.c2 (show Kd.M k35 _ _ _ (⟨a1_0, a1_1⟩ : S35) [.int .i64 a1_0, .int .i64 a1_1] from (k35_mkM _ _ _ (⟨a1_0, a1_1⟩ : S35) )) (Reps.c2 (show Kd.M k35 _ _ _ (⟨a2_0, a2_1⟩ : S35) [.int .i64 a2_0, .int .i64 a2_1] from (k35_mkM _ _ _ (⟨a2_0, a2_1⟩ : S35) )) (Reps.none _ _)))); intro v392 w24 ho25 hb hg_ hnew_; clear hg_ hnew_; (first | rw [← Ny391.out] at ho25 | (simp only [Int.reduceToNat] at ho25; rw [← Ny391.out] at ho25)); have HO393 := A_ (Kd.R_lower (Kd.R_newB (Kd.R_newB ho25 (g := gb389) (o := .cells #[.int .i64 a1_0, .int .i64 a1_1] 35 (0, 0)) bk_) (g := gb390) (o := .cells #[.int .i64 a2_0, .int .i64 a2_1] 35 (0, 0)) bk_) (below_size bw_)); replace HB := A_ (below_step bw_ hb); replace BK389 := A_ (bb_ BK389.out hb); replace BK390 := A_ (bb_ BK390.out hb); clear hb ho25; obtain ⟨Ao26, co26, eo26⟩ := Kd.R_slice HO393.out; subst eo26) | ((with_reducible refine gate_callee (f := 52) rfl ?_); refine gl_ (some 15) Tryz.func52 #[.int .i64 a0, .slice Ao26 y391.length co26] ?_; (with_reducible refine (impl_onTrack.calls a0 _ _ y391 true _ ?side1 ?side2 A8.out).mono ?_); (case side1 => repeat (first | exact (Kd.R_reads' HO393.out).2.2 | (with_reducible refine Kd.C_alloc ?_ _) | (with_reducible refine Kd.C_drewN ?_ _) | (with_reducible refine Kd.C_drew ?_))); (case side2 => exact (Kd.R_reads' HO393.out).2.1); rintro e w27 ⟨rfl, hb⟩; refine ⟨_, rfl, ?_⟩; replace HB := A_ (below_step bw_ hb); replace BK389 := A_ (bb_ BK389.out hb); replace BK390 := A_ (bb_ BK390.out hb); replace HO393 := A_ (Kd.R_below (by (with_reducible repeat (first | apply Kd.R_alloc | apply Kd.R_drewN | apply Kd.R_drew)); exact HO393.out) hb); (try clear hb)) | (go_at_call 65; (with_reducible refine (impl_areLaps.calls a3 false _ A10.out).mono ?_); rintro e w' ⟨rfl, ⟨nd, rfl⟩⟩))
    go_meet
    case rel => exact ⟨_, (true), (rs_), H', ⟨by first | omega | exact Nat.le_refl _⟩, ⟨bk_⟩, ⟨bk_⟩, ⟨bw_⟩⟩
  ·
   replace c9 := Bool.eq_false_iff.mpr c9
   subst c9
   rw [if_neg (show ¬ (false = true) by decide)] at H
   have H' := A_ H
   clear H
   have hnb28 := NB389_390.out
   have hnc28 := NB390_389.out
   have hcz29_0 := hz_ BK389.out 0 (.int .i64 a1_0)
   have hcz29_1 := hz_ BK389.out 1 (.int .i64 a1_1)
   have hfz29_0 := blk_frozen BK389.out 0
   have hfz29_1 := blk_frozen BK389.out 1
   have hcz30_0 := hz_ BK390.out 0 (.int .i64 a2_0)
   have hcz30_1 := hz_ BK390.out 1 (.int .i64 a2_1)
   have hfz30_0 := blk_frozen BK390.out 0
   have hfz30_1 := blk_frozen BK390.out 1
   go_wp2_with (first | ((with_reducible refine gate_dst (N := 14) rfl ?_); refine Kd.R_lit k35 _ 35 ?hg (N := 14) ?hd (xs := ([(⟨a1_0, a1_1⟩ : S35), (⟨a2_0, a2_1⟩ : S35)] : List (S35))) (inner := [.int .i64 a1_0, .int .i64 a1_1, .int .i64 a2_0, .int .i64 a2_1]) (ok := fun _ => True) (okp := fun _ => True) ?hr ?hp (fun _ hk => hk) trivial (Below.refl _ _) (Nat.le_refl _) (by simp) ?_; (case hd => rfl); (case hg => rfl); (case hr => first | (go_simp; done) | (go_simp; rfl)); (case hp => exact (Reps.c2 (show Kd.M k35 _ _ _ (⟨a1_0, a1_1⟩ : S35) [.int .i64 a1_0, .int .i64 a1_1] from (k35_mkM _ _ _ (⟨a1_0, a1_1⟩ : S35) )) (Reps.c2 (show Kd.M k35 _ _ _ (⟨a2_0, a2_1⟩ : S35) [.int .i64 a2_0, .int .i64 a2_1] from (k35_mkM _ _ _ (⟨a2_0, a2_1⟩ : S35) )) (Reps.none _ _)))); intro v392 w31 ho32 hb hg_ hnew_; clear hg_ hnew_; (first | rw [← Ny391.out] at ho32 | (simp only [Int.reduceToNat] at ho32; rw [← Ny391.out] at ho32)); have HO393 := A_ (Kd.R_lower (Kd.R_newB (Kd.R_newB ho32 (g := gb389) (o := .cells #[.int .i64 a1_0, .int .i64 a1_1] 35 (0, 0)) bk_) (g := gb390) (o := .cells #[.int .i64 a2_0, .int .i64 a2_1] 35 (0, 0)) bk_) (below_size bw_)); replace HB := A_ (below_step bw_ hb); replace BK389 := A_ (bb_ BK389.out hb); replace BK390 := A_ (bb_ BK390.out hb); clear hb ho32; obtain ⟨Ao33, co33, eo33⟩ := Kd.R_slice HO393.out; subst eo33) | ((with_reducible refine gate_callee (f := 52) rfl ?_); refine gl_ (some 15) Tryz.func52 #[.int .i64 a0, .slice Ao33 y391.length co33] ?_; (with_reducible refine (impl_onTrack.calls a0 _ _ y391 false _ ?side1 ?side2 A8.out).mono ?_); (case side1 => repeat (first | exact (Kd.R_reads' HO393.out).2.2 | (with_reducible refine Kd.C_alloc ?_ _) | (with_reducible refine Kd.C_drewN ?_ _) | (with_reducible refine Kd.C_drew ?_))); (case side2 => exact (Kd.R_reads' HO393.out).2.1); rintro e w34 ⟨rfl, hb⟩; refine ⟨_, rfl, ?_⟩; replace HB := A_ (below_step bw_ hb); replace BK389 := A_ (bb_ BK389.out hb); replace BK390 := A_ (bb_ BK390.out hb); replace HO393 := A_ (Kd.R_below (by (with_reducible repeat (first | apply Kd.R_alloc | apply Kd.R_drewN | apply Kd.R_drew)); exact HO393.out) hb); (try clear hb)))
   go_meet
   case rel => exact ⟨_, (true), (rs_), H', ⟨by first | omega | exact Nat.le_refl _⟩, ⟨bk_⟩, ⟨bk_⟩, ⟨bw_⟩⟩
 case rest =>
  clear HC5
  try clear c1
  try clear c2
  try clear p2
  try clear c5
  try clear p6
  try clear c9
  try clear c11
  try clear c12
  try clear c12b0
  try clear c12b1
  try clear c13
  try clear c20
  try clear c21
  try clear c28
  try clear hcz14_0
  try clear hcz14_1
  try clear hcz15_0
  try clear hcz15_1
  try clear hcz20_0
  try clear hcz20_1
  try clear hcz22_0
  try clear hcz22_1
  try clear hcz23_0
  try clear hcz23_1
  try clear hcz29_0
  try clear hcz29_1
  try clear hcz30_0
  try clear hcz30_1
  try clear hfz14_0
  try clear hfz14_1
  try clear hfz15_0
  try clear hfz15_1
  try clear hfz20_0
  try clear hfz20_1
  try clear hfz22_0
  try clear hfz22_1
  try clear hfz23_0
  try clear hfz23_1
  try clear hfz29_0
  try clear hfz29_1
  try clear hfz30_0
  try clear hfz30_1
  obtain ⟨kq, x30_4, rfl, HA, HJ4, BK389, BK390, HB⟩ := hcut
  cases kq with
    | zero => exact absurd HA.out (by simp [impl_HandicapFor.j0])
    | succ kj4 =>
   have H := HA.out
   clear HA
   simp only [impl_HandicapFor.j0] at H
   by_cases c35 : x30_4 = true
   ·
    subst c35
    rw [if_pos rfl] at H
    simp only [Option.some.injEq, Prod.mk.injEq] at H
    obtain ⟨rfl, rfl⟩ := H
    go_wp2
    go_ret2
    exact ⟨rt_, bw_⟩
   ·
    replace c35 := Bool.eq_false_iff.mpr c35
    subst c35
    rw [if_neg (show ¬ (false = true) by decide)] at H
    by_cases c36 : a1_1 = 0
    ·
     rw [if_pos c36] at H
     exact absurd H (by simp)
    ·
     rw [if_neg c36] at H
     have c36b0 : (a1_1 == 0) = false := beq_eq_false_iff_ne.mpr c36
     have c36b1 : (a1_1 != 0) = true := bne_iff_ne.mpr c36
     replace H := ob_ H
     obtain ⟨t396, A37, H⟩ := H
     (try dsimp only at H)
     replace H := ob_ H
     obtain ⟨t397, A38, H⟩ := H
     (try dsimp only at H)
     simp only [Option.some.injEq, Prod.mk.injEq] at H
     obtain ⟨rfl, rfl⟩ := H
     have hnb39 := NB389_390.out
     have hnc39 := NB390_389.out
     have hcz40_0 := hz_ BK389.out 0 (.int .i64 a1_0)
     have hcz40_1 := hz_ BK389.out 1 (.int .i64 a1_1)
     have hfz40_0 := blk_frozen BK389.out 0
     have hfz40_1 := blk_frozen BK389.out 1
     try go_wp2
     replace BK389 := A_ (blk_drew BK389.out)
     replace BK390 := A_ (blk_drew BK390.out)
     replace HB := A_ (below_drew1 HB.out)
     refine start_ (n := 9) (S := fun w' => w'.cell? ⟨gb389, 0, none⟩ = some (.int .i64 a1_0) ∧ w'.cell? ⟨gb389, 1, none⟩ = some (.int .i64 a1_1) ∧ w'.cell? ⟨gb390, 0, none⟩ = some (.int .i64 a2_0) ∧ w'.cell? ⟨gb390, 1, none⟩ = some (.int .i64 a2_1)) (ds := []) #[false, false, false, false, false, false, false, false, false] (by kernel_rfl) rfl rfl ⟨(blk_cell BK389.out 0).trans rfl, (blk_cell BK389.out 1).trans rfl, (blk_cell BK390.out 0).trans rfl, (blk_cell BK390.out 1).trans rfl⟩ (fun hHeld => ?_); refine with_tabW impl_HandicapFor.tab4 impl_HandicapFor.bits4 (fun HT_ HW_ => ?_)
     generalize wc.drew = w41 at BK389 BK390 HB hHeld ⊢
     refine pu_ 1 38 9 2 ?_
     refine pu_ 4 41 9 18 ?_
     refine tk_ 0 37 9 19 hHeld ?_
     refine tk_ 3 40 9 27 hHeld ?_
     refine one_ (i := 2) (N := some 39) (pm_ 9 31) rfl rfl (one_of HT_.out (by kernel_rfl)) (by decide) (fun K hK => ?_)
     refine goes_ Tryz.func47 (by kernel_rfl) rfl #[.agg #[.int .i64 a1_0, .int .i64 a1_1], .int .i64 (wrap64 (Int.tdiv (wrap64 (a3 * a0)) a1_1))] (by rfl) rfl rfl (by (try simp only [List.map_toArray, List.map_cons, List.map_nil]); first | done | rfl | (simp only [List.length_drop, List.length_take]; rfl)) ?_
     with_reducible refine (impl_farAt.calls a1_0 a1_1 (wrap64 (Int.tdiv (wrap64 (a3 * a0)) a1_1)) t396 _ A37.out).mono ?_
     rintro e w42 ⟨rfl, hb⟩
     refine ⟨_, rfl, ?_⟩
     replace HB := A_ (below_step bw_ hb)
     replace BK389 := A_ (bb_ BK389.out hb)
     replace BK390 := A_ (bb_ BK390.out hb)
     (try clear hb)
     (try clear hb2)
     (try clear hk)
     (try clear hi)
     refine hK.out _ _ ⟨(blk_cell BK389.out 0).trans rfl, (blk_cell BK389.out 1).trans rfl, (blk_cell BK390.out 0).trans rfl, (blk_cell BK390.out 1).trans rfl⟩ (fun hHeld => ?_)
     clear hK K
     refine norm_ (a' := ?_) ?_ ?_
     rotate_left
     ·
      show Act.put _ (some 39) _ = _
      simp only [Act.put, List.setIfInBounds_toArray, List.set_cons_zero, List.set_cons_succ, i64_w, i32_w]
      rfl
     refine one_ (i := 5) (N := some 42) (pm_ 9 63) rfl rfl (one_of HT_.out (by kernel_rfl)) (by decide) (fun K hK => ?_)
     refine goes_ Tryz.func47 (by kernel_rfl) rfl #[.agg #[.int .i64 a2_0, .int .i64 a2_1], .int .i64 (wrap64 (Int.tdiv (wrap64 (a3 * a0)) a1_1))] (by rfl) rfl rfl (by (try simp only [List.map_toArray, List.map_cons, List.map_nil]); first | done | rfl | (simp only [List.length_drop, List.length_take]; rfl)) ?_
     with_reducible refine (impl_farAt.calls a2_0 a2_1 (wrap64 (Int.tdiv (wrap64 (a3 * a0)) a1_1)) t397 _ A38.out).mono ?_
     rintro e w43 ⟨rfl, hb⟩
     refine ⟨_, rfl, ?_⟩
     replace HB := A_ (below_step bw_ hb)
     replace BK389 := A_ (bb_ BK389.out hb)
     replace BK390 := A_ (bb_ BK390.out hb)
     (try clear hb)
     (try clear hb2)
     (try clear hk)
     (try clear hi)
     refine hK.out _ _ ⟨(blk_cell BK389.out 0).trans rfl, (blk_cell BK389.out 1).trans rfl, (blk_cell BK390.out 0).trans rfl, (blk_cell BK390.out 1).trans rfl⟩ (fun hHeld => ?_)
     clear hK K
     refine norm_ (a' := ?_) ?_ ?_
     rotate_left
     ·
      show Act.put _ (some 42) _ = _
      simp only [Act.put, List.setIfInBounds_toArray, List.set_cons_zero, List.set_cons_succ, i64_w, i32_w]
      rfl
     refine pu_ 6 43 9 127 ?_
     refine pu_ 7 8 9 255 ?_
     refine pu_ 8 9 9 511 ?_
     refine done_ (done_of HT_.out (by kernel_rfl)) ?_
     try go_wp2
     go_ret2
     exact ⟨rt_, bw_⟩

/-! ### spec_trTwo: function 66 -/
def spec_trTwo.f (a0 : Int) (a1_0 : Int) (a1_1 : Int) (a2_0 : Int) (a2_1 : Int) : Option (Bool) := (spec_trRunner.f a0 a1_0 a1_1).bind fun t400 => (if t400 = true then ((spec_trRunner.f a0 a2_0 a2_1).bind fun t401 => (some t401)) else (some false))
set_option maxHeartbeats 8000000 in
set_option maxRecDepth 100000 in
theorem spec_trTwo.calls (a0 : Int) (a1_0 : Int) (a1_1 : Int) (a2_0 : Int) (a2_1 : Int) (r : Bool) (w : World) (h : spec_trTwo.f a0 a1_0 a1_1 a2_0 a2_1 = some r) :
  Calls Tryz.prog 66 #[.int .i64 a0, .agg #[.int .i64 a1_0, .int .i64 a1_1], .agg #[.int .i64 a2_0, .int .i64 a2_1]] w fun e w' => e = .returned (.bool r) ∧ Below w.heap.size w w' := by
 have hu35 := Tryz.underlying35
 have HB := A_ (Below.refl w.heap.size w)
 have H := h
 unfold spec_trTwo.f at H
 clear h
 replace H := ob_ H
 obtain ⟨t400, A4, H⟩ := H
 (try dsimp only at H)
 by_cases c5 : t400 = true
 ·
  subst c5
  rw [if_pos rfl] at H
  replace H := Option.bind_eq_some_iff.mp H
  obtain ⟨t401, A60, H⟩ := H
  replace H : (some t401) = some r := H
  have A6 := A_ A60
  clear A60
  obtain rfl := Option.some.inj H
  go_enter Tryz.func66, Tryz.ntmps66
  go_wp2_with (first | ((with_reducible refine gate_dst (N := 4) rfl ?_); refine be_ 4 #[.int .i64 a1_0, .int .i64 a1_1] 35 ?_; intro gb398 hg w7 hbox hb; have BK398 := A_ hbox; have GW398 := A_ (bz_ (w := w) hg); have GE398 := A_ (bz_ (w := w) hg); replace HB := A_ (below_step bw_ hb); clear hb hbox hg) | ((with_reducible refine gate_dst (N := 5) rfl ?_); refine be_ 5 #[.int .i64 a2_0, .int .i64 a2_1] 35 ?_; intro gb399 hg w8 hbox hb; have BK399 := A_ hbox; have GW399 := A_ (bz_ (w := w) hg); have GE399 := A_ (bz_ (w := w) hg); have NB398_399 := A_ (nl_ BK398.out hg); have NB399_398 := A_ (ng_ BK398.out hg); replace HB := A_ (below_step bw_ hb); replace BK398 := A_ (bb_ BK398.out hb); clear hb hbox hg; have hnb9 := NB398_399.out; have hnc9 := NB399_398.out; have hcz10_0 := hz_ BK398.out 0 (.int .i64 a1_0); have hcz10_1 := hz_ BK398.out 1 (.int .i64 a1_1); have hfz10_0 := blk_frozen BK398.out 0; have hfz10_1 := blk_frozen BK398.out 1) | ((with_reducible refine gate_callee (f := 54) rfl ?_); refine gl_ (some 9) Tryz.func54 #[.int .i64 a0, .agg #[.int .i64 a1_0, .int .i64 a1_1]] ?_; (with_reducible refine (spec_trRunner.calls a0 a1_0 a1_1 true _ A4.out).mono ?_); rintro e w11 ⟨rfl, hb⟩; refine ⟨_, rfl, ?_⟩; replace HB := A_ (below_step bw_ hb); replace BK398 := A_ (bb_ BK398.out hb); replace BK399 := A_ (bb_ BK399.out hb); (try clear hb); have hcz12_0 := hz_ BK399.out 0 (.int .i64 a2_0); have hcz12_1 := hz_ BK399.out 1 (.int .i64 a2_1); have hfz12_0 := blk_frozen BK399.out 0; have hfz12_1 := blk_frozen BK399.out 1) | (go_at_call 54; (with_reducible refine (spec_trRunner.calls a0 a2_0 a2_1 t401 _ A6.out).mono ?_); rintro e w13 ⟨rfl, hb⟩; replace HB := A_ (below_step bw_ hb); replace BK398 := A_ (bb_ BK398.out hb); replace BK399 := A_ (bb_ BK399.out hb); (try clear hb)))
  go_ret
  exact ⟨rt_, bw_⟩
 ·
  replace c5 := Bool.eq_false_iff.mpr c5
  subst c5
  rw [if_neg (show ¬ (false = true) by decide)] at H
  obtain rfl := Option.some.inj H
  go_enter Tryz.func66, Tryz.ntmps66
  go_wp2_with (first | ((with_reducible refine gate_dst (N := 4) rfl ?_); refine be_ 4 #[.int .i64 a1_0, .int .i64 a1_1] 35 ?_; intro gb398 hg w14 hbox hb; have BK398 := A_ hbox; have GW398 := A_ (bz_ (w := w) hg); have GE398 := A_ (bz_ (w := w) hg); replace HB := A_ (below_step bw_ hb); clear hb hbox hg) | ((with_reducible refine gate_dst (N := 5) rfl ?_); refine be_ 5 #[.int .i64 a2_0, .int .i64 a2_1] 35 ?_; intro gb399 hg w15 hbox hb; have BK399 := A_ hbox; have GW399 := A_ (bz_ (w := w) hg); have GE399 := A_ (bz_ (w := w) hg); have NB398_399 := A_ (nl_ BK398.out hg); have NB399_398 := A_ (ng_ BK398.out hg); replace HB := A_ (below_step bw_ hb); replace BK398 := A_ (bb_ BK398.out hb); clear hb hbox hg; have hnb16 := NB398_399.out; have hnc16 := NB399_398.out; have hcz17_0 := hz_ BK398.out 0 (.int .i64 a1_0); have hcz17_1 := hz_ BK398.out 1 (.int .i64 a1_1); have hfz17_0 := blk_frozen BK398.out 0; have hfz17_1 := blk_frozen BK398.out 1) | ((with_reducible refine gate_callee (f := 54) rfl ?_); refine gl_ (some 9) Tryz.func54 #[.int .i64 a0, .agg #[.int .i64 a1_0, .int .i64 a1_1]] ?_; (with_reducible refine (spec_trRunner.calls a0 a1_0 a1_1 false _ A4.out).mono ?_); rintro e w18 ⟨rfl, hb⟩; refine ⟨_, rfl, ?_⟩; replace HB := A_ (below_step bw_ hb); replace BK398 := A_ (bb_ BK398.out hb); replace BK399 := A_ (bb_ BK399.out hb); (try clear hb)))
  go_ret
  exact ⟨rt_, bw_⟩

end Go.Proofs.YtfkieckkmcibbaaGreatDoor.PFnRunnersRun
