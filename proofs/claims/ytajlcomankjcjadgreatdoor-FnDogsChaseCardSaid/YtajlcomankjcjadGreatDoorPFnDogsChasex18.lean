-- Laid by a program of this session's (wip/gen/printp.sh): the functions that the law reaches, each with its walk.
import Derived.Test.YtajlcomankjcjadGreatDoorPFnDogsChasex0
import Derived.Test.YtajlcomankjcjadGreatDoorPFnDogsChasex1
import Derived.Test.YtajlcomankjcjadGreatDoorPFnDogsChasex2
import Derived.Test.YtajlcomankjcjadGreatDoorPFnDogsChasex5
import Derived.Test.YtajlcomankjcjadGreatDoorPFnDogsChasex6
import Derived.Test.YtajlcomankjcjadGreatDoorPFnDogsChasex8
import Derived.Test.YtajlcomankjcjadGreatDoorPFnDogsChasex9
import Derived.Test.YtajlcomankjcjadGreatDoorPFnDogsChasex10
import Derived.Test.YtajlcomankjcjadGreatDoorPFnDogsChasex11
import Derived.Test.YtajlcomankjcjadGreatDoorPFnDogsChasex12
import Derived.Test.YtajlcomankjcjadGreatDoorPFnDogsChasex13
import Derived.Test.YtajlcomankjcjadGreatDoorPFnDogsChasex16
import Derived.Test.YtajlcomankjcjadGreatDoorPFnDogsChasex17
namespace Go.Proofs.YtajlcomankjcjadGreatDoor.PFnDogsChase
open Go.RowKit Go.Proofs.YtajlcomankjcjadGreatDoorW.PrintWords Go.Proofs.YtajlcomankjcjadGreatDoorW.PrintLast Go.Proofs.YtajlcomankjcjadGreatDoorW.PrintMore
attribute [local go_sem] max2_int min2_int max_two min_two max_three min_three max_four min_four   -- for this text's walks alone
set_option linter.unusedVariables false
set_option linter.unusedSimpArgs false

attribute [local go_sem high] eqA25
set_option maxHeartbeats 80000000 in
set_option maxRecDepth 100000 in
theorem laws_FnDogsChase.calls (k : Nat) (A0 : Option Addr) (c0 : Nat) (l0 : List Int) (A1 : Option Addr) (c1 : Nat) (l1 : List Int) (r : Bool) (w : World) (hr0 : Kd.C (Kd.int .u8) w A0 l0.length l0) (hc0 : l0.length ≤ c0) (hr1 : Kd.C (Kd.int .u8) w A1 l1.length l1) (hc1 : l1.length ≤ c1) (h : laws_FnDogsChase.f k l0 l1 = some r) (hrt : r = true) (hL0 : LaidA w := by first | (with_reducible exact hL0) | exact LaidA.below hL0 (by repeat (first | (with_reducible first | exact HB.out | apply below_alloc | apply pw_below_drewN | apply below_drew1 | refine below_set ?_ (Nat.le_refl _) | refine below_set ?_ (Aside0.out (by assumption))) | exact HB.out | exact Below.refl _ _))) :
  Calls Tryz.prog 3 #[.slice A0 l0.length c0, .slice A1 l1.length c1] w fun e w' => e = .returned (.bool r) ∧ Below w.heap.size w w' := by
 have HRT := Aside0.mk hrt
 clear hrt
 have hu25 := Tryz.underlying25
 have HR0 := Aside0.mk hr0
 have HC0 := Aside0.mk hc0
 clear hr0 hc0
 have HR1 := Aside0.mk hr1
 have HC1 := Aside0.mk hc1
 clear hr1 hc1
 have HB := Aside0.mk (Below.refl w.heap.size w)
 have H := h
 unfold laws_FnDogsChase.f at H
 clear h
 replace H := Option.bind_eq_some_iff.mp H
 obtain ⟨t519, A30, H⟩ := H
 (try dsimp only at H)
 have A3 := Aside0.mk A30
 clear A30
 by_cases c4 : t519 = true
 ·
  subst c4
  rw [if_pos rfl] at H
  obtain rfl := Option.some.inj H
  go_enter Tryz.func3, Tryz.ntmps3
  go_wp2_with (first | (go_at_call 4; (with_reducible refine (laws_big.calls _ _ l0 _ _ l1 true _ ?side1 ?side2 ?side3 ?side4 A3.out).mono ?_); (case side1 => repeat (first | exact HR0.out | (with_reducible refine Kd.C_alloc ?_ _) | (with_reducible refine Kd.C_drewN ?_ _) | (with_reducible refine Kd.C_drew ?_))); (case side2 => exact HC0.out); (case side3 => repeat (first | exact HR1.out | (with_reducible refine Kd.C_alloc ?_ _) | (with_reducible refine Kd.C_drewN ?_ _) | (with_reducible refine Kd.C_drew ?_))); (case side4 => exact HC1.out); rintro e w' ⟨rfl, ⟨nd, rfl⟩⟩; (try first | exact ⟨rfl, _, World.drewN_drewN _ _ _⟩ | exact ⟨rfl, _, Eq.trans (World.drewN_drewN _ _ _) (congrArg (World.drewN _) (Nat.add_assoc _ _ _))⟩)))
  repeat (go_quiet (first | (go_at_call 4; (with_reducible refine (laws_big.calls _ _ l0 _ _ l1 true _ ?side1 ?side2 ?side3 ?side4 A3.out).mono ?_); (case side1 => repeat (first | exact HR0.out | (with_reducible refine Kd.C_alloc ?_ _) | (with_reducible refine Kd.C_drewN ?_ _) | (with_reducible refine Kd.C_drew ?_))); (case side2 => exact HC0.out); (case side3 => repeat (first | exact HR1.out | (with_reducible refine Kd.C_alloc ?_ _) | (with_reducible refine Kd.C_drewN ?_ _) | (with_reducible refine Kd.C_drew ?_))); (case side4 => exact HC1.out); rintro e w' ⟨rfl, ⟨nd, rfl⟩⟩; (try first | exact ⟨rfl, _, World.drewN_drewN _ _ _⟩ | exact ⟨rfl, _, Eq.trans (World.drewN_drewN _ _ _) (congrArg (World.drewN _) (Nat.add_assoc _ _ _))⟩))); try go_wp2_with (first | (go_at_call 4; (with_reducible refine (laws_big.calls _ _ l0 _ _ l1 true _ ?side1 ?side2 ?side3 ?side4 A3.out).mono ?_); (case side1 => repeat (first | exact HR0.out | (with_reducible refine Kd.C_alloc ?_ _) | (with_reducible refine Kd.C_drewN ?_ _) | (with_reducible refine Kd.C_drew ?_))); (case side2 => exact HC0.out); (case side3 => repeat (first | exact HR1.out | (with_reducible refine Kd.C_alloc ?_ _) | (with_reducible refine Kd.C_drewN ?_ _) | (with_reducible refine Kd.C_drew ?_))); (case side4 => exact HC1.out); rintro e w' ⟨rfl, ⟨nd, rfl⟩⟩; (try first | exact ⟨rfl, _, World.drewN_drewN _ _ _⟩ | exact ⟨rfl, _, Eq.trans (World.drewN_drewN _ _ _) (congrArg (World.drewN _) (Nat.add_assoc _ _ _))⟩))))
  go_ret
  exact ⟨rt_, bw_⟩
 ·
  replace c4 := Bool.eq_false_iff.mpr c4
  subst c4
  rw [if_neg (show ¬ (false = true) by decide)] at H
  replace H := Option.bind_eq_some_iff.mp H
  obtain ⟨⟨t520, t521, t522, t523, t524, t525⟩, A50, H⟩ := H
  (try dsimp only at H)
  have A5 := Aside0.mk A50
  clear A50
  replace H := Option.bind_eq_some_iff.mp H
  obtain ⟨⟨t527, t528, t529⟩, A60, H⟩ := H
  (try dsimp only at H)
  have A6 := Aside0.mk A60
  clear A60
  replace H := Option.bind_eq_some_iff.mp H
  obtain ⟨⟨t530, t531, t532⟩, A70, H⟩ := H
  (try dsimp only at H)
  have A7 := Aside0.mk A70
  clear A70
  replace H := Option.bind_eq_some_iff.mp H
  obtain ⟨⟨t533, t534⟩, A80, H⟩ := H
  (try dsimp only at H)
  have A8 := Aside0.mk A80
  clear A80
  replace H := Option.bind_eq_some_iff.mp H
  obtain ⟨⟨t535, t536⟩, A90, H⟩ := H
  (try dsimp only at H)
  have A9 := Aside0.mk A90
  clear A90
  replace H := Option.bind_eq_some_iff.mp H
  obtain ⟨⟨t537, t538⟩, A100, H⟩ := H
  (try dsimp only at H)
  have A10 := Aside0.mk A100
  clear A100
  replace H := Option.bind_eq_some_iff.mp H
  obtain ⟨⟨t539, t540⟩, A110, H⟩ := H
  (try dsimp only at H)
  have A11 := Aside0.mk A110
  clear A110
  have HC12 := Aside0.mk H
  clear H
  go_enter Tryz.func3, Tryz.ntmps3
  go_upto_region 10 with (first | (go_at_call 4; (with_reducible refine (laws_big.calls _ _ l0 _ _ l1 false _ ?side1 ?side2 ?side3 ?side4 A3.out).mono ?_); (case side1 => repeat (first | exact HR0.out | (with_reducible refine Kd.C_alloc ?_ _) | (with_reducible refine Kd.C_drewN ?_ _) | (with_reducible refine Kd.C_drew ?_))); (case side2 => exact HC0.out); (case side3 => repeat (first | exact HR1.out | (with_reducible refine Kd.C_alloc ?_ _) | (with_reducible refine Kd.C_drewN ?_ _) | (with_reducible refine Kd.C_drew ?_))); (case side4 => exact HC1.out); rintro e w' ⟨rfl, ⟨nd, rfl⟩⟩; (try first | exact ⟨rfl, _, World.drewN_drewN _ _ _⟩ | exact ⟨rfl, _, Eq.trans (World.drewN_drewN _ _ _) (congrArg (World.drewN _) (Nat.add_assoc _ _ _))⟩)) | (go_at_call 5; (with_reducible refine (spec_DrawDogPlace.calls k _ _ l0 t520 t521 t522 t523 t524 t525 _ ?side1 ?side2 A5.out).mono ?_); (case side1 => repeat (first | exact HR0.out | (with_reducible refine Kd.C_alloc ?_ _) | (with_reducible refine Kd.C_drewN ?_ _) | (with_reducible refine Kd.C_drew ?_))); (case side2 => exact HC0.out); rintro e w13 ⟨rfl, hb⟩; have n0_ := Aside0.mk (below_step bw_ hb); clear HB; have HB := n0_; clear n0_; (try clear hb); (try clear hb2); (try clear hk); (try clear hi)) | ((with_reducible refine gate_dst (N := 5) rfl ?_); refine be_ 5 #[.int .i64 0, .int .i64 0, .int .i64 0, .int .i64 0] 25 ?_; intro gb526 hg w14 hbox hb; have n0_ := Aside0.mk (below_step bw_ hb); have n1_ := Aside0.mk (hbox); have n2_ := Aside0.mk (bz_ (w := w) hg); have n3_ := Aside0.mk (bz_ (w := w) hg); clear HB; have HB := n0_; have BK526 := n1_; have GW526 := n2_; have GE526 := n3_; clear n0_ n1_ n2_ n3_; clear hb hbox hg; obtain ⟨hcz15_0, hcz15_1, hcz15_2, hcz15_3, hfz15_0, hfz15_1, hfz15_2, hfz15_3⟩ := four_ BK526.out) | (go_at_call 6; (with_reducible refine (impl_DogPlace.calls k t520 t521 t522 t523 t524 t525 t527 t528 t529 _ A6.out).mono ?_); rintro e w16 ⟨rfl, hb⟩; have n0_ := Aside0.mk (blk_below (g := gb526) (o := .cells #[.int .i64 t520, .int .i64 t521, .int .i64 t522, .int .i64 t523] 25 (0, 0)) (by (with_reducible repeat (first | refine blk_drewN ?_ _ | refine blk_drew ?_ | refine blk_alloc ?_ _)); refine blk_put (cs := #[.int .i64 t520, .int .i64 t521, .int .i64 t522, .int .i64 0]) ?_ 3 _ rfl; (with_reducible repeat (first | refine blk_drewN ?_ _ | refine blk_drew ?_ | refine blk_alloc ?_ _)); refine blk_put (cs := #[.int .i64 t520, .int .i64 t521, .int .i64 0, .int .i64 0]) ?_ 2 _ rfl; (with_reducible repeat (first | refine blk_drewN ?_ _ | refine blk_drew ?_ | refine blk_alloc ?_ _)); refine blk_put (cs := #[.int .i64 t520, .int .i64 0, .int .i64 0, .int .i64 0]) ?_ 1 _ rfl; (with_reducible repeat (first | refine blk_drewN ?_ _ | refine blk_drew ?_ | refine blk_alloc ?_ _)); refine blk_put (cs := #[.int .i64 0, .int .i64 0, .int .i64 0, .int .i64 0]) ?_ 0 _ rfl; (with_reducible repeat (first | refine blk_drewN ?_ _ | refine blk_drew ?_ | refine blk_alloc ?_ _)); exact BK526.out) hb); have n1_ := Aside0.mk (below_step bw_ hb); clear BK526; clear HB; have BK526 := n0_; have HB := n1_; clear n0_ n1_; (try clear hb); (try clear hb2); (try clear hk); (try clear hi); obtain ⟨hcz17_0, hcz17_1, hcz17_2, hcz17_3, hfz17_0, hfz17_1, hfz17_2, hfz17_3⟩ := four_ BK526.out) | (go_at_call 7; (with_reducible refine (spec_DogPlace.calls k t520 t521 t522 t523 t524 t525 t530 t531 t532 _ A7.out).mono ?_); rintro e w18 ⟨rfl, hb⟩; have n0_ := Aside0.mk (bb_ BK526.out hb); have n1_ := Aside0.mk (below_step bw_ hb); clear BK526; clear HB; have BK526 := n0_; have HB := n1_; clear n0_ n1_; (try clear hb); (try clear hb2); (try clear hk); (try clear hi); obtain ⟨hcz19_0, hcz19_1, hcz19_2, hcz19_3, hfz19_0, hfz19_1, hfz19_2, hfz19_3⟩ := four_ BK526.out) | (go_at_call 8; (with_reducible refine (impl_TurnsUntil.calls k t520 t521 t522 t523 t524 t525 t533 t534 _ A8.out).mono ?_); rintro e w20 ⟨rfl, hb⟩; have n0_ := Aside0.mk (bb_ BK526.out hb); have n1_ := Aside0.mk (below_step bw_ hb); clear BK526; clear HB; have BK526 := n0_; have HB := n1_; clear n0_ n1_; (try clear hb); (try clear hb2); (try clear hk); (try clear hi); obtain ⟨hcz21_0, hcz21_1, hcz21_2, hcz21_3, hfz21_0, hfz21_1, hfz21_2, hfz21_3⟩ := four_ BK526.out) | (go_at_call 9; (with_reducible refine (spec_TurnsUntil.calls k t520 t521 t522 t523 t524 t525 t535 t536 _ A9.out).mono ?_); rintro e w22 ⟨rfl, hb⟩; have n0_ := Aside0.mk (bb_ BK526.out hb); have n1_ := Aside0.mk (below_step bw_ hb); clear BK526; clear HB; have BK526 := n0_; have HB := n1_; clear n0_ n1_; (try clear hb); (try clear hb2); (try clear hk); (try clear hi); obtain ⟨hcz23_0, hcz23_1, hcz23_2, hcz23_3, hfz23_0, hfz23_1, hfz23_2, hfz23_3⟩ := four_ BK526.out) | (go_at_call 10; (with_reducible refine (impl_SlowestDog.calls k t520 t521 t522 t523 t524 t525 t537 t538 _ A10.out).mono ?_); rintro e w24 ⟨rfl, hb⟩; have n0_ := Aside0.mk (bb_ BK526.out hb); have n1_ := Aside0.mk (below_step bw_ hb); clear BK526; clear HB; have BK526 := n0_; have HB := n1_; clear n0_ n1_; (try clear hb); (try clear hb2); (try clear hk); (try clear hi); obtain ⟨hcz25_0, hcz25_1, hcz25_2, hcz25_3, hfz25_0, hfz25_1, hfz25_2, hfz25_3⟩ := four_ BK526.out) | (go_at_call 11; (with_reducible refine (spec_SlowestDog.calls k t520 t521 t522 t523 t524 t525 t539 t540 _ A11.out).mono ?_); rintro e w26 ⟨rfl, hb⟩; have n0_ := Aside0.mk (bb_ BK526.out hb); have n1_ := Aside0.mk (below_step bw_ hb); clear BK526; clear HB; have BK526 := n0_; have HB := n1_; clear n0_ n1_; (try clear hb); (try clear hb2); (try clear hk); (try clear hi)))
  repeat (go_quiet (first | (go_at_call 4; (with_reducible refine (laws_big.calls _ _ l0 _ _ l1 false _ ?side1 ?side2 ?side3 ?side4 A3.out).mono ?_); (case side1 => repeat (first | exact HR0.out | (with_reducible refine Kd.C_alloc ?_ _) | (with_reducible refine Kd.C_drewN ?_ _) | (with_reducible refine Kd.C_drew ?_))); (case side2 => exact HC0.out); (case side3 => repeat (first | exact HR1.out | (with_reducible refine Kd.C_alloc ?_ _) | (with_reducible refine Kd.C_drewN ?_ _) | (with_reducible refine Kd.C_drew ?_))); (case side4 => exact HC1.out); rintro e w' ⟨rfl, ⟨nd, rfl⟩⟩; (try first | exact ⟨rfl, _, World.drewN_drewN _ _ _⟩ | exact ⟨rfl, _, Eq.trans (World.drewN_drewN _ _ _) (congrArg (World.drewN _) (Nat.add_assoc _ _ _))⟩)) | (go_at_call 5; (with_reducible refine (spec_DrawDogPlace.calls k _ _ l0 t520 t521 t522 t523 t524 t525 _ ?side1 ?side2 A5.out).mono ?_); (case side1 => repeat (first | exact HR0.out | (with_reducible refine Kd.C_alloc ?_ _) | (with_reducible refine Kd.C_drewN ?_ _) | (with_reducible refine Kd.C_drew ?_))); (case side2 => exact HC0.out); rintro e w13 ⟨rfl, hb⟩; have n0_ := Aside0.mk (below_step bw_ hb); clear HB; have HB := n0_; clear n0_; (try clear hb); (try clear hb2); (try clear hk); (try clear hi)) | ((with_reducible refine gate_dst (N := 5) rfl ?_); refine be_ 5 #[.int .i64 0, .int .i64 0, .int .i64 0, .int .i64 0] 25 ?_; intro gb526 hg w14 hbox hb; have n0_ := Aside0.mk (below_step bw_ hb); have n1_ := Aside0.mk (hbox); have n2_ := Aside0.mk (bz_ (w := w) hg); have n3_ := Aside0.mk (bz_ (w := w) hg); clear HB; have HB := n0_; have BK526 := n1_; have GW526 := n2_; have GE526 := n3_; clear n0_ n1_ n2_ n3_; clear hb hbox hg; obtain ⟨hcz15_0, hcz15_1, hcz15_2, hcz15_3, hfz15_0, hfz15_1, hfz15_2, hfz15_3⟩ := four_ BK526.out) | (go_at_call 6; (with_reducible refine (impl_DogPlace.calls k t520 t521 t522 t523 t524 t525 t527 t528 t529 _ A6.out).mono ?_); rintro e w16 ⟨rfl, hb⟩; have n0_ := Aside0.mk (blk_below (g := gb526) (o := .cells #[.int .i64 t520, .int .i64 t521, .int .i64 t522, .int .i64 t523] 25 (0, 0)) (by (with_reducible repeat (first | refine blk_drewN ?_ _ | refine blk_drew ?_ | refine blk_alloc ?_ _)); refine blk_put (cs := #[.int .i64 t520, .int .i64 t521, .int .i64 t522, .int .i64 0]) ?_ 3 _ rfl; (with_reducible repeat (first | refine blk_drewN ?_ _ | refine blk_drew ?_ | refine blk_alloc ?_ _)); refine blk_put (cs := #[.int .i64 t520, .int .i64 t521, .int .i64 0, .int .i64 0]) ?_ 2 _ rfl; (with_reducible repeat (first | refine blk_drewN ?_ _ | refine blk_drew ?_ | refine blk_alloc ?_ _)); refine blk_put (cs := #[.int .i64 t520, .int .i64 0, .int .i64 0, .int .i64 0]) ?_ 1 _ rfl; (with_reducible repeat (first | refine blk_drewN ?_ _ | refine blk_drew ?_ | refine blk_alloc ?_ _)); refine blk_put (cs := #[.int .i64 0, .int .i64 0, .int .i64 0, .int .i64 0]) ?_ 0 _ rfl; (with_reducible repeat (first | refine blk_drewN ?_ _ | refine blk_drew ?_ | refine blk_alloc ?_ _)); exact BK526.out) hb); have n1_ := Aside0.mk (below_step bw_ hb); clear BK526; clear HB; have BK526 := n0_; have HB := n1_; clear n0_ n1_; (try clear hb); (try clear hb2); (try clear hk); (try clear hi); obtain ⟨hcz17_0, hcz17_1, hcz17_2, hcz17_3, hfz17_0, hfz17_1, hfz17_2, hfz17_3⟩ := four_ BK526.out) | (go_at_call 7; (with_reducible refine (spec_DogPlace.calls k t520 t521 t522 t523 t524 t525 t530 t531 t532 _ A7.out).mono ?_); rintro e w18 ⟨rfl, hb⟩; have n0_ := Aside0.mk (bb_ BK526.out hb); have n1_ := Aside0.mk (below_step bw_ hb); clear BK526; clear HB; have BK526 := n0_; have HB := n1_; clear n0_ n1_; (try clear hb); (try clear hb2); (try clear hk); (try clear hi); obtain ⟨hcz19_0, hcz19_1, hcz19_2, hcz19_3, hfz19_0, hfz19_1, hfz19_2, hfz19_3⟩ := four_ BK526.out) | (go_at_call 8; (with_reducible refine (impl_TurnsUntil.calls k t520 t521 t522 t523 t524 t525 t533 t534 _ A8.out).mono ?_); rintro e w20 ⟨rfl, hb⟩; have n0_ := Aside0.mk (bb_ BK526.out hb); have n1_ := Aside0.mk (below_step bw_ hb); clear BK526; clear HB; have BK526 := n0_; have HB := n1_; clear n0_ n1_; (try clear hb); (try clear hb2); (try clear hk); (try clear hi); obtain ⟨hcz21_0, hcz21_1, hcz21_2, hcz21_3, hfz21_0, hfz21_1, hfz21_2, hfz21_3⟩ := four_ BK526.out) | (go_at_call 9; (with_reducible refine (spec_TurnsUntil.calls k t520 t521 t522 t523 t524 t525 t535 t536 _ A9.out).mono ?_); rintro e w22 ⟨rfl, hb⟩; have n0_ := Aside0.mk (bb_ BK526.out hb); have n1_ := Aside0.mk (below_step bw_ hb); clear BK526; clear HB; have BK526 := n0_; have HB := n1_; clear n0_ n1_; (try clear hb); (try clear hb2); (try clear hk); (try clear hi); obtain ⟨hcz23_0, hcz23_1, hcz23_2, hcz23_3, hfz23_0, hfz23_1, hfz23_2, hfz23_3⟩ := four_ BK526.out) | (go_at_call 10; (with_reducible refine (impl_SlowestDog.calls k t520 t521 t522 t523 t524 t525 t537 t538 _ A10.out).mono ?_); rintro e w24 ⟨rfl, hb⟩; have n0_ := Aside0.mk (bb_ BK526.out hb); have n1_ := Aside0.mk (below_step bw_ hb); clear BK526; clear HB; have BK526 := n0_; have HB := n1_; clear n0_ n1_; (try clear hb); (try clear hb2); (try clear hk); (try clear hi); obtain ⟨hcz25_0, hcz25_1, hcz25_2, hcz25_3, hfz25_0, hfz25_1, hfz25_2, hfz25_3⟩ := four_ BK526.out) | (go_at_call 11; (with_reducible refine (spec_SlowestDog.calls k t520 t521 t522 t523 t524 t525 t539 t540 _ A11.out).mono ?_); rintro e w26 ⟨rfl, hb⟩; have n0_ := Aside0.mk (bb_ BK526.out hb); have n1_ := Aside0.mk (below_step bw_ hb); clear BK526; clear HB; have BK526 := n0_; have HB := n1_; clear n0_ n1_; (try clear hb); (try clear hb2); (try clear hk); (try clear hi))); go_upto_region 10 with (first | (go_at_call 4; (with_reducible refine (laws_big.calls _ _ l0 _ _ l1 false _ ?side1 ?side2 ?side3 ?side4 A3.out).mono ?_); (case side1 => repeat (first | exact HR0.out | (with_reducible refine Kd.C_alloc ?_ _) | (with_reducible refine Kd.C_drewN ?_ _) | (with_reducible refine Kd.C_drew ?_))); (case side2 => exact HC0.out); (case side3 => repeat (first | exact HR1.out | (with_reducible refine Kd.C_alloc ?_ _) | (with_reducible refine Kd.C_drewN ?_ _) | (with_reducible refine Kd.C_drew ?_))); (case side4 => exact HC1.out); rintro e w' ⟨rfl, ⟨nd, rfl⟩⟩; (try first | exact ⟨rfl, _, World.drewN_drewN _ _ _⟩ | exact ⟨rfl, _, Eq.trans (World.drewN_drewN _ _ _) (congrArg (World.drewN _) (Nat.add_assoc _ _ _))⟩)) | (go_at_call 5; (with_reducible refine (spec_DrawDogPlace.calls k _ _ l0 t520 t521 t522 t523 t524 t525 _ ?side1 ?side2 A5.out).mono ?_); (case side1 => repeat (first | exact HR0.out | (with_reducible refine Kd.C_alloc ?_ _) | (with_reducible refine Kd.C_drewN ?_ _) | (with_reducible refine Kd.C_drew ?_))); (case side2 => exact HC0.out); rintro e w13 ⟨rfl, hb⟩; have n0_ := Aside0.mk (below_step bw_ hb); clear HB; have HB := n0_; clear n0_; (try clear hb); (try clear hb2); (try clear hk); (try clear hi)) | ((with_reducible refine gate_dst (N := 5) rfl ?_); refine be_ 5 #[.int .i64 0, .int .i64 0, .int .i64 0, .int .i64 0] 25 ?_; intro gb526 hg w14 hbox hb; have n0_ := Aside0.mk (below_step bw_ hb); have n1_ := Aside0.mk (hbox); have n2_ := Aside0.mk (bz_ (w := w) hg); have n3_ := Aside0.mk (bz_ (w := w) hg); clear HB; have HB := n0_; have BK526 := n1_; have GW526 := n2_; have GE526 := n3_; clear n0_ n1_ n2_ n3_; clear hb hbox hg; obtain ⟨hcz15_0, hcz15_1, hcz15_2, hcz15_3, hfz15_0, hfz15_1, hfz15_2, hfz15_3⟩ := four_ BK526.out) | (go_at_call 6; (with_reducible refine (impl_DogPlace.calls k t520 t521 t522 t523 t524 t525 t527 t528 t529 _ A6.out).mono ?_); rintro e w16 ⟨rfl, hb⟩; have n0_ := Aside0.mk (blk_below (g := gb526) (o := .cells #[.int .i64 t520, .int .i64 t521, .int .i64 t522, .int .i64 t523] 25 (0, 0)) (by (with_reducible repeat (first | refine blk_drewN ?_ _ | refine blk_drew ?_ | refine blk_alloc ?_ _)); refine blk_put (cs := #[.int .i64 t520, .int .i64 t521, .int .i64 t522, .int .i64 0]) ?_ 3 _ rfl; (with_reducible repeat (first | refine blk_drewN ?_ _ | refine blk_drew ?_ | refine blk_alloc ?_ _)); refine blk_put (cs := #[.int .i64 t520, .int .i64 t521, .int .i64 0, .int .i64 0]) ?_ 2 _ rfl; (with_reducible repeat (first | refine blk_drewN ?_ _ | refine blk_drew ?_ | refine blk_alloc ?_ _)); refine blk_put (cs := #[.int .i64 t520, .int .i64 0, .int .i64 0, .int .i64 0]) ?_ 1 _ rfl; (with_reducible repeat (first | refine blk_drewN ?_ _ | refine blk_drew ?_ | refine blk_alloc ?_ _)); refine blk_put (cs := #[.int .i64 0, .int .i64 0, .int .i64 0, .int .i64 0]) ?_ 0 _ rfl; (with_reducible repeat (first | refine blk_drewN ?_ _ | refine blk_drew ?_ | refine blk_alloc ?_ _)); exact BK526.out) hb); have n1_ := Aside0.mk (below_step bw_ hb); clear BK526; clear HB; have BK526 := n0_; have HB := n1_; clear n0_ n1_; (try clear hb); (try clear hb2); (try clear hk); (try clear hi); obtain ⟨hcz17_0, hcz17_1, hcz17_2, hcz17_3, hfz17_0, hfz17_1, hfz17_2, hfz17_3⟩ := four_ BK526.out) | (go_at_call 7; (with_reducible refine (spec_DogPlace.calls k t520 t521 t522 t523 t524 t525 t530 t531 t532 _ A7.out).mono ?_); rintro e w18 ⟨rfl, hb⟩; have n0_ := Aside0.mk (bb_ BK526.out hb); have n1_ := Aside0.mk (below_step bw_ hb); clear BK526; clear HB; have BK526 := n0_; have HB := n1_; clear n0_ n1_; (try clear hb); (try clear hb2); (try clear hk); (try clear hi); obtain ⟨hcz19_0, hcz19_1, hcz19_2, hcz19_3, hfz19_0, hfz19_1, hfz19_2, hfz19_3⟩ := four_ BK526.out) | (go_at_call 8; (with_reducible refine (impl_TurnsUntil.calls k t520 t521 t522 t523 t524 t525 t533 t534 _ A8.out).mono ?_); rintro e w20 ⟨rfl, hb⟩; have n0_ := Aside0.mk (bb_ BK526.out hb); have n1_ := Aside0.mk (below_step bw_ hb); clear BK526; clear HB; have BK526 := n0_; have HB := n1_; clear n0_ n1_; (try clear hb); (try clear hb2); (try clear hk); (try clear hi); obtain ⟨hcz21_0, hcz21_1, hcz21_2, hcz21_3, hfz21_0, hfz21_1, hfz21_2, hfz21_3⟩ := four_ BK526.out) | (go_at_call 9; (with_reducible refine (spec_TurnsUntil.calls k t520 t521 t522 t523 t524 t525 t535 t536 _ A9.out).mono ?_); rintro e w22 ⟨rfl, hb⟩; have n0_ := Aside0.mk (bb_ BK526.out hb); have n1_ := Aside0.mk (below_step bw_ hb); clear BK526; clear HB; have BK526 := n0_; have HB := n1_; clear n0_ n1_; (try clear hb); (try clear hb2); (try clear hk); (try clear hi); obtain ⟨hcz23_0, hcz23_1, hcz23_2, hcz23_3, hfz23_0, hfz23_1, hfz23_2, hfz23_3⟩ := four_ BK526.out) | (go_at_call 10; (with_reducible refine (impl_SlowestDog.calls k t520 t521 t522 t523 t524 t525 t537 t538 _ A10.out).mono ?_); rintro e w24 ⟨rfl, hb⟩; have n0_ := Aside0.mk (bb_ BK526.out hb); have n1_ := Aside0.mk (below_step bw_ hb); clear BK526; clear HB; have BK526 := n0_; have HB := n1_; clear n0_ n1_; (try clear hb); (try clear hb2); (try clear hk); (try clear hi); obtain ⟨hcz25_0, hcz25_1, hcz25_2, hcz25_3, hfz25_0, hfz25_1, hfz25_2, hfz25_3⟩ := four_ BK526.out) | (go_at_call 11; (with_reducible refine (spec_SlowestDog.calls k t520 t521 t522 t523 t524 t525 t539 t540 _ A11.out).mono ?_); rintro e w26 ⟨rfl, hb⟩; have n0_ := Aside0.mk (bb_ BK526.out hb); have n1_ := Aside0.mk (below_step bw_ hb); clear BK526; clear HB; have BK526 := n0_; have HB := n1_; clear n0_ n1_; (try clear hb); (try clear hb2); (try clear hk); (try clear hi))))
  (try simp only [Act.put, List.setIfInBounds_toArray, List.set_cons_zero, List.set_cons_succ])
  go_cut [154] from 115 to 154 (fun v154 wc => ∃ (kq : Nat) (x154_11 : Bool), v154 = .bool x154_11 ∧ Aside0 (laws_FnDogsChase.j0 kq l1 t524 t525 t527 t528 t529 t533 t534 t537 t538 x154_11 t520 t521 t522 t523 = some r) ∧ Aside0 (kq ≤ k) ∧ Aside0 (wc.heap[gb526]? = some (.cells #[.int .i64 t520, .int .i64 t521, .int .i64 t522, .int .i64 t523] 25 (0, 0))) ∧ Aside0 (Below w.heap.size w wc))
  case first => as_aux_lemma =>
   have H := HC12.out
   clear HC12
   by_cases c27 : (t529 != t532) = true
   ·
    rw [if_pos c27] at H
    have c27b0 : (t529 != t532) = true := c27
    (try (have c27b1 : decide (t529 = t532) = false := by simpa using c27))
    (try (have c27b2 : (t529 == t532) = false := by simpa using c27))
    (try (have c27b3 : ¬ (t529 = t532) := by simpa using c27))
    clear c27
    (first | rw [c27b0] | (simp only [i64_w, i32_w]; rw [c27b0]) | skip)
    exact absurd (H.trans (congrArg some HRT.out)) (by cases k <;> simp [laws_FnDogsChase.j0])
   ·
    rw [if_neg c27] at H
    have c27b0 : (t529 != t532) = false := by simpa using c27
    (try (have c27b1 : decide (t529 = t532) = true := by simpa using c27))
    (try (have c27b2 : (t529 == t532) = true := by simpa using c27))
    clear c27
    (first | rw [c27b0] | (simp only [i64_w, i32_w]; rw [c27b0]) | skip)
    by_cases c28 : t527 = t530
    ·
     rw [if_pos c28] at H
     have c28b0 : (t527 == t530) = true := beq_iff_eq.mpr c28
     have c28b1 : (t527 != t530) = false := bne_eq_false_iff_eq.mpr c28
     clear c28
     by_cases c29 : t528 = t531
     ·
      rw [if_pos c29] at H
      have c29b0 : (t528 == t531) = true := beq_iff_eq.mpr c29
      have c29b1 : (t528 != t531) = false := bne_eq_false_iff_eq.mpr c29
      clear c29
      by_cases c30 : (t534 != t536) = true
      ·
       rw [if_pos c30] at H
       have c30b0 : (t534 != t536) = true := c30
       (try (have c30b1 : decide (t534 = t536) = false := by simpa using c30))
       (try (have c30b2 : (t534 == t536) = false := by simpa using c30))
       (try (have c30b3 : ¬ (t534 = t536) := by simpa using c30))
       clear c30
       exact absurd (H.trans (congrArg some HRT.out)) (by cases k <;> simp [laws_FnDogsChase.j0])
      ·
       rw [if_neg c30] at H
       have c30b0 : (t534 != t536) = false := by simpa using c30
       (try (have c30b1 : decide (t534 = t536) = true := by simpa using c30))
       (try (have c30b2 : (t534 == t536) = true := by simpa using c30))
       clear c30
       by_cases c31 : t533 = t535
       ·
        rw [if_pos c31] at H
        have c31b0 : (t533 == t535) = true := beq_iff_eq.mpr c31
        have c31b1 : (t533 != t535) = false := bne_eq_false_iff_eq.mpr c31
        clear c31
        by_cases c32 : (t538 != t540) = true
        ·
         rw [if_pos c32] at H
         have c32b0 : (t538 != t540) = true := c32
         (try (have c32b1 : decide (t538 = t540) = false := by simpa using c32))
         (try (have c32b2 : (t538 == t540) = false := by simpa using c32))
         (try (have c32b3 : ¬ (t538 = t540) := by simpa using c32))
         clear c32
         exact absurd (H.trans (congrArg some HRT.out)) (by cases k <;> simp [laws_FnDogsChase.j0])
        ·
         rw [if_neg c32] at H
         have c32b0 : (t538 != t540) = false := by simpa using c32
         (try (have c32b1 : decide (t538 = t540) = true := by simpa using c32))
         (try (have c32b2 : (t538 == t540) = true := by simpa using c32))
         clear c32
         by_cases c33 : t537 = t539
         ·
          rw [if_pos c33] at H
          have c33b0 : (t537 == t539) = true := beq_iff_eq.mpr c33
          have c33b1 : (t537 != t539) = false := bne_eq_false_iff_eq.mpr c33
          clear c33
          by_cases c34 : t534 = true
          ·
           subst c34
           rw [if_pos rfl] at H
           have H' := Aside0.mk H
           clear H
           go_wp2
           repeat (go_quiet (fail); try go_wp2)
           go_meet
           case rel => exact ⟨_, (!t529), (rs_), H', ⟨by first | omega | exact Nat.le_refl _⟩, ⟨bk_⟩, ⟨bw_⟩⟩
          ·
           replace c34 := Bool.eq_false_iff.mpr c34
           subst c34
           rw [if_neg (show ¬ (false = true) by decide)] at H
           have H' := Aside0.mk H
           clear H
           go_wp2
           repeat (go_quiet (fail); try go_wp2)
           go_meet
           case rel => exact ⟨_, (false), (rs_), H', ⟨by first | omega | exact Nat.le_refl _⟩, ⟨bk_⟩, ⟨bw_⟩⟩
         ·
          rw [if_neg c33] at H
          have c33b0 : (t537 == t539) = false := beq_eq_false_iff_ne.mpr c33
          have c33b1 : (t537 != t539) = true := bne_iff_ne.mpr c33
          exact absurd (H.trans (congrArg some HRT.out)) (by cases k <;> simp [laws_FnDogsChase.j0])
       ·
        rw [if_neg c31] at H
        have c31b0 : (t533 == t535) = false := beq_eq_false_iff_ne.mpr c31
        have c31b1 : (t533 != t535) = true := bne_iff_ne.mpr c31
        exact absurd (H.trans (congrArg some HRT.out)) (by cases k <;> simp [laws_FnDogsChase.j0])
     ·
      rw [if_neg c29] at H
      have c29b0 : (t528 == t531) = false := beq_eq_false_iff_ne.mpr c29
      have c29b1 : (t528 != t531) = true := bne_iff_ne.mpr c29
      exact absurd (H.trans (congrArg some HRT.out)) (by cases k <;> simp [laws_FnDogsChase.j0])
    ·
     rw [if_neg c28] at H
     have c28b0 : (t527 == t530) = false := beq_eq_false_iff_ne.mpr c28
     have c28b1 : (t527 != t530) = true := bne_iff_ne.mpr c28
     exact absurd (H.trans (congrArg some HRT.out)) (by cases k <;> simp [laws_FnDogsChase.j0])
  case rest => as_aux_lemma =>
   clear HC12
   (try clear c1); (try clear c4); (try clear hcz15_0); (try clear hcz15_1); (try clear hcz15_2); (try clear hcz15_3); (try clear hcz17_0); (try clear hcz17_1); (try clear hcz17_2); (try clear hcz17_3); (try clear hcz19_0); (try clear hcz19_1); (try clear hcz19_2); (try clear hcz19_3); (try clear hcz21_0); (try clear hcz21_1); (try clear hcz21_2); (try clear hcz21_3); (try clear hcz23_0); (try clear hcz23_1); (try clear hcz23_2); (try clear hcz23_3); (try clear hcz25_0); (try clear hcz25_1); (try clear hcz25_2); (try clear hcz25_3); (try clear hfz15_0); (try clear hfz15_1); (try clear hfz15_2); (try clear hfz15_3); (try clear hfz17_0); (try clear hfz17_1); (try clear hfz17_2); (try clear hfz17_3); (try clear hfz19_0); (try clear hfz19_1); (try clear hfz19_2); (try clear hfz19_3); (try clear hfz21_0); (try clear hfz21_1); (try clear hfz21_2); (try clear hfz21_3); (try clear hfz23_0); (try clear hfz23_1); (try clear hfz23_2); (try clear hfz23_3); (try clear hfz25_0); (try clear hfz25_1); (try clear hfz25_2); (try clear hfz25_3)
   obtain ⟨kq, x154_11, rfl, HA, HJ11, BK526, HB⟩ := hcut
   cases kq with
   | zero => exact absurd HA.out (by simp [laws_FnDogsChase.j0])
   | succ kj11 =>
    have H := HA.out
    clear HA
    simp only [laws_FnDogsChase.j0] at H
    by_cases c35 : x154_11 = true
    ·
     subst c35
     rw [if_pos rfl] at H
     exact absurd ((Option.some.inj H).trans HRT.out) (by decide)
    ·
     replace c35 := Bool.eq_false_iff.mpr c35
     subst c35
     rw [if_neg (show ¬ (false = true) by decide)] at H
     have HC36 := Aside0.mk H
     clear H
     go_upto_if 155 with (fail)
     repeat (go_quiet (fail); go_upto_if 155 with (fail))
     go_cut [] from 156 to 188 (fun wc => ∃ (kq : Nat), Aside0 (laws_FnDogsChase.j1 kq l1 t524 t525 t533 t534 t537 t538 t520 t521 t522 t523 = some r) ∧ Aside0 (kq ≤ kj11) ∧ Aside0 (wc.heap[gb526]? = some (.cells #[.int .i64 t520, .int .i64 t521, .int .i64 t522, .int .i64 t523] 25 (0, 0))) ∧ Aside0 (Below w.heap.size w wc))
     case first => as_aux_lemma =>
      have H := HC36.out
      clear HC36
      by_cases c37 : t529 = true
      ·
       subst c37
       rw [if_pos rfl] at H
       replace H := Option.bind_eq_some_iff.mp H
       obtain ⟨t541, A380, H⟩ := H
       (try dsimp only at H)
       have A38 := Aside0.mk A380
       clear A380
       by_cases c39 : t541 = true
       ·
        subst c39
        rw [if_pos rfl] at H
        by_cases c40 : (wrap64 (t527 * t525)) < (wrap64 ((wrap64 (t521 * t524)) * t528))
        ·
         rw [if_pos c40] at H
         have c40b0 : decide ((wrap64 (t527 * t525)) < (wrap64 ((wrap64 (t521 * t524)) * t528))) = true := decide_eq_true c40
         clear c40
         (first | rw [c40b0] | (simp only [i64_w, i32_w]; rw [c40b0]) | skip)
         exact absurd ((Option.some.inj H).trans HRT.out) (by decide)
        ·
         rw [if_neg c40] at H
         have c40b0 : decide ((wrap64 (t527 * t525)) < (wrap64 ((wrap64 (t521 * t524)) * t528))) = false := decide_eq_false c40
         clear c40
         (first | rw [c40b0] | (simp only [i64_w, i32_w]; rw [c40b0]) | skip)
         by_cases c41 : (wrap64 (t527 * t525)) > (wrap64 ((wrap64 ((wrap64 (t520 * t525)) - (wrap64 (t522 * t524)))) * t528))
         ·
          rw [if_pos c41] at H
          have c41b0 : decide ((wrap64 ((wrap64 ((wrap64 (t520 * t525)) - (wrap64 (t522 * t524)))) * t528)) < (wrap64 (t527 * t525))) = true := decide_eq_true c41
          clear c41
          exact absurd ((Option.some.inj H).trans HRT.out) (by decide)
         ·
          rw [if_neg c41] at H
          have c41b0 : decide ((wrap64 ((wrap64 ((wrap64 (t520 * t525)) - (wrap64 (t522 * t524)))) * t528)) < (wrap64 (t527 * t525))) = false := decide_eq_false c41
          clear c41
          have H' := Aside0.mk H
          clear H
          go_wp2_with (first | (go_at_call 12; (with_reducible refine (laws_yLow.calls kj11 t527 t528 true _ A38.out).mono ?_); rintro e w' ⟨rfl, ⟨nd, rfl⟩⟩; (try first | exact ⟨rfl, _, World.drewN_drewN _ _ _⟩ | exact ⟨rfl, _, Eq.trans (World.drewN_drewN _ _ _) (congrArg (World.drewN _) (Nat.add_assoc _ _ _))⟩); obtain ⟨hcz42_0, hcz42_1, hcz42_2, hcz42_3, hfz42_0, hfz42_1, hfz42_2, hfz42_3⟩ := four_ BK526.out))
          repeat (go_quiet (first | (go_at_call 12; (with_reducible refine (laws_yLow.calls kj11 t527 t528 true _ A38.out).mono ?_); rintro e w' ⟨rfl, ⟨nd, rfl⟩⟩; (try first | exact ⟨rfl, _, World.drewN_drewN _ _ _⟩ | exact ⟨rfl, _, Eq.trans (World.drewN_drewN _ _ _) (congrArg (World.drewN _) (Nat.add_assoc _ _ _))⟩); obtain ⟨hcz42_0, hcz42_1, hcz42_2, hcz42_3, hfz42_0, hfz42_1, hfz42_2, hfz42_3⟩ := four_ BK526.out)); try go_wp2_with (first | (go_at_call 12; (with_reducible refine (laws_yLow.calls kj11 t527 t528 true _ A38.out).mono ?_); rintro e w' ⟨rfl, ⟨nd, rfl⟩⟩; (try first | exact ⟨rfl, _, World.drewN_drewN _ _ _⟩ | exact ⟨rfl, _, Eq.trans (World.drewN_drewN _ _ _) (congrArg (World.drewN _) (Nat.add_assoc _ _ _))⟩); obtain ⟨hcz42_0, hcz42_1, hcz42_2, hcz42_3, hfz42_0, hfz42_1, hfz42_2, hfz42_3⟩ := four_ BK526.out)))
          go_meet
          case rel => exact ⟨_, H', ⟨by have := HJ11.out; first | omega | exact Nat.le_refl _⟩, ⟨bk_⟩, ⟨bw_⟩⟩
       ·
        replace c39 := Bool.eq_false_iff.mpr c39
        subst c39
        rw [if_neg (show ¬ (false = true) by decide)] at H
        exact absurd ((Option.some.inj H).trans HRT.out) (by decide)
      ·
       replace c37 := Bool.eq_false_iff.mpr c37
       subst c37
       rw [if_neg (show ¬ (false = true) by decide)] at H
       have H' := Aside0.mk H
       clear H
       go_wp2
       repeat (go_quiet (fail); try go_wp2)
       go_meet
       case rel => exact ⟨_, H', ⟨by have := HJ11.out; first | omega | exact Nat.le_refl _⟩, ⟨bk_⟩, ⟨bw_⟩⟩
     case rest => as_aux_lemma =>
      clear HC36
      (try clear c1); (try clear c4); (try clear c35); (try clear hcz15_0); (try clear hcz15_1); (try clear hcz15_2); (try clear hcz15_3); (try clear hcz17_0); (try clear hcz17_1); (try clear hcz17_2); (try clear hcz17_3); (try clear hcz19_0); (try clear hcz19_1); (try clear hcz19_2); (try clear hcz19_3); (try clear hcz21_0); (try clear hcz21_1); (try clear hcz21_2); (try clear hcz21_3); (try clear hcz23_0); (try clear hcz23_1); (try clear hcz23_2); (try clear hcz23_3); (try clear hcz25_0); (try clear hcz25_1); (try clear hcz25_2); (try clear hcz25_3); (try clear hfz15_0); (try clear hfz15_1); (try clear hfz15_2); (try clear hfz15_3); (try clear hfz17_0); (try clear hfz17_1); (try clear hfz17_2); (try clear hfz17_3); (try clear hfz19_0); (try clear hfz19_1); (try clear hfz19_2); (try clear hfz19_3); (try clear hfz21_0); (try clear hfz21_1); (try clear hfz21_2); (try clear hfz21_3); (try clear hfz23_0); (try clear hfz23_1); (try clear hfz23_2); (try clear hfz23_3); (try clear hfz25_0); (try clear hfz25_1); (try clear hfz25_2); (try clear hfz25_3)
      obtain ⟨kq, HA, HJ35, BK526, HB⟩ := hcut
      cases kq with
      | zero => exact absurd HA.out (by simp [laws_FnDogsChase.j1])
      | succ kj35 =>
       have H := HA.out
       clear HA
       simp only [laws_FnDogsChase.j1] at H
       have HC43 := Aside0.mk H
       clear H
       go_upto_if 189 with (fail)
       repeat (go_quiet (fail); go_upto_if 189 with (fail))
       go_cut [] from 190 to 260 (fun wc => ∃ (kq : Nat), Aside0 (laws_FnDogsChase.j5 kq l1 t524 t525 t537 t538 t520 t521 t522 t523 = some r) ∧ Aside0 (kq ≤ kj35) ∧ Aside0 (wc.heap[gb526]? = some (.cells #[.int .i64 t520, .int .i64 t521, .int .i64 t522, .int .i64 t523] 25 (0, 0))) ∧ Aside0 (Below w.heap.size w wc))
       case first => as_aux_lemma =>
        have H := HC43.out
        clear HC43
        by_cases c44 : t534 = true
        ·
         subst c44
         rw [if_pos rfl] at H
         have HC45 := Aside0.mk H
         clear H
         go_upto_region 16 with (fail)
         repeat (go_quiet (fail); go_upto_region 16 with (fail))
         go_cut [195] from 190 to 195 (fun v195 wc => ∃ (kq : Nat) (x195_44 : Bool), v195 = .bool x195_44 ∧ Aside0 (laws_FnDogsChase.j2 kq l1 t524 t525 t533 t537 t538 x195_44 t520 t521 t522 t523 = some r) ∧ Aside0 (kq ≤ kj35) ∧ Aside0 (wc.heap[gb526]? = some (.cells #[.int .i64 t520, .int .i64 t521, .int .i64 t522, .int .i64 t523] 25 (0, 0))) ∧ Aside0 (Below w.heap.size w wc))
         case first => as_aux_lemma =>
          have H := HC45.out
          clear HC45
          by_cases c46 : t533 < 0
          ·
           rw [if_pos c46] at H
           have c46b0 : decide (t533 < 0) = true := decide_eq_true c46
           clear c46
           (first | rw [c46b0] | (simp only [i64_w, i32_w]; rw [c46b0]) | skip)
           exact absurd (H.trans (congrArg some HRT.out)) (by cases kj35 <;> simp [laws_FnDogsChase.j2])
          ·
           rw [if_neg c46] at H
           have c46b0 : decide (t533 < 0) = false := decide_eq_false c46
           clear c46
           (first | rw [c46b0] | (simp only [i64_w, i32_w]; rw [c46b0]) | skip)
           have H' := Aside0.mk H
           clear H
           go_wp2
           repeat (go_quiet (fail); try go_wp2)
           go_meet
           case rel => exact ⟨_, (decide (t533 > 6)), (rs_), H', ⟨by have := HJ11.out; have := HJ35.out; first | omega | exact Nat.le_refl _⟩, ⟨bk_⟩, ⟨bw_⟩⟩
         case rest => as_aux_lemma =>
          clear HC45
          (try clear c1); (try clear c4); (try clear c35); (try clear c44); (try clear hcz15_0); (try clear hcz15_1); (try clear hcz15_2); (try clear hcz15_3); (try clear hcz17_0); (try clear hcz17_1); (try clear hcz17_2); (try clear hcz17_3); (try clear hcz19_0); (try clear hcz19_1); (try clear hcz19_2); (try clear hcz19_3); (try clear hcz21_0); (try clear hcz21_1); (try clear hcz21_2); (try clear hcz21_3); (try clear hcz23_0); (try clear hcz23_1); (try clear hcz23_2); (try clear hcz23_3); (try clear hcz25_0); (try clear hcz25_1); (try clear hcz25_2); (try clear hcz25_3); (try clear hfz15_0); (try clear hfz15_1); (try clear hfz15_2); (try clear hfz15_3); (try clear hfz17_0); (try clear hfz17_1); (try clear hfz17_2); (try clear hfz17_3); (try clear hfz19_0); (try clear hfz19_1); (try clear hfz19_2); (try clear hfz19_3); (try clear hfz21_0); (try clear hfz21_1); (try clear hfz21_2); (try clear hfz21_3); (try clear hfz23_0); (try clear hfz23_1); (try clear hfz23_2); (try clear hfz23_3); (try clear hfz25_0); (try clear hfz25_1); (try clear hfz25_2); (try clear hfz25_3)
          obtain ⟨kq, x195_44, rfl, HA, HJ44, BK526, HB⟩ := hcut
          cases kq with
          | zero => exact absurd HA.out (by simp [laws_FnDogsChase.j2])
          | succ kj44 =>
           have H := HA.out
           clear HA
           simp only [laws_FnDogsChase.j2] at H
           by_cases c47 : x195_44 = true
           ·
            subst c47
            rw [if_pos rfl] at H
            exact absurd ((Option.some.inj H).trans HRT.out) (by decide)
           ·
            replace c47 := Bool.eq_false_iff.mpr c47
            subst c47
            rw [if_neg (show ¬ (false = true) by decide)] at H
            have HC48 := Aside0.mk H
            clear H
            go_upto_region 18 with (fail)
            repeat (go_quiet (fail); go_upto_region 18 with (fail))
            go_cut [201] from 196 to 201 (fun v201 wc => ∃ (kq : Nat) (x201_47 : Bool), v201 = .bool x201_47 ∧ Aside0 (laws_FnDogsChase.j3 kq l1 t524 t525 t533 t537 t538 x201_47 t520 t521 t522 t523 = some r) ∧ Aside0 (kq ≤ kj44) ∧ Aside0 (wc.heap[gb526]? = some (.cells #[.int .i64 t520, .int .i64 t521, .int .i64 t522, .int .i64 t523] 25 (0, 0))) ∧ Aside0 (Below w.heap.size w wc))
            case first => as_aux_lemma =>
             have H := HC48.out
             clear HC48
             by_cases c49 : t533 > 0
             ·
              rw [if_pos c49] at H
              have c49b0 : decide (0 < t533) = true := decide_eq_true c49
              clear c49
              (first | rw [c49b0] | (simp only [i64_w, i32_w]; rw [c49b0]) | skip)
              have H' := Aside0.mk H
              clear H
              go_wp2
              repeat (go_quiet (fail); try go_wp2)
              go_meet
              case rel => exact ⟨_, (decide (t533 ≤ 3)), (rs_), H', ⟨by have := HJ11.out; have := HJ35.out; have := HJ44.out; first | omega | exact Nat.le_refl _⟩, ⟨bk_⟩, ⟨bw_⟩⟩
             ·
              rw [if_neg c49] at H
              have c49b0 : decide (0 < t533) = false := decide_eq_false c49
              clear c49
              (first | rw [c49b0] | (simp only [i64_w, i32_w]; rw [c49b0]) | skip)
              have H' := Aside0.mk H
              clear H
              go_wp2
              repeat (go_quiet (fail); try go_wp2)
              go_meet
              case rel => exact ⟨_, (false), (rs_), H', ⟨by have := HJ11.out; have := HJ35.out; have := HJ44.out; first | omega | exact Nat.le_refl _⟩, ⟨bk_⟩, ⟨bw_⟩⟩
            case rest => as_aux_lemma =>
             clear HC48
             (try clear c1); (try clear c4); (try clear c35); (try clear c44); (try clear c47); (try clear hcz15_0); (try clear hcz15_1); (try clear hcz15_2); (try clear hcz15_3); (try clear hcz17_0); (try clear hcz17_1); (try clear hcz17_2); (try clear hcz17_3); (try clear hcz19_0); (try clear hcz19_1); (try clear hcz19_2); (try clear hcz19_3); (try clear hcz21_0); (try clear hcz21_1); (try clear hcz21_2); (try clear hcz21_3); (try clear hcz23_0); (try clear hcz23_1); (try clear hcz23_2); (try clear hcz23_3); (try clear hcz25_0); (try clear hcz25_1); (try clear hcz25_2); (try clear hcz25_3); (try clear hfz15_0); (try clear hfz15_1); (try clear hfz15_2); (try clear hfz15_3); (try clear hfz17_0); (try clear hfz17_1); (try clear hfz17_2); (try clear hfz17_3); (try clear hfz19_0); (try clear hfz19_1); (try clear hfz19_2); (try clear hfz19_3); (try clear hfz21_0); (try clear hfz21_1); (try clear hfz21_2); (try clear hfz21_3); (try clear hfz23_0); (try clear hfz23_1); (try clear hfz23_2); (try clear hfz23_3); (try clear hfz25_0); (try clear hfz25_1); (try clear hfz25_2); (try clear hfz25_3)
             obtain ⟨kq, x201_47, rfl, HA, HJ47, BK526, HB⟩ := hcut
             cases kq with
             | zero => exact absurd HA.out (by simp [laws_FnDogsChase.j3])
             | succ kj47 =>
              have H := HA.out
              clear HA
              simp only [laws_FnDogsChase.j3] at H
              have HC50 := Aside0.mk H
              clear H
              go_upto_if 201 with (fail)
              repeat (go_quiet (fail); go_upto_if 201 with (fail))
              go_cut [] from 202 to 230 (fun wc => ∃ (kq : Nat), Aside0 (laws_FnDogsChase.j4 kq l1 t524 t525 t533 t537 t538 t520 t521 t522 t523 = some r) ∧ Aside0 (kq ≤ kj47) ∧ Aside0 (wc.heap[gb526]? = some (.cells #[.int .i64 t520, .int .i64 t521, .int .i64 t522, .int .i64 t523] 25 (0, 0))) ∧ Aside0 (Below w.heap.size w wc))
              case first => as_aux_lemma =>
               have H := HC50.out
               clear HC50
               by_cases c51 : x201_47 = true
               ·
                subst c51
                rw [if_pos rfl] at H
                replace H := Option.bind_eq_some_iff.mp H
                obtain ⟨⟨t542, t545⟩, A520, H⟩ := H
                (try dsimp only at H)
                have A52 := Aside0.mk A520
                clear A520
                by_cases c53 : t545 = true
                ·
                 subst c53
                 rw [if_pos rfl] at H
                 obtain ⟨ji54, hji54⟩ : ∃ j_ : Int, (wrap64 (t533 - 1)) = j_ := ⟨_, rfl⟩
                 replace H : (if 0 ≤ (ji54) then (if (ji54) < (t542.length : Int) then (if 0 < ((rd_L4 t542 (ji54)).length : Int) then (if 1 < ((rd_L4 t542 (ji54)).length : Int) then (if (wrap64 ((rd (rd_L4 t542 (ji54)) 0) * t525)) > (wrap64 (t524 * (rd (rd_L4 t542 (ji54)) 1))) then (some false) else (laws_FnDogsChase.j4 kj47 l1 t524 t525 t533 t537 t538 t520 t521 t522 t523)) else (none)) else (none)) else (none)) else (none)) = some r := by first | (rw [hji54] at H; exact H) | (simp only [hji54] at H ⊢; exact H)
                 (try rw [hji54] at A52)
                 have hji54w : (IntKind.i64.wrap (t533 - 1)) = ji54 := (i64_w _).trans hji54
                 by_cases c55 : 0 ≤ (ji54)
                 ·
                  rw [if_pos c55] at H
                  have c55b0 : decide (0 ≤ (ji54)) = true := decide_eq_true c55
                  clear c55
                  (first | rw [c55b0] | (simp only [i64_w, i32_w]; rw [c55b0]) | skip)
                  by_cases c56 : (ji54) < (t542.length : Int)
                  ·
                   rw [if_pos c56] at H
                   have c56b0 : decide ((ji54) < (t542.length : Int)) = true := decide_eq_true c56
                   clear c56
                   by_cases c57 : 0 < ((rd_L4 t542 (ji54)).length : Int)
                   ·
                    rw [if_pos c57] at H
                    have c57b0 : decide (0 < ((rd_L4 t542 (ji54)).length : Int)) = true := decide_eq_true c57
                    have c57b1 : decide (0 < (rd_L4 t542 (ji54)).length) = true := decide_eq_true (by omega)
                    clear c57
                    by_cases c58 : 1 < ((rd_L4 t542 (ji54)).length : Int)
                    ·
                     rw [if_pos c58] at H
                     have c58b0 : decide (1 < ((rd_L4 t542 (ji54)).length : Int)) = true := decide_eq_true c58
                     have c58b1 : decide (1 < (rd_L4 t542 (ji54)).length) = true := decide_eq_true (by omega)
                     clear c58
                     by_cases c59 : (wrap64 ((rd (rd_L4 t542 (ji54)) 0) * t525)) > (wrap64 (t524 * (rd (rd_L4 t542 (ji54)) 1)))
                     ·
                      rw [if_pos c59] at H
                      have c59b0 : decide ((wrap64 (t524 * (rd (rd_L4 t542 (ji54)) 1))) < (wrap64 ((rd (rd_L4 t542 (ji54)) 0) * t525))) = true := decide_eq_true c59
                      clear c59
                      exact absurd ((Option.some.inj H).trans HRT.out) (by decide)
                     ·
                      rw [if_neg c59] at H
                      have c59b0 : decide ((wrap64 (t524 * (rd (rd_L4 t542 (ji54)) 1))) < (wrap64 ((rd (rd_L4 t542 (ji54)) 0) * t525))) = false := decide_eq_false c59
                      clear c59
                      have H' := Aside0.mk H
                      clear H
                      obtain ⟨hcz60_0, hcz60_1, hcz60_2, hcz60_3, hfz60_0, hfz60_1, hfz60_2, hfz60_3⟩ := four_ BK526.out
                      go_wp2_with (first | (go_at_call 13; (with_reducible refine (impl_DogTurns.calls kj47 t520 t521 t522 t523 t533 t542 true _ A52.out).mono ?_); rintro e w61 ⟨v543, rfl, ho0, hb⟩; have n0_ := Aside0.mk (Kd.S_lower ho0 (below_size bw_)); have n1_ := Aside0.mk (bb_ BK526.out hb); have n2_ := Aside0.mk (below_step bw_ hb); clear BK526; clear HB; have HO544 := n0_; have BK526 := n1_; have HB := n2_; clear n0_ n1_ n2_; (try clear hb); (try clear hb2); (try clear hk); (try clear hi); (try clear ho0); obtain ⟨Ao62, co62, eo62⟩ := Kd.S_slice HO544.out; subst eo62; have p546 : 0 ≤ ((ji54) : Int) := of_decide_eq_true (by first | (with_reducible assumption) | assumption); have q546 : (ji54) < (t542.length : Int) := of_decide_eq_true (by first | (with_reducible assumption) | assumption); obtain ⟨ad546, A546_0, c546_0, e546, hx546_0, hl546_0, hi546_0⟩ := at_L4 (Kd.S_reads' HO544.out).2.2 (ji54) p546 q546; cases e546; obtain ⟨ce546, hce546, hMe546, hcc546⟩ := Kd.S_get HO544.out [] (ji54) p546 (by first | exact q546 | exact of_decide_eq_true (by first | (with_reducible assumption) | assumption) | (have e_ := (Kd.S_reads' HO544.out).1; omega)); obtain ⟨ve546_0, rfl, ge546_0⟩ := hMe546; have hv546_0 := hcc546 0 _ rfl; rw [Nat.add_zero, show ((Kd.slice 3 (Kd.int .i64))).sz = 1 from rfl, Nat.mul_one] at hv546_0; replace hv546_0 := Option.some.inj (hv546_0.symm.trans hx546_0); rw [hv546_0] at ge546_0; have HL546_0 := Aside0.mk (show Kd.R (Kd.int .i64) 3 _ _ _ _ (rd_L4 t542 (ji54)) from ge546_0); clear hv546_0 ge546_0; clear hcc546 hce546; have HR546_0 := Aside0.mk hi546_0; have HC546_0 := Aside0.mk hl546_0; clear hi546_0 hl546_0; replace p546 := eq_true p546; replace q546 := eq_true q546; have p547 : 0 ≤ (0 : Int) := (by omega); have q547 : 0 < ((rd_L4 t542 (ji54)).length : Int) := of_decide_eq_true (by first | (with_reducible assumption) | assumption); obtain ⟨ad547, e547, hx547_0⟩ := Kd.at_int (by repeat (first | (with_reducible exact HR546_0.out) | (with_reducible refine Kd.C_alloc ?_ _) | (with_reducible refine Kd.C_drewN ?_ _) | (with_reducible refine Kd.C_drew ?_) | exact HR546_0.out)) 0 p547 q547; cases e547; have qi547 : (0 < (rd_L4 t542 (ji54)).length) = True := eq_true (by omega); (try rw [show ((0 : Int)).toNat = 0 from rfl] at hx547_0); (try rw [Addr.add_zero'] at hx547_0); replace p547 := eq_true p547; replace q547 := eq_true q547; have p548 : 0 ≤ ((ji54) : Int) := of_decide_eq_true (by first | (with_reducible assumption) | assumption); have q548 : (ji54) < (t542.length : Int) := of_decide_eq_true (by first | (with_reducible assumption) | assumption); obtain ⟨ad548, A548_0, c548_0, e548, hx548_0, hl548_0, hi548_0⟩ := at_L4 (Kd.S_reads' HO544.out).2.2 (ji54) p548 q548; obtain rfl : ad546 = ad548 := (by injection e548); obtain ⟨ce548, hce548, hMe548, hcc548⟩ := Kd.S_get HO544.out [] (ji54) p548 (by first | exact q548 | exact of_decide_eq_true (by first | (with_reducible assumption) | assumption) | (have e_ := (Kd.S_reads' HO544.out).1; omega)); obtain ⟨ve548_0, rfl, ge548_0⟩ := hMe548; have hv548_0 := hcc548 0 _ rfl; rw [Nat.add_zero, show ((Kd.slice 3 (Kd.int .i64))).sz = 1 from rfl, Nat.mul_one] at hv548_0; replace hv548_0 := Option.some.inj (hv548_0.symm.trans hx548_0); rw [hv548_0] at ge548_0; have HL548_0 := Aside0.mk (show Kd.R (Kd.int .i64) 3 _ _ _ _ (rd_L4 t542 (ji54)) from ge548_0); clear hv548_0 ge548_0; clear hcc548 hce548; have HR548_0 := Aside0.mk hi548_0; have HC548_0 := Aside0.mk hl548_0; clear hi548_0 hl548_0; replace p548 := eq_true p548; replace q548 := eq_true q548; have ea_ := Option.some.inj (hx546_0.symm.trans hx548_0); injection ea_ with ea_ en_ ec_; subst ea_; subst ec_; clear en_; have p549 : 0 ≤ (1 : Int) := (by omega); have q549 : 1 < ((rd_L4 t542 (ji54)).length : Int) := of_decide_eq_true (by first | (with_reducible assumption) | assumption); obtain ⟨ad549, e549, hx549_0⟩ := Kd.at_int (by repeat (first | (with_reducible exact HR548_0.out) | (with_reducible refine Kd.C_alloc ?_ _) | (with_reducible refine Kd.C_drewN ?_ _) | (with_reducible refine Kd.C_drew ?_) | exact HR548_0.out)) 1 p549 q549; cases e549; (try simp only [show (1 : Int).toNat = 1 from rfl, Nat.reduceMul, Nat.reduceEqDiff, Go.Addr.add, ↓reduceIte] at hx549_0); have qi549 : (1 < (rd_L4 t542 (ji54)).length) = True := eq_true (by omega); (try rw [show ((1 : Int)).toNat = 1 from rfl] at hx549_0); replace p549 := eq_true p549; replace q549 := eq_true q549))
                      repeat (go_quiet (first | (go_at_call 13; (with_reducible refine (impl_DogTurns.calls kj47 t520 t521 t522 t523 t533 t542 true _ A52.out).mono ?_); rintro e w61 ⟨v543, rfl, ho0, hb⟩; have n0_ := Aside0.mk (Kd.S_lower ho0 (below_size bw_)); have n1_ := Aside0.mk (bb_ BK526.out hb); have n2_ := Aside0.mk (below_step bw_ hb); clear BK526; clear HB; have HO544 := n0_; have BK526 := n1_; have HB := n2_; clear n0_ n1_ n2_; (try clear hb); (try clear hb2); (try clear hk); (try clear hi); (try clear ho0); obtain ⟨Ao62, co62, eo62⟩ := Kd.S_slice HO544.out; subst eo62; have p546 : 0 ≤ ((ji54) : Int) := of_decide_eq_true (by first | (with_reducible assumption) | assumption); have q546 : (ji54) < (t542.length : Int) := of_decide_eq_true (by first | (with_reducible assumption) | assumption); obtain ⟨ad546, A546_0, c546_0, e546, hx546_0, hl546_0, hi546_0⟩ := at_L4 (Kd.S_reads' HO544.out).2.2 (ji54) p546 q546; cases e546; obtain ⟨ce546, hce546, hMe546, hcc546⟩ := Kd.S_get HO544.out [] (ji54) p546 (by first | exact q546 | exact of_decide_eq_true (by first | (with_reducible assumption) | assumption) | (have e_ := (Kd.S_reads' HO544.out).1; omega)); obtain ⟨ve546_0, rfl, ge546_0⟩ := hMe546; have hv546_0 := hcc546 0 _ rfl; rw [Nat.add_zero, show ((Kd.slice 3 (Kd.int .i64))).sz = 1 from rfl, Nat.mul_one] at hv546_0; replace hv546_0 := Option.some.inj (hv546_0.symm.trans hx546_0); rw [hv546_0] at ge546_0; have HL546_0 := Aside0.mk (show Kd.R (Kd.int .i64) 3 _ _ _ _ (rd_L4 t542 (ji54)) from ge546_0); clear hv546_0 ge546_0; clear hcc546 hce546; have HR546_0 := Aside0.mk hi546_0; have HC546_0 := Aside0.mk hl546_0; clear hi546_0 hl546_0; replace p546 := eq_true p546; replace q546 := eq_true q546; have p547 : 0 ≤ (0 : Int) := (by omega); have q547 : 0 < ((rd_L4 t542 (ji54)).length : Int) := of_decide_eq_true (by first | (with_reducible assumption) | assumption); obtain ⟨ad547, e547, hx547_0⟩ := Kd.at_int (by repeat (first | (with_reducible exact HR546_0.out) | (with_reducible refine Kd.C_alloc ?_ _) | (with_reducible refine Kd.C_drewN ?_ _) | (with_reducible refine Kd.C_drew ?_) | exact HR546_0.out)) 0 p547 q547; cases e547; have qi547 : (0 < (rd_L4 t542 (ji54)).length) = True := eq_true (by omega); (try rw [show ((0 : Int)).toNat = 0 from rfl] at hx547_0); (try rw [Addr.add_zero'] at hx547_0); replace p547 := eq_true p547; replace q547 := eq_true q547; have p548 : 0 ≤ ((ji54) : Int) := of_decide_eq_true (by first | (with_reducible assumption) | assumption); have q548 : (ji54) < (t542.length : Int) := of_decide_eq_true (by first | (with_reducible assumption) | assumption); obtain ⟨ad548, A548_0, c548_0, e548, hx548_0, hl548_0, hi548_0⟩ := at_L4 (Kd.S_reads' HO544.out).2.2 (ji54) p548 q548; obtain rfl : ad546 = ad548 := (by injection e548); obtain ⟨ce548, hce548, hMe548, hcc548⟩ := Kd.S_get HO544.out [] (ji54) p548 (by first | exact q548 | exact of_decide_eq_true (by first | (with_reducible assumption) | assumption) | (have e_ := (Kd.S_reads' HO544.out).1; omega)); obtain ⟨ve548_0, rfl, ge548_0⟩ := hMe548; have hv548_0 := hcc548 0 _ rfl; rw [Nat.add_zero, show ((Kd.slice 3 (Kd.int .i64))).sz = 1 from rfl, Nat.mul_one] at hv548_0; replace hv548_0 := Option.some.inj (hv548_0.symm.trans hx548_0); rw [hv548_0] at ge548_0; have HL548_0 := Aside0.mk (show Kd.R (Kd.int .i64) 3 _ _ _ _ (rd_L4 t542 (ji54)) from ge548_0); clear hv548_0 ge548_0; clear hcc548 hce548; have HR548_0 := Aside0.mk hi548_0; have HC548_0 := Aside0.mk hl548_0; clear hi548_0 hl548_0; replace p548 := eq_true p548; replace q548 := eq_true q548; have ea_ := Option.some.inj (hx546_0.symm.trans hx548_0); injection ea_ with ea_ en_ ec_; subst ea_; subst ec_; clear en_; have p549 : 0 ≤ (1 : Int) := (by omega); have q549 : 1 < ((rd_L4 t542 (ji54)).length : Int) := of_decide_eq_true (by first | (with_reducible assumption) | assumption); obtain ⟨ad549, e549, hx549_0⟩ := Kd.at_int (by repeat (first | (with_reducible exact HR548_0.out) | (with_reducible refine Kd.C_alloc ?_ _) | (with_reducible refine Kd.C_drewN ?_ _) | (with_reducible refine Kd.C_drew ?_) | exact HR548_0.out)) 1 p549 q549; cases e549; (try simp only [show (1 : Int).toNat = 1 from rfl, Nat.reduceMul, Nat.reduceEqDiff, Go.Addr.add, ↓reduceIte] at hx549_0); have qi549 : (1 < (rd_L4 t542 (ji54)).length) = True := eq_true (by omega); (try rw [show ((1 : Int)).toNat = 1 from rfl] at hx549_0); replace p549 := eq_true p549; replace q549 := eq_true q549)); try go_wp2_with (first | (go_at_call 13; (with_reducible refine (impl_DogTurns.calls kj47 t520 t521 t522 t523 t533 t542 true _ A52.out).mono ?_); rintro e w61 ⟨v543, rfl, ho0, hb⟩; have n0_ := Aside0.mk (Kd.S_lower ho0 (below_size bw_)); have n1_ := Aside0.mk (bb_ BK526.out hb); have n2_ := Aside0.mk (below_step bw_ hb); clear BK526; clear HB; have HO544 := n0_; have BK526 := n1_; have HB := n2_; clear n0_ n1_ n2_; (try clear hb); (try clear hb2); (try clear hk); (try clear hi); (try clear ho0); obtain ⟨Ao62, co62, eo62⟩ := Kd.S_slice HO544.out; subst eo62; have p546 : 0 ≤ ((ji54) : Int) := of_decide_eq_true (by first | (with_reducible assumption) | assumption); have q546 : (ji54) < (t542.length : Int) := of_decide_eq_true (by first | (with_reducible assumption) | assumption); obtain ⟨ad546, A546_0, c546_0, e546, hx546_0, hl546_0, hi546_0⟩ := at_L4 (Kd.S_reads' HO544.out).2.2 (ji54) p546 q546; cases e546; obtain ⟨ce546, hce546, hMe546, hcc546⟩ := Kd.S_get HO544.out [] (ji54) p546 (by first | exact q546 | exact of_decide_eq_true (by first | (with_reducible assumption) | assumption) | (have e_ := (Kd.S_reads' HO544.out).1; omega)); obtain ⟨ve546_0, rfl, ge546_0⟩ := hMe546; have hv546_0 := hcc546 0 _ rfl; rw [Nat.add_zero, show ((Kd.slice 3 (Kd.int .i64))).sz = 1 from rfl, Nat.mul_one] at hv546_0; replace hv546_0 := Option.some.inj (hv546_0.symm.trans hx546_0); rw [hv546_0] at ge546_0; have HL546_0 := Aside0.mk (show Kd.R (Kd.int .i64) 3 _ _ _ _ (rd_L4 t542 (ji54)) from ge546_0); clear hv546_0 ge546_0; clear hcc546 hce546; have HR546_0 := Aside0.mk hi546_0; have HC546_0 := Aside0.mk hl546_0; clear hi546_0 hl546_0; replace p546 := eq_true p546; replace q546 := eq_true q546; have p547 : 0 ≤ (0 : Int) := (by omega); have q547 : 0 < ((rd_L4 t542 (ji54)).length : Int) := of_decide_eq_true (by first | (with_reducible assumption) | assumption); obtain ⟨ad547, e547, hx547_0⟩ := Kd.at_int (by repeat (first | (with_reducible exact HR546_0.out) | (with_reducible refine Kd.C_alloc ?_ _) | (with_reducible refine Kd.C_drewN ?_ _) | (with_reducible refine Kd.C_drew ?_) | exact HR546_0.out)) 0 p547 q547; cases e547; have qi547 : (0 < (rd_L4 t542 (ji54)).length) = True := eq_true (by omega); (try rw [show ((0 : Int)).toNat = 0 from rfl] at hx547_0); (try rw [Addr.add_zero'] at hx547_0); replace p547 := eq_true p547; replace q547 := eq_true q547; have p548 : 0 ≤ ((ji54) : Int) := of_decide_eq_true (by first | (with_reducible assumption) | assumption); have q548 : (ji54) < (t542.length : Int) := of_decide_eq_true (by first | (with_reducible assumption) | assumption); obtain ⟨ad548, A548_0, c548_0, e548, hx548_0, hl548_0, hi548_0⟩ := at_L4 (Kd.S_reads' HO544.out).2.2 (ji54) p548 q548; obtain rfl : ad546 = ad548 := (by injection e548); obtain ⟨ce548, hce548, hMe548, hcc548⟩ := Kd.S_get HO544.out [] (ji54) p548 (by first | exact q548 | exact of_decide_eq_true (by first | (with_reducible assumption) | assumption) | (have e_ := (Kd.S_reads' HO544.out).1; omega)); obtain ⟨ve548_0, rfl, ge548_0⟩ := hMe548; have hv548_0 := hcc548 0 _ rfl; rw [Nat.add_zero, show ((Kd.slice 3 (Kd.int .i64))).sz = 1 from rfl, Nat.mul_one] at hv548_0; replace hv548_0 := Option.some.inj (hv548_0.symm.trans hx548_0); rw [hv548_0] at ge548_0; have HL548_0 := Aside0.mk (show Kd.R (Kd.int .i64) 3 _ _ _ _ (rd_L4 t542 (ji54)) from ge548_0); clear hv548_0 ge548_0; clear hcc548 hce548; have HR548_0 := Aside0.mk hi548_0; have HC548_0 := Aside0.mk hl548_0; clear hi548_0 hl548_0; replace p548 := eq_true p548; replace q548 := eq_true q548; have ea_ := Option.some.inj (hx546_0.symm.trans hx548_0); injection ea_ with ea_ en_ ec_; subst ea_; subst ec_; clear en_; have p549 : 0 ≤ (1 : Int) := (by omega); have q549 : 1 < ((rd_L4 t542 (ji54)).length : Int) := of_decide_eq_true (by first | (with_reducible assumption) | assumption); obtain ⟨ad549, e549, hx549_0⟩ := Kd.at_int (by repeat (first | (with_reducible exact HR548_0.out) | (with_reducible refine Kd.C_alloc ?_ _) | (with_reducible refine Kd.C_drewN ?_ _) | (with_reducible refine Kd.C_drew ?_) | exact HR548_0.out)) 1 p549 q549; cases e549; (try simp only [show (1 : Int).toNat = 1 from rfl, Nat.reduceMul, Nat.reduceEqDiff, Go.Addr.add, ↓reduceIte] at hx549_0); have qi549 : (1 < (rd_L4 t542 (ji54)).length) = True := eq_true (by omega); (try rw [show ((1 : Int)).toNat = 1 from rfl] at hx549_0); replace p549 := eq_true p549; replace q549 := eq_true q549)))
                      go_meet
                      case rel => exact ⟨_, H', ⟨by have := HJ11.out; have := HJ35.out; have := HJ44.out; have := HJ47.out; first | omega | exact Nat.le_refl _⟩, ⟨bk_⟩, ⟨bw_⟩⟩
                    ·
                     rw [if_neg c58] at H
                     exact absurd H (by simp)
                   ·
                    rw [if_neg c57] at H
                    exact absurd H (by simp)
                  ·
                   rw [if_neg c56] at H
                   exact absurd H (by simp)
                 ·
                  rw [if_neg c55] at H
                  exact absurd H (by simp)
                ·
                 replace c53 := Bool.eq_false_iff.mpr c53
                 subst c53
                 rw [if_neg (show ¬ (false = true) by decide)] at H
                 exact absurd ((Option.some.inj H).trans HRT.out) (by decide)
               ·
                replace c51 := Bool.eq_false_iff.mpr c51
                subst c51
                rw [if_neg (show ¬ (false = true) by decide)] at H
                have H' := Aside0.mk H
                clear H
                go_wp2
                repeat (go_quiet (fail); try go_wp2)
                go_meet
                case rel => exact ⟨_, H', ⟨by have := HJ11.out; have := HJ35.out; have := HJ44.out; have := HJ47.out; first | omega | exact Nat.le_refl _⟩, ⟨bk_⟩, ⟨bw_⟩⟩
              case rest => as_aux_lemma =>
               clear HC50
               (try clear c1); (try clear c4); (try clear c35); (try clear c44); (try clear c47); (try clear hcz15_0); (try clear hcz15_1); (try clear hcz15_2); (try clear hcz15_3); (try clear hcz17_0); (try clear hcz17_1); (try clear hcz17_2); (try clear hcz17_3); (try clear hcz19_0); (try clear hcz19_1); (try clear hcz19_2); (try clear hcz19_3); (try clear hcz21_0); (try clear hcz21_1); (try clear hcz21_2); (try clear hcz21_3); (try clear hcz23_0); (try clear hcz23_1); (try clear hcz23_2); (try clear hcz23_3); (try clear hcz25_0); (try clear hcz25_1); (try clear hcz25_2); (try clear hcz25_3); (try clear hfz15_0); (try clear hfz15_1); (try clear hfz15_2); (try clear hfz15_3); (try clear hfz17_0); (try clear hfz17_1); (try clear hfz17_2); (try clear hfz17_3); (try clear hfz19_0); (try clear hfz19_1); (try clear hfz19_2); (try clear hfz19_3); (try clear hfz21_0); (try clear hfz21_1); (try clear hfz21_2); (try clear hfz21_3); (try clear hfz23_0); (try clear hfz23_1); (try clear hfz23_2); (try clear hfz23_3); (try clear hfz25_0); (try clear hfz25_1); (try clear hfz25_2); (try clear hfz25_3)
               obtain ⟨kq, HA, HJ49, BK526, HB⟩ := hcut
               cases kq with
               | zero => exact absurd HA.out (by simp [laws_FnDogsChase.j4])
               | succ kj49 =>
                have H := HA.out
                clear HA
                simp only [laws_FnDogsChase.j4] at H
                by_cases c63 : t533 < 3
                ·
                 rw [if_pos c63] at H
                 have c63b0 : decide (t533 < 3) = true := decide_eq_true c63
                 clear c63
                 replace H := Option.bind_eq_some_iff.mp H
                 obtain ⟨⟨t550, t553⟩, A640, H⟩ := H
                 (try dsimp only at H)
                 have A64 := Aside0.mk A640
                 clear A640
                 by_cases c65 : t553 = true
                 ·
                  subst c65
                  rw [if_pos rfl] at H
                  by_cases c66 : 0 ≤ t533
                  ·
                   rw [if_pos c66] at H
                   have c66b0 : decide (0 ≤ t533) = true := decide_eq_true c66
                   clear c66
                   by_cases c67 : t533 < (t550.length : Int)
                   ·
                    rw [if_pos c67] at H
                    have c67b0 : decide (t533 < (t550.length : Int)) = true := decide_eq_true c67
                    clear c67
                    by_cases c68 : 0 < ((rd_L4 t550 t533).length : Int)
                    ·
                     rw [if_pos c68] at H
                     have c68b0 : decide (0 < ((rd_L4 t550 t533).length : Int)) = true := decide_eq_true c68
                     have c68b1 : decide (0 < (rd_L4 t550 t533).length) = true := decide_eq_true (by omega)
                     clear c68
                     by_cases c69 : 1 < ((rd_L4 t550 t533).length : Int)
                     ·
                      rw [if_pos c69] at H
                      have c69b0 : decide (1 < ((rd_L4 t550 t533).length : Int)) = true := decide_eq_true c69
                      have c69b1 : decide (1 < (rd_L4 t550 t533).length) = true := decide_eq_true (by omega)
                      clear c69
                      by_cases c70 : (wrap64 ((rd (rd_L4 t550 t533) 0) * t525)) ≤ (wrap64 (t524 * (rd (rd_L4 t550 t533) 1)))
                      ·
                       rw [if_pos c70] at H
                       have c70b0 : decide ((wrap64 ((rd (rd_L4 t550 t533) 0) * t525)) ≤ (wrap64 (t524 * (rd (rd_L4 t550 t533) 1)))) = true := decide_eq_true c70
                       clear c70
                       exact absurd ((Option.some.inj H).trans HRT.out) (by decide)
                      ·
                       rw [if_neg c70] at H
                       have c70b0 : decide ((wrap64 ((rd (rd_L4 t550 t533) 0) * t525)) ≤ (wrap64 (t524 * (rd (rd_L4 t550 t533) 1)))) = false := decide_eq_false c70
                       clear c70
                       have H' := Aside0.mk H
                       clear H
                       obtain ⟨hcz71_0, hcz71_1, hcz71_2, hcz71_3, hfz71_0, hfz71_1, hfz71_2, hfz71_3⟩ := four_ BK526.out
                       go_wp2_with (first | (go_at_call 13; (with_reducible refine (impl_DogTurns.calls kj49 t520 t521 t522 t523 (wrap64 (t533 + 1)) t550 true _ A64.out).mono ?_); rintro e w72 ⟨v551, rfl, ho0, hb⟩; have n0_ := Aside0.mk (Kd.S_lower ho0 (below_size bw_)); have n1_ := Aside0.mk (bb_ BK526.out hb); have n2_ := Aside0.mk (below_step bw_ hb); clear BK526; clear HB; have HO552 := n0_; have BK526 := n1_; have HB := n2_; clear n0_ n1_ n2_; (try clear hb); (try clear hb2); (try clear hk); (try clear hi); (try clear ho0); obtain ⟨Ao73, co73, eo73⟩ := Kd.S_slice HO552.out; subst eo73; have p554 : 0 ≤ (t533 : Int) := of_decide_eq_true (by first | (with_reducible assumption) | assumption); have q554 : t533 < (t550.length : Int) := of_decide_eq_true (by first | (with_reducible assumption) | assumption); obtain ⟨ad554, A554_0, c554_0, e554, hx554_0, hl554_0, hi554_0⟩ := at_L4 (Kd.S_reads' HO552.out).2.2 t533 p554 q554; cases e554; obtain ⟨ce554, hce554, hMe554, hcc554⟩ := Kd.S_get HO552.out [] t533 p554 (by first | exact q554 | exact of_decide_eq_true (by first | (with_reducible assumption) | assumption) | (have e_ := (Kd.S_reads' HO552.out).1; omega)); obtain ⟨ve554_0, rfl, ge554_0⟩ := hMe554; have hv554_0 := hcc554 0 _ rfl; rw [Nat.add_zero, show ((Kd.slice 3 (Kd.int .i64))).sz = 1 from rfl, Nat.mul_one] at hv554_0; replace hv554_0 := Option.some.inj (hv554_0.symm.trans hx554_0); rw [hv554_0] at ge554_0; have HL554_0 := Aside0.mk (show Kd.R (Kd.int .i64) 3 _ _ _ _ (rd_L4 t550 t533) from ge554_0); clear hv554_0 ge554_0; clear hcc554 hce554; have HR554_0 := Aside0.mk hi554_0; have HC554_0 := Aside0.mk hl554_0; clear hi554_0 hl554_0; replace p554 := eq_true p554; replace q554 := eq_true q554; have p555 : 0 ≤ (0 : Int) := (by omega); have q555 : 0 < ((rd_L4 t550 t533).length : Int) := of_decide_eq_true (by first | (with_reducible assumption) | assumption); obtain ⟨ad555, e555, hx555_0⟩ := Kd.at_int (by repeat (first | (with_reducible exact HR554_0.out) | (with_reducible refine Kd.C_alloc ?_ _) | (with_reducible refine Kd.C_drewN ?_ _) | (with_reducible refine Kd.C_drew ?_) | exact HR554_0.out)) 0 p555 q555; cases e555; have qi555 : (0 < (rd_L4 t550 t533).length) = True := eq_true (by omega); (try rw [show ((0 : Int)).toNat = 0 from rfl] at hx555_0); (try rw [Addr.add_zero'] at hx555_0); replace p555 := eq_true p555; replace q555 := eq_true q555; have p556 : 0 ≤ (t533 : Int) := of_decide_eq_true (by first | (with_reducible assumption) | assumption); have q556 : t533 < (t550.length : Int) := of_decide_eq_true (by first | (with_reducible assumption) | assumption); obtain ⟨ad556, A556_0, c556_0, e556, hx556_0, hl556_0, hi556_0⟩ := at_L4 (Kd.S_reads' HO552.out).2.2 t533 p556 q556; obtain rfl : ad554 = ad556 := (by injection e556); obtain ⟨ce556, hce556, hMe556, hcc556⟩ := Kd.S_get HO552.out [] t533 p556 (by first | exact q556 | exact of_decide_eq_true (by first | (with_reducible assumption) | assumption) | (have e_ := (Kd.S_reads' HO552.out).1; omega)); obtain ⟨ve556_0, rfl, ge556_0⟩ := hMe556; have hv556_0 := hcc556 0 _ rfl; rw [Nat.add_zero, show ((Kd.slice 3 (Kd.int .i64))).sz = 1 from rfl, Nat.mul_one] at hv556_0; replace hv556_0 := Option.some.inj (hv556_0.symm.trans hx556_0); rw [hv556_0] at ge556_0; have HL556_0 := Aside0.mk (show Kd.R (Kd.int .i64) 3 _ _ _ _ (rd_L4 t550 t533) from ge556_0); clear hv556_0 ge556_0; clear hcc556 hce556; have HR556_0 := Aside0.mk hi556_0; have HC556_0 := Aside0.mk hl556_0; clear hi556_0 hl556_0; replace p556 := eq_true p556; replace q556 := eq_true q556; have ea_ := Option.some.inj (hx554_0.symm.trans hx556_0); injection ea_ with ea_ en_ ec_; subst ea_; subst ec_; clear en_; have p557 : 0 ≤ (1 : Int) := (by omega); have q557 : 1 < ((rd_L4 t550 t533).length : Int) := of_decide_eq_true (by first | (with_reducible assumption) | assumption); obtain ⟨ad557, e557, hx557_0⟩ := Kd.at_int (by repeat (first | (with_reducible exact HR556_0.out) | (with_reducible refine Kd.C_alloc ?_ _) | (with_reducible refine Kd.C_drewN ?_ _) | (with_reducible refine Kd.C_drew ?_) | exact HR556_0.out)) 1 p557 q557; cases e557; (try simp only [show (1 : Int).toNat = 1 from rfl, Nat.reduceMul, Nat.reduceEqDiff, Go.Addr.add, ↓reduceIte] at hx557_0); have qi557 : (1 < (rd_L4 t550 t533).length) = True := eq_true (by omega); (try rw [show ((1 : Int)).toNat = 1 from rfl] at hx557_0); replace p557 := eq_true p557; replace q557 := eq_true q557))
                       repeat (go_quiet (first | (go_at_call 13; (with_reducible refine (impl_DogTurns.calls kj49 t520 t521 t522 t523 (wrap64 (t533 + 1)) t550 true _ A64.out).mono ?_); rintro e w72 ⟨v551, rfl, ho0, hb⟩; have n0_ := Aside0.mk (Kd.S_lower ho0 (below_size bw_)); have n1_ := Aside0.mk (bb_ BK526.out hb); have n2_ := Aside0.mk (below_step bw_ hb); clear BK526; clear HB; have HO552 := n0_; have BK526 := n1_; have HB := n2_; clear n0_ n1_ n2_; (try clear hb); (try clear hb2); (try clear hk); (try clear hi); (try clear ho0); obtain ⟨Ao73, co73, eo73⟩ := Kd.S_slice HO552.out; subst eo73; have p554 : 0 ≤ (t533 : Int) := of_decide_eq_true (by first | (with_reducible assumption) | assumption); have q554 : t533 < (t550.length : Int) := of_decide_eq_true (by first | (with_reducible assumption) | assumption); obtain ⟨ad554, A554_0, c554_0, e554, hx554_0, hl554_0, hi554_0⟩ := at_L4 (Kd.S_reads' HO552.out).2.2 t533 p554 q554; cases e554; obtain ⟨ce554, hce554, hMe554, hcc554⟩ := Kd.S_get HO552.out [] t533 p554 (by first | exact q554 | exact of_decide_eq_true (by first | (with_reducible assumption) | assumption) | (have e_ := (Kd.S_reads' HO552.out).1; omega)); obtain ⟨ve554_0, rfl, ge554_0⟩ := hMe554; have hv554_0 := hcc554 0 _ rfl; rw [Nat.add_zero, show ((Kd.slice 3 (Kd.int .i64))).sz = 1 from rfl, Nat.mul_one] at hv554_0; replace hv554_0 := Option.some.inj (hv554_0.symm.trans hx554_0); rw [hv554_0] at ge554_0; have HL554_0 := Aside0.mk (show Kd.R (Kd.int .i64) 3 _ _ _ _ (rd_L4 t550 t533) from ge554_0); clear hv554_0 ge554_0; clear hcc554 hce554; have HR554_0 := Aside0.mk hi554_0; have HC554_0 := Aside0.mk hl554_0; clear hi554_0 hl554_0; replace p554 := eq_true p554; replace q554 := eq_true q554; have p555 : 0 ≤ (0 : Int) := (by omega); have q555 : 0 < ((rd_L4 t550 t533).length : Int) := of_decide_eq_true (by first | (with_reducible assumption) | assumption); obtain ⟨ad555, e555, hx555_0⟩ := Kd.at_int (by repeat (first | (with_reducible exact HR554_0.out) | (with_reducible refine Kd.C_alloc ?_ _) | (with_reducible refine Kd.C_drewN ?_ _) | (with_reducible refine Kd.C_drew ?_) | exact HR554_0.out)) 0 p555 q555; cases e555; have qi555 : (0 < (rd_L4 t550 t533).length) = True := eq_true (by omega); (try rw [show ((0 : Int)).toNat = 0 from rfl] at hx555_0); (try rw [Addr.add_zero'] at hx555_0); replace p555 := eq_true p555; replace q555 := eq_true q555; have p556 : 0 ≤ (t533 : Int) := of_decide_eq_true (by first | (with_reducible assumption) | assumption); have q556 : t533 < (t550.length : Int) := of_decide_eq_true (by first | (with_reducible assumption) | assumption); obtain ⟨ad556, A556_0, c556_0, e556, hx556_0, hl556_0, hi556_0⟩ := at_L4 (Kd.S_reads' HO552.out).2.2 t533 p556 q556; obtain rfl : ad554 = ad556 := (by injection e556); obtain ⟨ce556, hce556, hMe556, hcc556⟩ := Kd.S_get HO552.out [] t533 p556 (by first | exact q556 | exact of_decide_eq_true (by first | (with_reducible assumption) | assumption) | (have e_ := (Kd.S_reads' HO552.out).1; omega)); obtain ⟨ve556_0, rfl, ge556_0⟩ := hMe556; have hv556_0 := hcc556 0 _ rfl; rw [Nat.add_zero, show ((Kd.slice 3 (Kd.int .i64))).sz = 1 from rfl, Nat.mul_one] at hv556_0; replace hv556_0 := Option.some.inj (hv556_0.symm.trans hx556_0); rw [hv556_0] at ge556_0; have HL556_0 := Aside0.mk (show Kd.R (Kd.int .i64) 3 _ _ _ _ (rd_L4 t550 t533) from ge556_0); clear hv556_0 ge556_0; clear hcc556 hce556; have HR556_0 := Aside0.mk hi556_0; have HC556_0 := Aside0.mk hl556_0; clear hi556_0 hl556_0; replace p556 := eq_true p556; replace q556 := eq_true q556; have ea_ := Option.some.inj (hx554_0.symm.trans hx556_0); injection ea_ with ea_ en_ ec_; subst ea_; subst ec_; clear en_; have p557 : 0 ≤ (1 : Int) := (by omega); have q557 : 1 < ((rd_L4 t550 t533).length : Int) := of_decide_eq_true (by first | (with_reducible assumption) | assumption); obtain ⟨ad557, e557, hx557_0⟩ := Kd.at_int (by repeat (first | (with_reducible exact HR556_0.out) | (with_reducible refine Kd.C_alloc ?_ _) | (with_reducible refine Kd.C_drewN ?_ _) | (with_reducible refine Kd.C_drew ?_) | exact HR556_0.out)) 1 p557 q557; cases e557; (try simp only [show (1 : Int).toNat = 1 from rfl, Nat.reduceMul, Nat.reduceEqDiff, Go.Addr.add, ↓reduceIte] at hx557_0); have qi557 : (1 < (rd_L4 t550 t533).length) = True := eq_true (by omega); (try rw [show ((1 : Int)).toNat = 1 from rfl] at hx557_0); replace p557 := eq_true p557; replace q557 := eq_true q557)); try go_wp2_with (first | (go_at_call 13; (with_reducible refine (impl_DogTurns.calls kj49 t520 t521 t522 t523 (wrap64 (t533 + 1)) t550 true _ A64.out).mono ?_); rintro e w72 ⟨v551, rfl, ho0, hb⟩; have n0_ := Aside0.mk (Kd.S_lower ho0 (below_size bw_)); have n1_ := Aside0.mk (bb_ BK526.out hb); have n2_ := Aside0.mk (below_step bw_ hb); clear BK526; clear HB; have HO552 := n0_; have BK526 := n1_; have HB := n2_; clear n0_ n1_ n2_; (try clear hb); (try clear hb2); (try clear hk); (try clear hi); (try clear ho0); obtain ⟨Ao73, co73, eo73⟩ := Kd.S_slice HO552.out; subst eo73; have p554 : 0 ≤ (t533 : Int) := of_decide_eq_true (by first | (with_reducible assumption) | assumption); have q554 : t533 < (t550.length : Int) := of_decide_eq_true (by first | (with_reducible assumption) | assumption); obtain ⟨ad554, A554_0, c554_0, e554, hx554_0, hl554_0, hi554_0⟩ := at_L4 (Kd.S_reads' HO552.out).2.2 t533 p554 q554; cases e554; obtain ⟨ce554, hce554, hMe554, hcc554⟩ := Kd.S_get HO552.out [] t533 p554 (by first | exact q554 | exact of_decide_eq_true (by first | (with_reducible assumption) | assumption) | (have e_ := (Kd.S_reads' HO552.out).1; omega)); obtain ⟨ve554_0, rfl, ge554_0⟩ := hMe554; have hv554_0 := hcc554 0 _ rfl; rw [Nat.add_zero, show ((Kd.slice 3 (Kd.int .i64))).sz = 1 from rfl, Nat.mul_one] at hv554_0; replace hv554_0 := Option.some.inj (hv554_0.symm.trans hx554_0); rw [hv554_0] at ge554_0; have HL554_0 := Aside0.mk (show Kd.R (Kd.int .i64) 3 _ _ _ _ (rd_L4 t550 t533) from ge554_0); clear hv554_0 ge554_0; clear hcc554 hce554; have HR554_0 := Aside0.mk hi554_0; have HC554_0 := Aside0.mk hl554_0; clear hi554_0 hl554_0; replace p554 := eq_true p554; replace q554 := eq_true q554; have p555 : 0 ≤ (0 : Int) := (by omega); have q555 : 0 < ((rd_L4 t550 t533).length : Int) := of_decide_eq_true (by first | (with_reducible assumption) | assumption); obtain ⟨ad555, e555, hx555_0⟩ := Kd.at_int (by repeat (first | (with_reducible exact HR554_0.out) | (with_reducible refine Kd.C_alloc ?_ _) | (with_reducible refine Kd.C_drewN ?_ _) | (with_reducible refine Kd.C_drew ?_) | exact HR554_0.out)) 0 p555 q555; cases e555; have qi555 : (0 < (rd_L4 t550 t533).length) = True := eq_true (by omega); (try rw [show ((0 : Int)).toNat = 0 from rfl] at hx555_0); (try rw [Addr.add_zero'] at hx555_0); replace p555 := eq_true p555; replace q555 := eq_true q555; have p556 : 0 ≤ (t533 : Int) := of_decide_eq_true (by first | (with_reducible assumption) | assumption); have q556 : t533 < (t550.length : Int) := of_decide_eq_true (by first | (with_reducible assumption) | assumption); obtain ⟨ad556, A556_0, c556_0, e556, hx556_0, hl556_0, hi556_0⟩ := at_L4 (Kd.S_reads' HO552.out).2.2 t533 p556 q556; obtain rfl : ad554 = ad556 := (by injection e556); obtain ⟨ce556, hce556, hMe556, hcc556⟩ := Kd.S_get HO552.out [] t533 p556 (by first | exact q556 | exact of_decide_eq_true (by first | (with_reducible assumption) | assumption) | (have e_ := (Kd.S_reads' HO552.out).1; omega)); obtain ⟨ve556_0, rfl, ge556_0⟩ := hMe556; have hv556_0 := hcc556 0 _ rfl; rw [Nat.add_zero, show ((Kd.slice 3 (Kd.int .i64))).sz = 1 from rfl, Nat.mul_one] at hv556_0; replace hv556_0 := Option.some.inj (hv556_0.symm.trans hx556_0); rw [hv556_0] at ge556_0; have HL556_0 := Aside0.mk (show Kd.R (Kd.int .i64) 3 _ _ _ _ (rd_L4 t550 t533) from ge556_0); clear hv556_0 ge556_0; clear hcc556 hce556; have HR556_0 := Aside0.mk hi556_0; have HC556_0 := Aside0.mk hl556_0; clear hi556_0 hl556_0; replace p556 := eq_true p556; replace q556 := eq_true q556; have ea_ := Option.some.inj (hx554_0.symm.trans hx556_0); injection ea_ with ea_ en_ ec_; subst ea_; subst ec_; clear en_; have p557 : 0 ≤ (1 : Int) := (by omega); have q557 : 1 < ((rd_L4 t550 t533).length : Int) := of_decide_eq_true (by first | (with_reducible assumption) | assumption); obtain ⟨ad557, e557, hx557_0⟩ := Kd.at_int (by repeat (first | (with_reducible exact HR556_0.out) | (with_reducible refine Kd.C_alloc ?_ _) | (with_reducible refine Kd.C_drewN ?_ _) | (with_reducible refine Kd.C_drew ?_) | exact HR556_0.out)) 1 p557 q557; cases e557; (try simp only [show (1 : Int).toNat = 1 from rfl, Nat.reduceMul, Nat.reduceEqDiff, Go.Addr.add, ↓reduceIte] at hx557_0); have qi557 : (1 < (rd_L4 t550 t533).length) = True := eq_true (by omega); (try rw [show ((1 : Int)).toNat = 1 from rfl] at hx557_0); replace p557 := eq_true p557; replace q557 := eq_true q557)))
                       go_meet
                       case rel => exact ⟨_, H', ⟨by have := HJ11.out; have := HJ35.out; have := HJ44.out; have := HJ47.out; have := HJ49.out; first | omega | exact Nat.le_refl _⟩, ⟨bk_⟩, ⟨bw_⟩⟩
                     ·
                      rw [if_neg c69] at H
                      exact absurd H (by simp)
                    ·
                     rw [if_neg c68] at H
                     exact absurd H (by simp)
                   ·
                    rw [if_neg c67] at H
                    exact absurd H (by simp)
                  ·
                   rw [if_neg c66] at H
                   exact absurd H (by simp)
                 ·
                  replace c65 := Bool.eq_false_iff.mpr c65
                  subst c65
                  rw [if_neg (show ¬ (false = true) by decide)] at H
                  exact absurd ((Option.some.inj H).trans HRT.out) (by decide)
                ·
                 rw [if_neg c63] at H
                 have c63b0 : decide (t533 < 3) = false := decide_eq_false c63
                 clear c63
                 have H' := Aside0.mk H
                 clear H
                 go_wp2
                 repeat (go_quiet (fail); try go_wp2)
                 go_meet
                 case rel => exact ⟨_, H', ⟨by have := HJ11.out; have := HJ35.out; have := HJ44.out; have := HJ47.out; have := HJ49.out; first | omega | exact Nat.le_refl _⟩, ⟨bk_⟩, ⟨bw_⟩⟩
        ·
         replace c44 := Bool.eq_false_iff.mpr c44
         subst c44
         rw [if_neg (show ¬ (false = true) by decide)] at H
         have H' := Aside0.mk H
         clear H
         go_wp2
         repeat (go_quiet (fail); try go_wp2)
         go_meet
         case rel => exact ⟨_, H', ⟨by have := HJ11.out; have := HJ35.out; first | omega | exact Nat.le_refl _⟩, ⟨bk_⟩, ⟨bw_⟩⟩
       case rest => as_aux_lemma =>
        clear HC43
        (try clear c1); (try clear c4); (try clear c35); (try clear hcz15_0); (try clear hcz15_1); (try clear hcz15_2); (try clear hcz15_3); (try clear hcz17_0); (try clear hcz17_1); (try clear hcz17_2); (try clear hcz17_3); (try clear hcz19_0); (try clear hcz19_1); (try clear hcz19_2); (try clear hcz19_3); (try clear hcz21_0); (try clear hcz21_1); (try clear hcz21_2); (try clear hcz21_3); (try clear hcz23_0); (try clear hcz23_1); (try clear hcz23_2); (try clear hcz23_3); (try clear hcz25_0); (try clear hcz25_1); (try clear hcz25_2); (try clear hcz25_3); (try clear hfz15_0); (try clear hfz15_1); (try clear hfz15_2); (try clear hfz15_3); (try clear hfz17_0); (try clear hfz17_1); (try clear hfz17_2); (try clear hfz17_3); (try clear hfz19_0); (try clear hfz19_1); (try clear hfz19_2); (try clear hfz19_3); (try clear hfz21_0); (try clear hfz21_1); (try clear hfz21_2); (try clear hfz21_3); (try clear hfz23_0); (try clear hfz23_1); (try clear hfz23_2); (try clear hfz23_3); (try clear hfz25_0); (try clear hfz25_1); (try clear hfz25_2); (try clear hfz25_3)
        obtain ⟨kq, HA, HJ42, BK526, HB⟩ := hcut
        cases kq with
        | zero => exact absurd HA.out (by simp [laws_FnDogsChase.j5])
        | succ kj42 =>
         have H := HA.out
         clear HA
         simp only [laws_FnDogsChase.j5] at H
         have HC74 := Aside0.mk H
         clear H
         go_upto_if 261 with (fail)
         repeat (go_quiet (fail); go_upto_if 261 with (fail))
         go_cut [] from 262 to 314 (fun wc => ∃ (kq : Nat), Aside0 (laws_FnDogsChase.j7 kq l1 = some r) ∧ Aside0 (kq ≤ kj42) ∧ Aside0 (wc.heap[gb526]? = some (.cells #[.int .i64 t520, .int .i64 t521, .int .i64 t522, .int .i64 t523] 25 (0, 0))) ∧ Aside0 (Below w.heap.size w wc))
         case first => as_aux_lemma =>
          have H := HC74.out
          clear HC74
          by_cases c75 : t538 = true
          ·
           subst c75
           rw [if_pos rfl] at H
           have HC76 := Aside0.mk H
           clear H
           go_upto_region 27 with (fail)
           repeat (go_quiet (fail); go_upto_region 27 with (fail))
           go_cut [288] from 262 to 288 (fun v288 wc => ∃ (kq : Nat) (x288_75 : Bool), v288 = .bool x288_75 ∧ Aside0 (laws_FnDogsChase.j6 kq l1 t524 t525 t537 x288_75 t520 t521 t522 t523 = some r) ∧ Aside0 (kq ≤ kj42) ∧ Aside0 (wc.heap[gb526]? = some (.cells #[.int .i64 t520, .int .i64 t521, .int .i64 t522, .int .i64 t523] 25 (0, 0))) ∧ Aside0 (Below w.heap.size w wc))
           case first => as_aux_lemma =>
            have H := HC76.out
            clear HC76
            by_cases c77 : t537 ≤ t521
            ·
             rw [if_pos c77] at H
             have c77b0 : decide (t537 ≤ t521) = true := decide_eq_true c77
             clear c77
             (first | rw [c77b0] | (simp only [i64_w, i32_w]; rw [c77b0]) | skip)
             exact absurd (H.trans (congrArg some HRT.out)) (by cases kj42 <;> simp [laws_FnDogsChase.j6])
            ·
             rw [if_neg c77] at H
             have c77b0 : decide (t537 ≤ t521) = false := decide_eq_false c77
             clear c77
             (first | rw [c77b0] | (simp only [i64_w, i32_w]; rw [c77b0]) | skip)
             by_cases c78 : t537 ≤ t522
             ·
              rw [if_pos c78] at H
              have c78b0 : decide (t537 ≤ t522) = true := decide_eq_true c78
              clear c78
              exact absurd (H.trans (congrArg some HRT.out)) (by cases kj42 <;> simp [laws_FnDogsChase.j6])
             ·
              rw [if_neg c78] at H
              have c78b0 : decide (t537 ≤ t522) = false := decide_eq_false c78
              clear c78
              by_cases c79 : t537 > 20
              ·
               rw [if_pos c79] at H
               have c79b0 : decide (20 < t537) = true := decide_eq_true c79
               clear c79
               exact absurd (H.trans (congrArg some HRT.out)) (by cases kj42 <;> simp [laws_FnDogsChase.j6])
              ·
               rw [if_neg c79] at H
               have c79b0 : decide (20 < t537) = false := decide_eq_false c79
               clear c79
               have H' := Aside0.mk H
               clear H
               obtain ⟨hcz80_0, hcz80_1, hcz80_2, hcz80_3, hfz80_0, hfz80_1, hfz80_2, hfz80_3⟩ := four_ BK526.out
               go_wp2
               repeat (go_quiet (fail); try go_wp2)
               go_meet
               case rel => exact ⟨_, (decide ((wrap64 (t520 * t525)) > (wrap64 (t524 * (wrap64 (t537 + t522)))))), (rs_), H', ⟨by have := HJ11.out; have := HJ35.out; have := HJ42.out; first | omega | exact Nat.le_refl _⟩, ⟨bk_⟩, ⟨bw_⟩⟩
           case rest => as_aux_lemma =>
            clear HC76
            (try clear c1); (try clear c4); (try clear c35); (try clear c75); (try clear hcz15_0); (try clear hcz15_1); (try clear hcz15_2); (try clear hcz15_3); (try clear hcz17_0); (try clear hcz17_1); (try clear hcz17_2); (try clear hcz17_3); (try clear hcz19_0); (try clear hcz19_1); (try clear hcz19_2); (try clear hcz19_3); (try clear hcz21_0); (try clear hcz21_1); (try clear hcz21_2); (try clear hcz21_3); (try clear hcz23_0); (try clear hcz23_1); (try clear hcz23_2); (try clear hcz23_3); (try clear hcz25_0); (try clear hcz25_1); (try clear hcz25_2); (try clear hcz25_3); (try clear hfz15_0); (try clear hfz15_1); (try clear hfz15_2); (try clear hfz15_3); (try clear hfz17_0); (try clear hfz17_1); (try clear hfz17_2); (try clear hfz17_3); (try clear hfz19_0); (try clear hfz19_1); (try clear hfz19_2); (try clear hfz19_3); (try clear hfz21_0); (try clear hfz21_1); (try clear hfz21_2); (try clear hfz21_3); (try clear hfz23_0); (try clear hfz23_1); (try clear hfz23_2); (try clear hfz23_3); (try clear hfz25_0); (try clear hfz25_1); (try clear hfz25_2); (try clear hfz25_3)
            obtain ⟨kq, x288_75, rfl, HA, HJ75, BK526, HB⟩ := hcut
            cases kq with
            | zero => exact absurd HA.out (by simp [laws_FnDogsChase.j6])
            | succ kj75 =>
             have H := HA.out
             clear HA
             simp only [laws_FnDogsChase.j6] at H
             by_cases c81 : x288_75 = true
             ·
              subst c81
              rw [if_pos rfl] at H
              exact absurd ((Option.some.inj H).trans HRT.out) (by decide)
             ·
              replace c81 := Bool.eq_false_iff.mpr c81
              subst c81
              rw [if_neg (show ¬ (false = true) by decide)] at H
              by_cases c82 : (wrap64 (t537 - 1)) > t521
              ·
               rw [if_pos c82] at H
               have c82b0 : decide (t521 < (wrap64 (t537 - 1))) = true := decide_eq_true c82
               clear c82
               by_cases c83 : (wrap64 (t537 - 1)) > t522
               ·
                rw [if_pos c83] at H
                have c83b0 : decide (t522 < (wrap64 (t537 - 1))) = true := decide_eq_true c83
                clear c83
                by_cases c84 : (wrap64 (t520 * t525)) ≤ (wrap64 (t524 * (wrap64 ((wrap64 (t537 - 1)) + t522))))
                ·
                 rw [if_pos c84] at H
                 have c84b0 : decide ((wrap64 (t520 * t525)) ≤ (wrap64 (t524 * (wrap64 ((wrap64 (t537 - 1)) + t522))))) = true := decide_eq_true c84
                 clear c84
                 exact absurd ((Option.some.inj H).trans HRT.out) (by decide)
                ·
                 rw [if_neg c84] at H
                 have c84b0 : decide ((wrap64 (t520 * t525)) ≤ (wrap64 (t524 * (wrap64 ((wrap64 (t537 - 1)) + t522))))) = false := decide_eq_false c84
                 clear c84
                 have H' := Aside0.mk H
                 clear H
                 obtain ⟨hcz85_0, hcz85_1, hcz85_2, hcz85_3, hfz85_0, hfz85_1, hfz85_2, hfz85_3⟩ := four_ BK526.out
                 go_wp2
                 repeat (go_quiet (fail); try go_wp2)
                 go_meet
                 case rel => exact ⟨_, H', ⟨by have := HJ11.out; have := HJ35.out; have := HJ42.out; have := HJ75.out; first | omega | exact Nat.le_refl _⟩, ⟨bk_⟩, ⟨bw_⟩⟩
               ·
                rw [if_neg c83] at H
                have c83b0 : decide (t522 < (wrap64 (t537 - 1))) = false := decide_eq_false c83
                clear c83
                have H' := Aside0.mk H
                clear H
                obtain ⟨hcz86_0, hcz86_1, hcz86_2, hcz86_3, hfz86_0, hfz86_1, hfz86_2, hfz86_3⟩ := four_ BK526.out
                go_wp2
                repeat (go_quiet (fail); try go_wp2)
                go_meet
                case rel => exact ⟨_, H', ⟨by have := HJ11.out; have := HJ35.out; have := HJ42.out; have := HJ75.out; first | omega | exact Nat.le_refl _⟩, ⟨bk_⟩, ⟨bw_⟩⟩
              ·
               rw [if_neg c82] at H
               have c82b0 : decide (t521 < (wrap64 (t537 - 1))) = false := decide_eq_false c82
               clear c82
               have H' := Aside0.mk H
               clear H
               obtain ⟨hcz87_0, hcz87_1, hcz87_2, hcz87_3, hfz87_0, hfz87_1, hfz87_2, hfz87_3⟩ := four_ BK526.out
               go_wp2
               repeat (go_quiet (fail); try go_wp2)
               go_meet
               case rel => exact ⟨_, H', ⟨by have := HJ11.out; have := HJ35.out; have := HJ42.out; have := HJ75.out; first | omega | exact Nat.le_refl _⟩, ⟨bk_⟩, ⟨bw_⟩⟩
          ·
           replace c75 := Bool.eq_false_iff.mpr c75
           subst c75
           rw [if_neg (show ¬ (false = true) by decide)] at H
           have H' := Aside0.mk H
           clear H
           go_wp2
           repeat (go_quiet (fail); try go_wp2)
           go_meet
           case rel => exact ⟨_, H', ⟨by have := HJ11.out; have := HJ35.out; have := HJ42.out; first | omega | exact Nat.le_refl _⟩, ⟨bk_⟩, ⟨bw_⟩⟩
         case rest => as_aux_lemma =>
          clear HC74
          (try clear c1); (try clear c4); (try clear c35); (try clear hcz15_0); (try clear hcz15_1); (try clear hcz15_2); (try clear hcz15_3); (try clear hcz17_0); (try clear hcz17_1); (try clear hcz17_2); (try clear hcz17_3); (try clear hcz19_0); (try clear hcz19_1); (try clear hcz19_2); (try clear hcz19_3); (try clear hcz21_0); (try clear hcz21_1); (try clear hcz21_2); (try clear hcz21_3); (try clear hcz23_0); (try clear hcz23_1); (try clear hcz23_2); (try clear hcz23_3); (try clear hcz25_0); (try clear hcz25_1); (try clear hcz25_2); (try clear hcz25_3); (try clear hfz15_0); (try clear hfz15_1); (try clear hfz15_2); (try clear hfz15_3); (try clear hfz17_0); (try clear hfz17_1); (try clear hfz17_2); (try clear hfz17_3); (try clear hfz19_0); (try clear hfz19_1); (try clear hfz19_2); (try clear hfz19_3); (try clear hfz21_0); (try clear hfz21_1); (try clear hfz21_2); (try clear hfz21_3); (try clear hfz23_0); (try clear hfz23_1); (try clear hfz23_2); (try clear hfz23_3); (try clear hfz25_0); (try clear hfz25_1); (try clear hfz25_2); (try clear hfz25_3)
          obtain ⟨kq, HA, HJ73, BK526, HB⟩ := hcut
          cases kq with
          | zero => exact absurd HA.out (by simp [laws_FnDogsChase.j7])
          | succ kj73 =>
           have H := HA.out
           clear HA
           simp only [laws_FnDogsChase.j7] at H
           replace H := Option.bind_eq_some_iff.mp H
           obtain ⟨⟨t558, t559, t560, t561, t562⟩, A880, H⟩ := H
           (try dsimp only at H)
           have A88 := Aside0.mk A880
           clear A880
           replace H := Option.bind_eq_some_iff.mp H
           obtain ⟨⟨t563, t564⟩, A890, H⟩ := H
           (try dsimp only at H)
           have A89 := Aside0.mk A890
           clear A890
           replace H := Option.bind_eq_some_iff.mp H
           obtain ⟨⟨t565, t566⟩, A900, H⟩ := H
           (try dsimp only at H)
           have A90 := Aside0.mk A900
           clear A900
           replace H := Option.bind_eq_some_iff.mp H
           obtain ⟨⟨t567, t568, t569, t570⟩, A910, H⟩ := H
           (try dsimp only at H)
           have A91 := Aside0.mk A910
           clear A910
           replace H := Option.bind_eq_some_iff.mp H
           obtain ⟨⟨t571, t572⟩, A920, H⟩ := H
           (try dsimp only at H)
           have A92 := Aside0.mk A920
           clear A920
           replace H := Option.bind_eq_some_iff.mp H
           obtain ⟨⟨t573, t574⟩, A930, H⟩ := H
           (try dsimp only at H)
           have A93 := Aside0.mk A930
           clear A930
           replace H := Option.bind_eq_some_iff.mp H
           obtain ⟨⟨t575, t576, t577⟩, A940, H⟩ := H
           (try dsimp only at H)
           have A94 := Aside0.mk A940
           clear A940
           replace H := Option.bind_eq_some_iff.mp H
           obtain ⟨⟨t578, t579, t580⟩, A950, H⟩ := H
           (try dsimp only at H)
           have A95 := Aside0.mk A950
           clear A950
           replace H := Option.bind_eq_some_iff.mp H
           obtain ⟨⟨t581, t582, t583⟩, A960, H⟩ := H
           (try dsimp only at H)
           have A96 := Aside0.mk A960
           clear A960
           replace H := Option.bind_eq_some_iff.mp H
           obtain ⟨t584, A970, H⟩ := H
           (try dsimp only at H)
           have A97 := Aside0.mk A970
           clear A970
           replace H := Option.bind_eq_some_iff.mp H
           obtain ⟨⟨t585, t586, t587, t588, t589⟩, A980, H⟩ := H
           (try dsimp only at H)
           have A98 := Aside0.mk A980
           clear A980
           replace H := Option.bind_eq_some_iff.mp H
           obtain ⟨⟨t591, t592, t593, t594, t595⟩, A990, H⟩ := H
           (try dsimp only at H)
           have A99 := Aside0.mk A990
           clear A990
           have HC100 := Aside0.mk H
           clear H
           go_upto_region 43 with (first | (go_at_call 14; (with_reducible refine (spec_DrawCatchLeaps.calls _ _ l1 t558 t559 t560 t561 t562 _ ?side1 ?side2 A88.out).mono ?_); (case side1 => repeat (first | exact (Kd.C_below HR1.out HB.out) | (with_reducible refine Kd.C_alloc ?_ _) | (with_reducible refine Kd.C_drewN ?_ _) | (with_reducible refine Kd.C_drew ?_))); (case side2 => exact HC1.out); rintro e w101 ⟨rfl, hb⟩; have n0_ := Aside0.mk (bb_ BK526.out hb); have n1_ := Aside0.mk (below_step bw_ hb); clear BK526; clear HB; have BK526 := n0_; have HB := n1_; clear n0_ n1_; (try clear hb); (try clear hb2); (try clear hk); (try clear hi)) | (go_at_call 15; (with_reducible refine (impl_CatchLeaps.calls kj73 t558 t559 t560 t561 t562 t563 t564 _ A89.out).mono ?_); rintro e w102 ⟨rfl, hb⟩; have n0_ := Aside0.mk (bb_ BK526.out hb); have n1_ := Aside0.mk (below_step bw_ hb); clear BK526; clear HB; have BK526 := n0_; have HB := n1_; clear n0_ n1_; (try clear hb); (try clear hb2); (try clear hk); (try clear hi)) | (go_at_call 16; (with_reducible refine (spec_CatchLeaps.calls kj73 t558 t559 t560 t561 t562 t565 t566 _ A90.out).mono ?_); rintro e w103 ⟨rfl, hb⟩; have n0_ := Aside0.mk (bb_ BK526.out hb); have n1_ := Aside0.mk (below_step bw_ hb); clear BK526; clear HB; have BK526 := n0_; have HB := n1_; clear n0_ n1_; (try clear hb); (try clear hb2); (try clear hk); (try clear hi)) | (go_at_call 17; (with_reducible refine (spec_DrawCanCatch.calls _ _ l1 t567 t568 t569 t570 _ ?side1 ?side2 A91.out).mono ?_); (case side1 => repeat (first | exact (Kd.C_below HR1.out HB.out) | (with_reducible refine Kd.C_alloc ?_ _) | (with_reducible refine Kd.C_drewN ?_ _) | (with_reducible refine Kd.C_drew ?_))); (case side2 => exact HC1.out); rintro e w104 ⟨rfl, hb⟩; have n0_ := Aside0.mk (bb_ BK526.out hb); have n1_ := Aside0.mk (below_step bw_ hb); clear BK526; clear HB; have BK526 := n0_; have HB := n1_; clear n0_ n1_; (try clear hb); (try clear hb2); (try clear hk); (try clear hi)) | (go_at_call 18; (with_reducible refine (impl_CanCatch.calls kj73 t567 t568 t569 t570 t571 t572 _ A92.out).mono ?_); rintro e w105 ⟨rfl, hb⟩; have n0_ := Aside0.mk (bb_ BK526.out hb); have n1_ := Aside0.mk (below_step bw_ hb); clear BK526; clear HB; have BK526 := n0_; have HB := n1_; clear n0_ n1_; (try clear hb); (try clear hb2); (try clear hk); (try clear hi)) | (go_at_call 19; (with_reducible refine (spec_CanCatch.calls kj73 t567 t568 t569 t570 t573 t574 _ A93.out).mono ?_); rintro e w106 ⟨rfl, hb⟩; have n0_ := Aside0.mk (bb_ BK526.out hb); have n1_ := Aside0.mk (below_step bw_ hb); clear BK526; clear HB; have BK526 := n0_; have HB := n1_; clear n0_ n1_; (try clear hb); (try clear hb2); (try clear hk); (try clear hi)) | (go_at_call 20; (with_reducible refine (spec_DrawCatchSpeed.calls _ _ l1 t575 t576 t577 _ ?side1 ?side2 A94.out).mono ?_); (case side1 => repeat (first | exact (Kd.C_below HR1.out HB.out) | (with_reducible refine Kd.C_alloc ?_ _) | (with_reducible refine Kd.C_drewN ?_ _) | (with_reducible refine Kd.C_drew ?_))); (case side2 => exact HC1.out); rintro e w107 ⟨rfl, hb⟩; have n0_ := Aside0.mk (bb_ BK526.out hb); have n1_ := Aside0.mk (below_step bw_ hb); clear BK526; clear HB; have BK526 := n0_; have HB := n1_; clear n0_ n1_; (try clear hb); (try clear hb2); (try clear hk); (try clear hi)) | (go_at_call 21; (with_reducible refine (impl_CatchSpeed.calls kj73 t575 t576 t577 t578 t579 t580 _ A95.out).mono ?_); rintro e w108 ⟨rfl, hb⟩; have n0_ := Aside0.mk (bb_ BK526.out hb); have n1_ := Aside0.mk (below_step bw_ hb); clear BK526; clear HB; have BK526 := n0_; have HB := n1_; clear n0_ n1_; (try clear hb); (try clear hb2); (try clear hk); (try clear hi)) | (go_at_call 22; (with_reducible refine (spec_CatchSpeed.calls kj73 t575 t576 t577 t581 t582 t583 _ A96.out).mono ?_); rintro e w' ⟨rfl, ⟨nd, rfl⟩⟩; (try first | exact ⟨rfl, _, World.drewN_drewN _ _ _⟩ | exact ⟨rfl, _, Eq.trans (World.drewN_drewN _ _ _) (congrArg (World.drewN _) (Nat.add_assoc _ _ _))⟩)) | (go_at_call 23; (with_reducible refine (spec_DrawParseChase.calls kj73 _ _ l1 t584 _ ?side1 ?side2 A97.out).mono ?_); (case side1 => repeat (first | exact (Kd.C_below HR1.out bw_) | (with_reducible refine Kd.C_alloc ?_ _) | (with_reducible refine Kd.C_drewN ?_ _) | (with_reducible refine Kd.C_drew ?_))); (case side2 => exact HC1.out); rintro e w109 ⟨rfl, hb⟩; have n0_ := Aside0.mk (bb_ BK526.out hb); have n1_ := Aside0.mk (below_step bw_ hb); clear BK526; clear HB; have BK526 := n0_; have HB := n1_; clear n0_ n1_; (try clear hb); (try clear hb2); (try clear hk); (try clear hi)) | (go_at_call 24; (with_reducible refine (impl_ParseChase.calls kj73 t584 t585 t586 t587 t588 t589 _ A98.out).mono ?_); rintro e w110 ⟨rfl, hb⟩; have n0_ := Aside0.mk (bb_ BK526.out hb); have n1_ := Aside0.mk (below_step bw_ hb); clear BK526; clear HB; have BK526 := n0_; have HB := n1_; clear n0_ n1_; (try clear hb); (try clear hb2); (try clear hk); (try clear hi)) | ((with_reducible refine gate_dst (N := 53) rfl ?_); refine be_ 53 #[.int .i64 0, .int .i64 0, .int .i64 0, .int .i64 0] 25 ?_; intro gb590 hg w111 hbox hb; have n0_ := Aside0.mk (bb_ BK526.out hb); have n1_ := Aside0.mk (below_step bw_ hb); have n2_ := Aside0.mk (hbox); have n3_ := Aside0.mk (bz_ (w := w) hg); have n4_ := Aside0.mk (bz_ (w := w) hg); have n5_ := Aside0.mk (nl_ BK526.out hg); have n6_ := Aside0.mk (ng_ BK526.out hg); clear BK526; clear HB; have BK526 := n0_; have HB := n1_; have BK590 := n2_; have GW590 := n3_; have GE590 := n4_; have NB526_590 := n5_; have NB590_526 := n6_; clear n0_ n1_ n2_ n3_ n4_ n5_ n6_; clear hb hbox hg; have hnb112 := NB590_526.out; have hnc112 := NB526_590.out; obtain ⟨hcz113_0, hcz113_1, hcz113_2, hcz113_3, hfz113_0, hfz113_1, hfz113_2, hfz113_3⟩ := four_ BK590.out) | (go_at_call 25; (with_reducible refine (spec_ParseChase.calls kj73 t584 t591 t592 t593 t594 t595 _ A99.out).mono ?_); rintro e w114 ⟨rfl, hb⟩; have n0_ := Aside0.mk (blk_below (g := gb526) (o := .cells #[.int .i64 t520, .int .i64 t521, .int .i64 t522, .int .i64 t523] 25 (0, 0)) bf_ hb); have n1_ := Aside0.mk (blk_below (g := gb590) (o := .cells #[.int .i64 t585, .int .i64 t586, .int .i64 t587, .int .i64 t588] 25 (0, 0)) (by (with_reducible repeat (first | refine blk_drewN ?_ _ | refine blk_drew ?_ | refine blk_alloc ?_ _)); refine blk_put (cs := #[.int .i64 t585, .int .i64 t586, .int .i64 t587, .int .i64 0]) ?_ 3 _ rfl; (with_reducible repeat (first | refine blk_drewN ?_ _ | refine blk_drew ?_ | refine blk_alloc ?_ _)); refine blk_put (cs := #[.int .i64 t585, .int .i64 t586, .int .i64 0, .int .i64 0]) ?_ 2 _ rfl; (with_reducible repeat (first | refine blk_drewN ?_ _ | refine blk_drew ?_ | refine blk_alloc ?_ _)); refine blk_put (cs := #[.int .i64 t585, .int .i64 0, .int .i64 0, .int .i64 0]) ?_ 1 _ rfl; (with_reducible repeat (first | refine blk_drewN ?_ _ | refine blk_drew ?_ | refine blk_alloc ?_ _)); refine blk_put (cs := #[.int .i64 0, .int .i64 0, .int .i64 0, .int .i64 0]) ?_ 0 _ rfl; (with_reducible repeat (first | refine blk_drewN ?_ _ | refine blk_drew ?_ | refine blk_alloc ?_ _)); exact BK590.out) hb); have n2_ := Aside0.mk (below_step bw_ hb); clear BK526; clear BK590; clear HB; have BK526 := n0_; have BK590 := n1_; have HB := n2_; clear n0_ n1_ n2_; (try clear hb); (try clear hb2); (try clear hk); (try clear hi)) | ((with_reducible refine gate_dst (N := 55) rfl ?_); refine be_ 55 #[.int .i64 0, .int .i64 0, .int .i64 0, .int .i64 0] 25 ?_; intro gb596 hg w115 hbox hb; have n0_ := Aside0.mk (bb_ BK526.out hb); have n1_ := Aside0.mk (bb_ BK590.out hb); have n2_ := Aside0.mk (below_step bw_ hb); have n3_ := Aside0.mk (hbox); have n4_ := Aside0.mk (bz_ (w := w) hg); have n5_ := Aside0.mk (bz_ (w := w) hg); have n6_ := Aside0.mk (nl_ BK526.out hg); have n7_ := Aside0.mk (ng_ BK526.out hg); have n8_ := Aside0.mk (nl_ BK590.out hg); have n9_ := Aside0.mk (ng_ BK590.out hg); clear BK526; clear BK590; clear HB; have BK526 := n0_; have BK590 := n1_; have HB := n2_; have BK596 := n3_; have GW596 := n4_; have GE596 := n5_; have NB526_596 := n6_; have NB596_526 := n7_; have NB590_596 := n8_; have NB596_590 := n9_; clear n0_ n1_ n2_ n3_ n4_ n5_ n6_ n7_ n8_ n9_; clear hb hbox hg; have hnb116 := NB596_526.out; have hnc116 := NB526_596.out; have hnb117 := NB596_590.out; have hnc117 := NB590_596.out; obtain ⟨hcz118_0, hcz118_1, hcz118_2, hcz118_3, hfz118_0, hfz118_1, hfz118_2, hfz118_3⟩ := four_ BK596.out))
           repeat (go_quiet (first | (go_at_call 14; (with_reducible refine (spec_DrawCatchLeaps.calls _ _ l1 t558 t559 t560 t561 t562 _ ?side1 ?side2 A88.out).mono ?_); (case side1 => repeat (first | exact (Kd.C_below HR1.out HB.out) | (with_reducible refine Kd.C_alloc ?_ _) | (with_reducible refine Kd.C_drewN ?_ _) | (with_reducible refine Kd.C_drew ?_))); (case side2 => exact HC1.out); rintro e w101 ⟨rfl, hb⟩; have n0_ := Aside0.mk (bb_ BK526.out hb); have n1_ := Aside0.mk (below_step bw_ hb); clear BK526; clear HB; have BK526 := n0_; have HB := n1_; clear n0_ n1_; (try clear hb); (try clear hb2); (try clear hk); (try clear hi)) | (go_at_call 15; (with_reducible refine (impl_CatchLeaps.calls kj73 t558 t559 t560 t561 t562 t563 t564 _ A89.out).mono ?_); rintro e w102 ⟨rfl, hb⟩; have n0_ := Aside0.mk (bb_ BK526.out hb); have n1_ := Aside0.mk (below_step bw_ hb); clear BK526; clear HB; have BK526 := n0_; have HB := n1_; clear n0_ n1_; (try clear hb); (try clear hb2); (try clear hk); (try clear hi)) | (go_at_call 16; (with_reducible refine (spec_CatchLeaps.calls kj73 t558 t559 t560 t561 t562 t565 t566 _ A90.out).mono ?_); rintro e w103 ⟨rfl, hb⟩; have n0_ := Aside0.mk (bb_ BK526.out hb); have n1_ := Aside0.mk (below_step bw_ hb); clear BK526; clear HB; have BK526 := n0_; have HB := n1_; clear n0_ n1_; (try clear hb); (try clear hb2); (try clear hk); (try clear hi)) | (go_at_call 17; (with_reducible refine (spec_DrawCanCatch.calls _ _ l1 t567 t568 t569 t570 _ ?side1 ?side2 A91.out).mono ?_); (case side1 => repeat (first | exact (Kd.C_below HR1.out HB.out) | (with_reducible refine Kd.C_alloc ?_ _) | (with_reducible refine Kd.C_drewN ?_ _) | (with_reducible refine Kd.C_drew ?_))); (case side2 => exact HC1.out); rintro e w104 ⟨rfl, hb⟩; have n0_ := Aside0.mk (bb_ BK526.out hb); have n1_ := Aside0.mk (below_step bw_ hb); clear BK526; clear HB; have BK526 := n0_; have HB := n1_; clear n0_ n1_; (try clear hb); (try clear hb2); (try clear hk); (try clear hi)) | (go_at_call 18; (with_reducible refine (impl_CanCatch.calls kj73 t567 t568 t569 t570 t571 t572 _ A92.out).mono ?_); rintro e w105 ⟨rfl, hb⟩; have n0_ := Aside0.mk (bb_ BK526.out hb); have n1_ := Aside0.mk (below_step bw_ hb); clear BK526; clear HB; have BK526 := n0_; have HB := n1_; clear n0_ n1_; (try clear hb); (try clear hb2); (try clear hk); (try clear hi)) | (go_at_call 19; (with_reducible refine (spec_CanCatch.calls kj73 t567 t568 t569 t570 t573 t574 _ A93.out).mono ?_); rintro e w106 ⟨rfl, hb⟩; have n0_ := Aside0.mk (bb_ BK526.out hb); have n1_ := Aside0.mk (below_step bw_ hb); clear BK526; clear HB; have BK526 := n0_; have HB := n1_; clear n0_ n1_; (try clear hb); (try clear hb2); (try clear hk); (try clear hi)) | (go_at_call 20; (with_reducible refine (spec_DrawCatchSpeed.calls _ _ l1 t575 t576 t577 _ ?side1 ?side2 A94.out).mono ?_); (case side1 => repeat (first | exact (Kd.C_below HR1.out HB.out) | (with_reducible refine Kd.C_alloc ?_ _) | (with_reducible refine Kd.C_drewN ?_ _) | (with_reducible refine Kd.C_drew ?_))); (case side2 => exact HC1.out); rintro e w107 ⟨rfl, hb⟩; have n0_ := Aside0.mk (bb_ BK526.out hb); have n1_ := Aside0.mk (below_step bw_ hb); clear BK526; clear HB; have BK526 := n0_; have HB := n1_; clear n0_ n1_; (try clear hb); (try clear hb2); (try clear hk); (try clear hi)) | (go_at_call 21; (with_reducible refine (impl_CatchSpeed.calls kj73 t575 t576 t577 t578 t579 t580 _ A95.out).mono ?_); rintro e w108 ⟨rfl, hb⟩; have n0_ := Aside0.mk (bb_ BK526.out hb); have n1_ := Aside0.mk (below_step bw_ hb); clear BK526; clear HB; have BK526 := n0_; have HB := n1_; clear n0_ n1_; (try clear hb); (try clear hb2); (try clear hk); (try clear hi)) | (go_at_call 22; (with_reducible refine (spec_CatchSpeed.calls kj73 t575 t576 t577 t581 t582 t583 _ A96.out).mono ?_); rintro e w' ⟨rfl, ⟨nd, rfl⟩⟩; (try first | exact ⟨rfl, _, World.drewN_drewN _ _ _⟩ | exact ⟨rfl, _, Eq.trans (World.drewN_drewN _ _ _) (congrArg (World.drewN _) (Nat.add_assoc _ _ _))⟩)) | (go_at_call 23; (with_reducible refine (spec_DrawParseChase.calls kj73 _ _ l1 t584 _ ?side1 ?side2 A97.out).mono ?_); (case side1 => repeat (first | exact (Kd.C_below HR1.out bw_) | (with_reducible refine Kd.C_alloc ?_ _) | (with_reducible refine Kd.C_drewN ?_ _) | (with_reducible refine Kd.C_drew ?_))); (case side2 => exact HC1.out); rintro e w109 ⟨rfl, hb⟩; have n0_ := Aside0.mk (bb_ BK526.out hb); have n1_ := Aside0.mk (below_step bw_ hb); clear BK526; clear HB; have BK526 := n0_; have HB := n1_; clear n0_ n1_; (try clear hb); (try clear hb2); (try clear hk); (try clear hi)) | (go_at_call 24; (with_reducible refine (impl_ParseChase.calls kj73 t584 t585 t586 t587 t588 t589 _ A98.out).mono ?_); rintro e w110 ⟨rfl, hb⟩; have n0_ := Aside0.mk (bb_ BK526.out hb); have n1_ := Aside0.mk (below_step bw_ hb); clear BK526; clear HB; have BK526 := n0_; have HB := n1_; clear n0_ n1_; (try clear hb); (try clear hb2); (try clear hk); (try clear hi)) | ((with_reducible refine gate_dst (N := 53) rfl ?_); refine be_ 53 #[.int .i64 0, .int .i64 0, .int .i64 0, .int .i64 0] 25 ?_; intro gb590 hg w111 hbox hb; have n0_ := Aside0.mk (bb_ BK526.out hb); have n1_ := Aside0.mk (below_step bw_ hb); have n2_ := Aside0.mk (hbox); have n3_ := Aside0.mk (bz_ (w := w) hg); have n4_ := Aside0.mk (bz_ (w := w) hg); have n5_ := Aside0.mk (nl_ BK526.out hg); have n6_ := Aside0.mk (ng_ BK526.out hg); clear BK526; clear HB; have BK526 := n0_; have HB := n1_; have BK590 := n2_; have GW590 := n3_; have GE590 := n4_; have NB526_590 := n5_; have NB590_526 := n6_; clear n0_ n1_ n2_ n3_ n4_ n5_ n6_; clear hb hbox hg; have hnb112 := NB590_526.out; have hnc112 := NB526_590.out; obtain ⟨hcz113_0, hcz113_1, hcz113_2, hcz113_3, hfz113_0, hfz113_1, hfz113_2, hfz113_3⟩ := four_ BK590.out) | (go_at_call 25; (with_reducible refine (spec_ParseChase.calls kj73 t584 t591 t592 t593 t594 t595 _ A99.out).mono ?_); rintro e w114 ⟨rfl, hb⟩; have n0_ := Aside0.mk (blk_below (g := gb526) (o := .cells #[.int .i64 t520, .int .i64 t521, .int .i64 t522, .int .i64 t523] 25 (0, 0)) bf_ hb); have n1_ := Aside0.mk (blk_below (g := gb590) (o := .cells #[.int .i64 t585, .int .i64 t586, .int .i64 t587, .int .i64 t588] 25 (0, 0)) (by (with_reducible repeat (first | refine blk_drewN ?_ _ | refine blk_drew ?_ | refine blk_alloc ?_ _)); refine blk_put (cs := #[.int .i64 t585, .int .i64 t586, .int .i64 t587, .int .i64 0]) ?_ 3 _ rfl; (with_reducible repeat (first | refine blk_drewN ?_ _ | refine blk_drew ?_ | refine blk_alloc ?_ _)); refine blk_put (cs := #[.int .i64 t585, .int .i64 t586, .int .i64 0, .int .i64 0]) ?_ 2 _ rfl; (with_reducible repeat (first | refine blk_drewN ?_ _ | refine blk_drew ?_ | refine blk_alloc ?_ _)); refine blk_put (cs := #[.int .i64 t585, .int .i64 0, .int .i64 0, .int .i64 0]) ?_ 1 _ rfl; (with_reducible repeat (first | refine blk_drewN ?_ _ | refine blk_drew ?_ | refine blk_alloc ?_ _)); refine blk_put (cs := #[.int .i64 0, .int .i64 0, .int .i64 0, .int .i64 0]) ?_ 0 _ rfl; (with_reducible repeat (first | refine blk_drewN ?_ _ | refine blk_drew ?_ | refine blk_alloc ?_ _)); exact BK590.out) hb); have n2_ := Aside0.mk (below_step bw_ hb); clear BK526; clear BK590; clear HB; have BK526 := n0_; have BK590 := n1_; have HB := n2_; clear n0_ n1_ n2_; (try clear hb); (try clear hb2); (try clear hk); (try clear hi)) | ((with_reducible refine gate_dst (N := 55) rfl ?_); refine be_ 55 #[.int .i64 0, .int .i64 0, .int .i64 0, .int .i64 0] 25 ?_; intro gb596 hg w115 hbox hb; have n0_ := Aside0.mk (bb_ BK526.out hb); have n1_ := Aside0.mk (bb_ BK590.out hb); have n2_ := Aside0.mk (below_step bw_ hb); have n3_ := Aside0.mk (hbox); have n4_ := Aside0.mk (bz_ (w := w) hg); have n5_ := Aside0.mk (bz_ (w := w) hg); have n6_ := Aside0.mk (nl_ BK526.out hg); have n7_ := Aside0.mk (ng_ BK526.out hg); have n8_ := Aside0.mk (nl_ BK590.out hg); have n9_ := Aside0.mk (ng_ BK590.out hg); clear BK526; clear BK590; clear HB; have BK526 := n0_; have BK590 := n1_; have HB := n2_; have BK596 := n3_; have GW596 := n4_; have GE596 := n5_; have NB526_596 := n6_; have NB596_526 := n7_; have NB590_596 := n8_; have NB596_590 := n9_; clear n0_ n1_ n2_ n3_ n4_ n5_ n6_ n7_ n8_ n9_; clear hb hbox hg; have hnb116 := NB596_526.out; have hnc116 := NB526_596.out; have hnb117 := NB596_590.out; have hnc117 := NB590_596.out; obtain ⟨hcz118_0, hcz118_1, hcz118_2, hcz118_3, hfz118_0, hfz118_1, hfz118_2, hfz118_3⟩ := four_ BK596.out)); go_upto_region 43 with (first | (go_at_call 14; (with_reducible refine (spec_DrawCatchLeaps.calls _ _ l1 t558 t559 t560 t561 t562 _ ?side1 ?side2 A88.out).mono ?_); (case side1 => repeat (first | exact (Kd.C_below HR1.out HB.out) | (with_reducible refine Kd.C_alloc ?_ _) | (with_reducible refine Kd.C_drewN ?_ _) | (with_reducible refine Kd.C_drew ?_))); (case side2 => exact HC1.out); rintro e w101 ⟨rfl, hb⟩; have n0_ := Aside0.mk (bb_ BK526.out hb); have n1_ := Aside0.mk (below_step bw_ hb); clear BK526; clear HB; have BK526 := n0_; have HB := n1_; clear n0_ n1_; (try clear hb); (try clear hb2); (try clear hk); (try clear hi)) | (go_at_call 15; (with_reducible refine (impl_CatchLeaps.calls kj73 t558 t559 t560 t561 t562 t563 t564 _ A89.out).mono ?_); rintro e w102 ⟨rfl, hb⟩; have n0_ := Aside0.mk (bb_ BK526.out hb); have n1_ := Aside0.mk (below_step bw_ hb); clear BK526; clear HB; have BK526 := n0_; have HB := n1_; clear n0_ n1_; (try clear hb); (try clear hb2); (try clear hk); (try clear hi)) | (go_at_call 16; (with_reducible refine (spec_CatchLeaps.calls kj73 t558 t559 t560 t561 t562 t565 t566 _ A90.out).mono ?_); rintro e w103 ⟨rfl, hb⟩; have n0_ := Aside0.mk (bb_ BK526.out hb); have n1_ := Aside0.mk (below_step bw_ hb); clear BK526; clear HB; have BK526 := n0_; have HB := n1_; clear n0_ n1_; (try clear hb); (try clear hb2); (try clear hk); (try clear hi)) | (go_at_call 17; (with_reducible refine (spec_DrawCanCatch.calls _ _ l1 t567 t568 t569 t570 _ ?side1 ?side2 A91.out).mono ?_); (case side1 => repeat (first | exact (Kd.C_below HR1.out HB.out) | (with_reducible refine Kd.C_alloc ?_ _) | (with_reducible refine Kd.C_drewN ?_ _) | (with_reducible refine Kd.C_drew ?_))); (case side2 => exact HC1.out); rintro e w104 ⟨rfl, hb⟩; have n0_ := Aside0.mk (bb_ BK526.out hb); have n1_ := Aside0.mk (below_step bw_ hb); clear BK526; clear HB; have BK526 := n0_; have HB := n1_; clear n0_ n1_; (try clear hb); (try clear hb2); (try clear hk); (try clear hi)) | (go_at_call 18; (with_reducible refine (impl_CanCatch.calls kj73 t567 t568 t569 t570 t571 t572 _ A92.out).mono ?_); rintro e w105 ⟨rfl, hb⟩; have n0_ := Aside0.mk (bb_ BK526.out hb); have n1_ := Aside0.mk (below_step bw_ hb); clear BK526; clear HB; have BK526 := n0_; have HB := n1_; clear n0_ n1_; (try clear hb); (try clear hb2); (try clear hk); (try clear hi)) | (go_at_call 19; (with_reducible refine (spec_CanCatch.calls kj73 t567 t568 t569 t570 t573 t574 _ A93.out).mono ?_); rintro e w106 ⟨rfl, hb⟩; have n0_ := Aside0.mk (bb_ BK526.out hb); have n1_ := Aside0.mk (below_step bw_ hb); clear BK526; clear HB; have BK526 := n0_; have HB := n1_; clear n0_ n1_; (try clear hb); (try clear hb2); (try clear hk); (try clear hi)) | (go_at_call 20; (with_reducible refine (spec_DrawCatchSpeed.calls _ _ l1 t575 t576 t577 _ ?side1 ?side2 A94.out).mono ?_); (case side1 => repeat (first | exact (Kd.C_below HR1.out HB.out) | (with_reducible refine Kd.C_alloc ?_ _) | (with_reducible refine Kd.C_drewN ?_ _) | (with_reducible refine Kd.C_drew ?_))); (case side2 => exact HC1.out); rintro e w107 ⟨rfl, hb⟩; have n0_ := Aside0.mk (bb_ BK526.out hb); have n1_ := Aside0.mk (below_step bw_ hb); clear BK526; clear HB; have BK526 := n0_; have HB := n1_; clear n0_ n1_; (try clear hb); (try clear hb2); (try clear hk); (try clear hi)) | (go_at_call 21; (with_reducible refine (impl_CatchSpeed.calls kj73 t575 t576 t577 t578 t579 t580 _ A95.out).mono ?_); rintro e w108 ⟨rfl, hb⟩; have n0_ := Aside0.mk (bb_ BK526.out hb); have n1_ := Aside0.mk (below_step bw_ hb); clear BK526; clear HB; have BK526 := n0_; have HB := n1_; clear n0_ n1_; (try clear hb); (try clear hb2); (try clear hk); (try clear hi)) | (go_at_call 22; (with_reducible refine (spec_CatchSpeed.calls kj73 t575 t576 t577 t581 t582 t583 _ A96.out).mono ?_); rintro e w' ⟨rfl, ⟨nd, rfl⟩⟩; (try first | exact ⟨rfl, _, World.drewN_drewN _ _ _⟩ | exact ⟨rfl, _, Eq.trans (World.drewN_drewN _ _ _) (congrArg (World.drewN _) (Nat.add_assoc _ _ _))⟩)) | (go_at_call 23; (with_reducible refine (spec_DrawParseChase.calls kj73 _ _ l1 t584 _ ?side1 ?side2 A97.out).mono ?_); (case side1 => repeat (first | exact (Kd.C_below HR1.out bw_) | (with_reducible refine Kd.C_alloc ?_ _) | (with_reducible refine Kd.C_drewN ?_ _) | (with_reducible refine Kd.C_drew ?_))); (case side2 => exact HC1.out); rintro e w109 ⟨rfl, hb⟩; have n0_ := Aside0.mk (bb_ BK526.out hb); have n1_ := Aside0.mk (below_step bw_ hb); clear BK526; clear HB; have BK526 := n0_; have HB := n1_; clear n0_ n1_; (try clear hb); (try clear hb2); (try clear hk); (try clear hi)) | (go_at_call 24; (with_reducible refine (impl_ParseChase.calls kj73 t584 t585 t586 t587 t588 t589 _ A98.out).mono ?_); rintro e w110 ⟨rfl, hb⟩; have n0_ := Aside0.mk (bb_ BK526.out hb); have n1_ := Aside0.mk (below_step bw_ hb); clear BK526; clear HB; have BK526 := n0_; have HB := n1_; clear n0_ n1_; (try clear hb); (try clear hb2); (try clear hk); (try clear hi)) | ((with_reducible refine gate_dst (N := 53) rfl ?_); refine be_ 53 #[.int .i64 0, .int .i64 0, .int .i64 0, .int .i64 0] 25 ?_; intro gb590 hg w111 hbox hb; have n0_ := Aside0.mk (bb_ BK526.out hb); have n1_ := Aside0.mk (below_step bw_ hb); have n2_ := Aside0.mk (hbox); have n3_ := Aside0.mk (bz_ (w := w) hg); have n4_ := Aside0.mk (bz_ (w := w) hg); have n5_ := Aside0.mk (nl_ BK526.out hg); have n6_ := Aside0.mk (ng_ BK526.out hg); clear BK526; clear HB; have BK526 := n0_; have HB := n1_; have BK590 := n2_; have GW590 := n3_; have GE590 := n4_; have NB526_590 := n5_; have NB590_526 := n6_; clear n0_ n1_ n2_ n3_ n4_ n5_ n6_; clear hb hbox hg; have hnb112 := NB590_526.out; have hnc112 := NB526_590.out; obtain ⟨hcz113_0, hcz113_1, hcz113_2, hcz113_3, hfz113_0, hfz113_1, hfz113_2, hfz113_3⟩ := four_ BK590.out) | (go_at_call 25; (with_reducible refine (spec_ParseChase.calls kj73 t584 t591 t592 t593 t594 t595 _ A99.out).mono ?_); rintro e w114 ⟨rfl, hb⟩; have n0_ := Aside0.mk (blk_below (g := gb526) (o := .cells #[.int .i64 t520, .int .i64 t521, .int .i64 t522, .int .i64 t523] 25 (0, 0)) bf_ hb); have n1_ := Aside0.mk (blk_below (g := gb590) (o := .cells #[.int .i64 t585, .int .i64 t586, .int .i64 t587, .int .i64 t588] 25 (0, 0)) (by (with_reducible repeat (first | refine blk_drewN ?_ _ | refine blk_drew ?_ | refine blk_alloc ?_ _)); refine blk_put (cs := #[.int .i64 t585, .int .i64 t586, .int .i64 t587, .int .i64 0]) ?_ 3 _ rfl; (with_reducible repeat (first | refine blk_drewN ?_ _ | refine blk_drew ?_ | refine blk_alloc ?_ _)); refine blk_put (cs := #[.int .i64 t585, .int .i64 t586, .int .i64 0, .int .i64 0]) ?_ 2 _ rfl; (with_reducible repeat (first | refine blk_drewN ?_ _ | refine blk_drew ?_ | refine blk_alloc ?_ _)); refine blk_put (cs := #[.int .i64 t585, .int .i64 0, .int .i64 0, .int .i64 0]) ?_ 1 _ rfl; (with_reducible repeat (first | refine blk_drewN ?_ _ | refine blk_drew ?_ | refine blk_alloc ?_ _)); refine blk_put (cs := #[.int .i64 0, .int .i64 0, .int .i64 0, .int .i64 0]) ?_ 0 _ rfl; (with_reducible repeat (first | refine blk_drewN ?_ _ | refine blk_drew ?_ | refine blk_alloc ?_ _)); exact BK590.out) hb); have n2_ := Aside0.mk (below_step bw_ hb); clear BK526; clear BK590; clear HB; have BK526 := n0_; have BK590 := n1_; have HB := n2_; clear n0_ n1_ n2_; (try clear hb); (try clear hb2); (try clear hk); (try clear hi)) | ((with_reducible refine gate_dst (N := 55) rfl ?_); refine be_ 55 #[.int .i64 0, .int .i64 0, .int .i64 0, .int .i64 0] 25 ?_; intro gb596 hg w115 hbox hb; have n0_ := Aside0.mk (bb_ BK526.out hb); have n1_ := Aside0.mk (bb_ BK590.out hb); have n2_ := Aside0.mk (below_step bw_ hb); have n3_ := Aside0.mk (hbox); have n4_ := Aside0.mk (bz_ (w := w) hg); have n5_ := Aside0.mk (bz_ (w := w) hg); have n6_ := Aside0.mk (nl_ BK526.out hg); have n7_ := Aside0.mk (ng_ BK526.out hg); have n8_ := Aside0.mk (nl_ BK590.out hg); have n9_ := Aside0.mk (ng_ BK590.out hg); clear BK526; clear BK590; clear HB; have BK526 := n0_; have BK590 := n1_; have HB := n2_; have BK596 := n3_; have GW596 := n4_; have GE596 := n5_; have NB526_596 := n6_; have NB596_526 := n7_; have NB590_596 := n8_; have NB596_590 := n9_; clear n0_ n1_ n2_ n3_ n4_ n5_ n6_ n7_ n8_ n9_; clear hb hbox hg; have hnb116 := NB596_526.out; have hnc116 := NB526_596.out; have hnb117 := NB596_590.out; have hnc117 := NB590_596.out; obtain ⟨hcz118_0, hcz118_1, hcz118_2, hcz118_3, hfz118_0, hfz118_1, hfz118_2, hfz118_3⟩ := four_ BK596.out)))
           (try simp only [Act.put, List.setIfInBounds_toArray, List.set_cons_zero, List.set_cons_succ])
           go_cut [440] from 398 to 440 (fun v440 wc => ∃ (kq : Nat) (x440_99 : Bool), v440 = .bool x440_99 ∧ Aside0 (laws_FnDogsChase.j8 kq t558 t559 t560 t561 t562 t563 t564 t575 t576 t577 t578 t579 t580 t584 t589 x440_99 t585 t586 t587 t588 = some r) ∧ Aside0 (kq ≤ kj73) ∧ Aside0 (wc.heap[gb526]? = some (.cells #[.int .i64 t520, .int .i64 t521, .int .i64 t522, .int .i64 t523] 25 (0, 0))) ∧ Aside0 (wc.heap[gb590]? = some (.cells #[.int .i64 t585, .int .i64 t586, .int .i64 t587, .int .i64 t588] 25 (0, 0))) ∧ Aside0 (wc.heap[gb596]? = some (.cells #[.int .i64 t591, .int .i64 t592, .int .i64 t593, .int .i64 t594] 25 (0, 0))) ∧ Aside0 (Below w.heap.size w wc))
           case first => as_aux_lemma =>
            have H := HC100.out
            clear HC100
            by_cases c119 : (t564 != t566) = true
            ·
             rw [if_pos c119] at H
             have c119b0 : (t564 != t566) = true := c119
             (try (have c119b1 : decide (t564 = t566) = false := by simpa using c119))
             (try (have c119b2 : (t564 == t566) = false := by simpa using c119))
             (try (have c119b3 : ¬ (t564 = t566) := by simpa using c119))
             clear c119
             (first | rw [c119b0] | (simp only [i64_w, i32_w]; rw [c119b0]) | skip)
             exact absurd (H.trans (congrArg some HRT.out)) (by cases kj73 <;> simp [laws_FnDogsChase.j8])
            ·
             rw [if_neg c119] at H
             have c119b0 : (t564 != t566) = false := by simpa using c119
             (try (have c119b1 : decide (t564 = t566) = true := by simpa using c119))
             (try (have c119b2 : (t564 == t566) = true := by simpa using c119))
             clear c119
             (first | rw [c119b0] | (simp only [i64_w, i32_w]; rw [c119b0]) | skip)
             by_cases c120 : t563 = t565
             ·
              rw [if_pos c120] at H
              have c120b0 : (t563 == t565) = true := beq_iff_eq.mpr c120
              have c120b1 : (t563 != t565) = false := bne_eq_false_iff_eq.mpr c120
              clear c120
              by_cases c121 : (t572 != t574) = true
              ·
               rw [if_pos c121] at H
               have c121b0 : (t572 != t574) = true := c121
               (try (have c121b1 : decide (t572 = t574) = false := by simpa using c121))
               (try (have c121b2 : (t572 == t574) = false := by simpa using c121))
               (try (have c121b3 : ¬ (t572 = t574) := by simpa using c121))
               clear c121
               exact absurd (H.trans (congrArg some HRT.out)) (by cases kj73 <;> simp [laws_FnDogsChase.j8])
              ·
               rw [if_neg c121] at H
               have c121b0 : (t572 != t574) = false := by simpa using c121
               (try (have c121b1 : decide (t572 = t574) = true := by simpa using c121))
               (try (have c121b2 : (t572 == t574) = true := by simpa using c121))
               clear c121
               by_cases c122 : (t571 != t573) = true
               ·
                rw [if_pos c122] at H
                have c122b0 : (t571 != t573) = true := c122
                (try (have c122b1 : decide (t571 = t573) = false := by simpa using c122))
                (try (have c122b2 : (t571 == t573) = false := by simpa using c122))
                (try (have c122b3 : ¬ (t571 = t573) := by simpa using c122))
                clear c122
                exact absurd (H.trans (congrArg some HRT.out)) (by cases kj73 <;> simp [laws_FnDogsChase.j8])
               ·
                rw [if_neg c122] at H
                have c122b0 : (t571 != t573) = false := by simpa using c122
                (try (have c122b1 : decide (t571 = t573) = true := by simpa using c122))
                (try (have c122b2 : (t571 == t573) = true := by simpa using c122))
                clear c122
                by_cases c123 : (t580 != t583) = true
                ·
                 rw [if_pos c123] at H
                 have c123b0 : (t580 != t583) = true := c123
                 (try (have c123b1 : decide (t580 = t583) = false := by simpa using c123))
                 (try (have c123b2 : (t580 == t583) = false := by simpa using c123))
                 (try (have c123b3 : ¬ (t580 = t583) := by simpa using c123))
                 clear c123
                 exact absurd (H.trans (congrArg some HRT.out)) (by cases kj73 <;> simp [laws_FnDogsChase.j8])
                ·
                 rw [if_neg c123] at H
                 have c123b0 : (t580 != t583) = false := by simpa using c123
                 (try (have c123b1 : decide (t580 = t583) = true := by simpa using c123))
                 (try (have c123b2 : (t580 == t583) = true := by simpa using c123))
                 clear c123
                 by_cases c124 : t578 = t581
                 ·
                  rw [if_pos c124] at H
                  have c124b0 : (t578 == t581) = true := beq_iff_eq.mpr c124
                  have c124b1 : (t578 != t581) = false := bne_eq_false_iff_eq.mpr c124
                  clear c124
                  by_cases c125 : t579 = t582
                  ·
                   rw [if_pos c125] at H
                   have c125b0 : (t579 == t582) = true := beq_iff_eq.mpr c125
                   have c125b1 : (t579 != t582) = false := bne_eq_false_iff_eq.mpr c125
                   clear c125
                   by_cases c126 : (t589 != t595) = true
                   ·
                    rw [if_pos c126] at H
                    have c126b0 : (t589 != t595) = true := c126
                    (try (have c126b1 : decide (t589 = t595) = false := by simpa using c126))
                    (try (have c126b2 : (t589 == t595) = false := by simpa using c126))
                    (try (have c126b3 : ¬ (t589 = t595) := by simpa using c126))
                    clear c126
                    exact absurd (H.trans (congrArg some HRT.out)) (by cases kj73 <;> simp [laws_FnDogsChase.j8])
                   ·
                    rw [if_neg c126] at H
                    have c126b0 : (t589 != t595) = false := by simpa using c126
                    (try (have c126b1 : decide (t589 = t595) = true := by simpa using c126))
                    (try (have c126b2 : (t589 == t595) = true := by simpa using c126))
                    clear c126
                    have H' := Aside0.mk H
                    clear H
                    have hnb127 := NB590_526.out
                    have hnc127 := NB526_590.out
                    have hnb128 := NB590_596.out
                    have hnc128 := NB596_590.out
                    obtain ⟨hcz129_0, hcz129_1, hcz129_2, hcz129_3, hfz129_0, hfz129_1, hfz129_2, hfz129_3⟩ := four_ BK590.out
                    have hnb130 := NB596_526.out
                    have hnc130 := NB526_596.out
                    obtain ⟨hcz131_0, hcz131_1, hcz131_2, hcz131_3, hfz131_0, hfz131_1, hfz131_2, hfz131_3⟩ := four_ BK596.out
                    go_wp2
                    repeat (go_quiet (fail); try go_wp2)
                    go_meet
                    case rel => exact ⟨_, ((!(t585 == t591) || (!(t586 == t592) || (!(t587 == t593) || (!(t588 == t594)))))), (rs_), H', ⟨by have := HJ11.out; have := HJ35.out; have := HJ42.out; have := HJ73.out; first | omega | exact Nat.le_refl _⟩, ⟨by (with_reducible repeat (first | refine blk_drewN ?_ _ | refine blk_drew ?_ | refine blk_alloc ?_ _)); refine blk_far ?_ NB526_596.out _; (with_reducible repeat (first | refine blk_drewN ?_ _ | refine blk_drew ?_ | refine blk_alloc ?_ _)); refine blk_far ?_ NB526_596.out _; (with_reducible repeat (first | refine blk_drewN ?_ _ | refine blk_drew ?_ | refine blk_alloc ?_ _)); refine blk_far ?_ NB526_596.out _; (with_reducible repeat (first | refine blk_drewN ?_ _ | refine blk_drew ?_ | refine blk_alloc ?_ _)); refine blk_far ?_ NB526_596.out _; (with_reducible repeat (first | refine blk_drewN ?_ _ | refine blk_drew ?_ | refine blk_alloc ?_ _)); exact BK526.out⟩, ⟨by (with_reducible repeat (first | refine blk_drewN ?_ _ | refine blk_drew ?_ | refine blk_alloc ?_ _)); refine blk_far ?_ NB590_596.out _; (with_reducible repeat (first | refine blk_drewN ?_ _ | refine blk_drew ?_ | refine blk_alloc ?_ _)); refine blk_far ?_ NB590_596.out _; (with_reducible repeat (first | refine blk_drewN ?_ _ | refine blk_drew ?_ | refine blk_alloc ?_ _)); refine blk_far ?_ NB590_596.out _; (with_reducible repeat (first | refine blk_drewN ?_ _ | refine blk_drew ?_ | refine blk_alloc ?_ _)); refine blk_far ?_ NB590_596.out _; (with_reducible repeat (first | refine blk_drewN ?_ _ | refine blk_drew ?_ | refine blk_alloc ?_ _)); exact BK590.out⟩, ⟨by (with_reducible repeat (first | refine blk_drewN ?_ _ | refine blk_drew ?_ | refine blk_alloc ?_ _)); refine blk_put (cs := #[.int .i64 t591, .int .i64 t592, .int .i64 t593, .int .i64 0]) ?_ 3 _ rfl; (with_reducible repeat (first | refine blk_drewN ?_ _ | refine blk_drew ?_ | refine blk_alloc ?_ _)); refine blk_put (cs := #[.int .i64 t591, .int .i64 t592, .int .i64 0, .int .i64 0]) ?_ 2 _ rfl; (with_reducible repeat (first | refine blk_drewN ?_ _ | refine blk_drew ?_ | refine blk_alloc ?_ _)); refine blk_put (cs := #[.int .i64 t591, .int .i64 0, .int .i64 0, .int .i64 0]) ?_ 1 _ rfl; (with_reducible repeat (first | refine blk_drewN ?_ _ | refine blk_drew ?_ | refine blk_alloc ?_ _)); refine blk_put (cs := #[.int .i64 0, .int .i64 0, .int .i64 0, .int .i64 0]) ?_ 0 _ rfl; (with_reducible repeat (first | refine blk_drewN ?_ _ | refine blk_drew ?_ | refine blk_alloc ?_ _)); exact BK596.out⟩, ⟨bw_⟩⟩
                  ·
                   rw [if_neg c125] at H
                   have c125b0 : (t579 == t582) = false := beq_eq_false_iff_ne.mpr c125
                   have c125b1 : (t579 != t582) = true := bne_iff_ne.mpr c125
                   exact absurd (H.trans (congrArg some HRT.out)) (by cases kj73 <;> simp [laws_FnDogsChase.j8])
                 ·
                  rw [if_neg c124] at H
                  have c124b0 : (t578 == t581) = false := beq_eq_false_iff_ne.mpr c124
                  have c124b1 : (t578 != t581) = true := bne_iff_ne.mpr c124
                  exact absurd (H.trans (congrArg some HRT.out)) (by cases kj73 <;> simp [laws_FnDogsChase.j8])
             ·
              rw [if_neg c120] at H
              have c120b0 : (t563 == t565) = false := beq_eq_false_iff_ne.mpr c120
              have c120b1 : (t563 != t565) = true := bne_iff_ne.mpr c120
              exact absurd (H.trans (congrArg some HRT.out)) (by cases kj73 <;> simp [laws_FnDogsChase.j8])
           case rest => as_aux_lemma =>
            clear HC100
            (try clear c1); (try clear c4); (try clear c35); (try clear hcz113_0); (try clear hcz113_1); (try clear hcz113_2); (try clear hcz113_3); (try clear hcz118_0); (try clear hcz118_1); (try clear hcz118_2); (try clear hcz118_3); (try clear hcz15_0); (try clear hcz15_1); (try clear hcz15_2); (try clear hcz15_3); (try clear hcz17_0); (try clear hcz17_1); (try clear hcz17_2); (try clear hcz17_3); (try clear hcz19_0); (try clear hcz19_1); (try clear hcz19_2); (try clear hcz19_3); (try clear hcz21_0); (try clear hcz21_1); (try clear hcz21_2); (try clear hcz21_3); (try clear hcz23_0); (try clear hcz23_1); (try clear hcz23_2); (try clear hcz23_3); (try clear hcz25_0); (try clear hcz25_1); (try clear hcz25_2); (try clear hcz25_3); (try clear hfz113_0); (try clear hfz113_1); (try clear hfz113_2); (try clear hfz113_3); (try clear hfz118_0); (try clear hfz118_1); (try clear hfz118_2); (try clear hfz118_3); (try clear hfz15_0); (try clear hfz15_1); (try clear hfz15_2); (try clear hfz15_3); (try clear hfz17_0); (try clear hfz17_1); (try clear hfz17_2); (try clear hfz17_3); (try clear hfz19_0); (try clear hfz19_1); (try clear hfz19_2); (try clear hfz19_3); (try clear hfz21_0); (try clear hfz21_1); (try clear hfz21_2); (try clear hfz21_3); (try clear hfz23_0); (try clear hfz23_1); (try clear hfz23_2); (try clear hfz23_3); (try clear hfz25_0); (try clear hfz25_1); (try clear hfz25_2); (try clear hfz25_3)
            obtain ⟨kq, x440_99, rfl, HA, HJ99, BK526, BK590, BK596, HB⟩ := hcut
            cases kq with
            | zero => exact absurd HA.out (by simp [laws_FnDogsChase.j8])
            | succ kj99 =>
             have H := HA.out
             clear HA
             simp only [laws_FnDogsChase.j8] at H
             by_cases c132 : x440_99 = true
             ·
              subst c132
              rw [if_pos rfl] at H
              exact absurd ((Option.some.inj H).trans HRT.out) (by decide)
             ·
              replace c132 := Bool.eq_false_iff.mpr c132
              subst c132
              rw [if_neg (show ¬ (false = true) by decide)] at H
              have HC133 := Aside0.mk H
              clear H
              go_upto_if 441 with (fail)
              repeat (go_quiet (fail); go_upto_if 441 with (fail))
              go_cut [] from 442 to 489 (fun wc => ∃ (kq : Nat), Aside0 (laws_FnDogsChase.j9 kq t575 t576 t577 t578 t579 t580 t584 t589 t585 t586 t587 t588 = some r) ∧ Aside0 (kq ≤ kj99) ∧ Aside0 (wc.heap[gb526]? = some (.cells #[.int .i64 t520, .int .i64 t521, .int .i64 t522, .int .i64 t523] 25 (0, 0))) ∧ Aside0 (wc.heap[gb590]? = some (.cells #[.int .i64 t585, .int .i64 t586, .int .i64 t587, .int .i64 t588] 25 (0, 0))) ∧ Aside0 (wc.heap[gb596]? = some (.cells #[.int .i64 t591, .int .i64 t592, .int .i64 t593, .int .i64 t594] 25 (0, 0))) ∧ Aside0 (Below w.heap.size w wc))
              case first => as_aux_lemma =>
               have H := HC133.out
               clear HC133
               by_cases c134 : t564 = true
               ·
                subst c134
                rw [if_pos rfl] at H
                replace H := Option.bind_eq_some_iff.mp H
                obtain ⟨⟨t597, t598⟩, A1350, H⟩ := H
                (try dsimp only at H)
                have A135 := Aside0.mk A1350
                clear A1350
                by_cases c136 : t598 = true
                ·
                 subst c136
                 rw [if_pos rfl] at H
                 by_cases c137 : t597 = true
                 ·
                  subst c137
                  rw [if_pos rfl] at H
                  by_cases c138 : t563 < 1
                  ·
                   rw [if_pos c138] at H
                   have c138b0 : decide (t563 < 1) = true := decide_eq_true c138
                   clear c138
                   (first | rw [c138b0] | (simp only [i64_w, i32_w]; rw [c138b0]) | skip)
                   exact absurd ((Option.some.inj H).trans HRT.out) (by decide)
                  ·
                   rw [if_neg c138] at H
                   have c138b0 : decide (t563 < 1) = false := decide_eq_false c138
                   clear c138
                   (first | rw [c138b0] | (simp only [i64_w, i32_w]; rw [c138b0]) | skip)
                   by_cases c139 : (wrap64 (t563 * (wrap64 ((wrap64 (t559 * t562)) - (wrap64 (t560 * t561)))))) < (wrap64 ((wrap64 (t558 * t559)) * t561))
                   ·
                    rw [if_pos c139] at H
                    have c139b0 : decide ((wrap64 (t563 * (wrap64 ((wrap64 (t559 * t562)) - (wrap64 (t560 * t561)))))) < (wrap64 ((wrap64 (t558 * t559)) * t561))) = true := decide_eq_true c139
                    clear c139
                    exact absurd ((Option.some.inj H).trans HRT.out) (by decide)
                   ·
                    rw [if_neg c139] at H
                    have c139b0 : decide ((wrap64 (t563 * (wrap64 ((wrap64 (t559 * t562)) - (wrap64 (t560 * t561)))))) < (wrap64 ((wrap64 (t558 * t559)) * t561))) = false := decide_eq_false c139
                    clear c139
                    by_cases c140 : (wrap64 ((wrap64 (t563 - 1)) * (wrap64 ((wrap64 (t559 * t562)) - (wrap64 (t560 * t561)))))) ≥ (wrap64 ((wrap64 (t558 * t559)) * t561))
                    ·
                     rw [if_pos c140] at H
                     have c140b0 : decide ((wrap64 ((wrap64 (t558 * t559)) * t561)) ≤ (wrap64 ((wrap64 (t563 - 1)) * (wrap64 ((wrap64 (t559 * t562)) - (wrap64 (t560 * t561))))))) = true := decide_eq_true c140
                     clear c140
                     exact absurd ((Option.some.inj H).trans HRT.out) (by decide)
                    ·
                     rw [if_neg c140] at H
                     have c140b0 : decide ((wrap64 ((wrap64 (t558 * t559)) * t561)) ≤ (wrap64 ((wrap64 (t563 - 1)) * (wrap64 ((wrap64 (t559 * t562)) - (wrap64 (t560 * t561))))))) = false := decide_eq_false c140
                     clear c140
                     have H' := Aside0.mk H
                     clear H
                     go_wp2_with (first | (go_at_call 18; (with_reducible refine (impl_CanCatch.calls kj99 t559 t560 t561 t562 true true _ A135.out).mono ?_); rintro e w141 ⟨rfl, hb⟩; have n0_ := Aside0.mk (bb_ BK526.out hb); have n1_ := Aside0.mk (bb_ BK590.out hb); have n2_ := Aside0.mk (bb_ BK596.out hb); have n3_ := Aside0.mk (below_step bw_ hb); clear BK526; clear BK590; clear BK596; clear HB; have BK526 := n0_; have BK590 := n1_; have BK596 := n2_; have HB := n3_; clear n0_ n1_ n2_ n3_; (try clear hb); (try clear hb2); (try clear hk); (try clear hi)))
                     repeat (go_quiet (first | (go_at_call 18; (with_reducible refine (impl_CanCatch.calls kj99 t559 t560 t561 t562 true true _ A135.out).mono ?_); rintro e w141 ⟨rfl, hb⟩; have n0_ := Aside0.mk (bb_ BK526.out hb); have n1_ := Aside0.mk (bb_ BK590.out hb); have n2_ := Aside0.mk (bb_ BK596.out hb); have n3_ := Aside0.mk (below_step bw_ hb); clear BK526; clear BK590; clear BK596; clear HB; have BK526 := n0_; have BK590 := n1_; have BK596 := n2_; have HB := n3_; clear n0_ n1_ n2_ n3_; (try clear hb); (try clear hb2); (try clear hk); (try clear hi))); try go_wp2_with (first | (go_at_call 18; (with_reducible refine (impl_CanCatch.calls kj99 t559 t560 t561 t562 true true _ A135.out).mono ?_); rintro e w141 ⟨rfl, hb⟩; have n0_ := Aside0.mk (bb_ BK526.out hb); have n1_ := Aside0.mk (bb_ BK590.out hb); have n2_ := Aside0.mk (bb_ BK596.out hb); have n3_ := Aside0.mk (below_step bw_ hb); clear BK526; clear BK590; clear BK596; clear HB; have BK526 := n0_; have BK590 := n1_; have BK596 := n2_; have HB := n3_; clear n0_ n1_ n2_ n3_; (try clear hb); (try clear hb2); (try clear hk); (try clear hi))))
                     go_meet
                     case rel => exact ⟨_, H', ⟨by have := HJ11.out; have := HJ35.out; have := HJ42.out; have := HJ73.out; have := HJ99.out; first | omega | exact Nat.le_refl _⟩, ⟨bk_⟩, ⟨bk_⟩, ⟨bk_⟩, ⟨bw_⟩⟩
                 ·
                  replace c137 := Bool.eq_false_iff.mpr c137
                  subst c137
                  rw [if_neg (show ¬ (false = true) by decide)] at H
                  exact absurd ((Option.some.inj H).trans HRT.out) (by decide)
                ·
                 replace c136 := Bool.eq_false_iff.mpr c136
                 subst c136
                 rw [if_neg (show ¬ (false = true) by decide)] at H
                 exact absurd ((Option.some.inj H).trans HRT.out) (by decide)
               ·
                replace c134 := Bool.eq_false_iff.mpr c134
                subst c134
                rw [if_neg (show ¬ (false = true) by decide)] at H
                have H' := Aside0.mk H
                clear H
                go_wp2
                repeat (go_quiet (fail); try go_wp2)
                go_meet
                case rel => exact ⟨_, H', ⟨by have := HJ11.out; have := HJ35.out; have := HJ42.out; have := HJ73.out; have := HJ99.out; first | omega | exact Nat.le_refl _⟩, ⟨bk_⟩, ⟨bk_⟩, ⟨bk_⟩, ⟨bw_⟩⟩
              case rest => as_aux_lemma =>
               clear HC133
               (try clear c1); (try clear c4); (try clear c35); (try clear c132); (try clear hcz113_0); (try clear hcz113_1); (try clear hcz113_2); (try clear hcz113_3); (try clear hcz118_0); (try clear hcz118_1); (try clear hcz118_2); (try clear hcz118_3); (try clear hcz15_0); (try clear hcz15_1); (try clear hcz15_2); (try clear hcz15_3); (try clear hcz17_0); (try clear hcz17_1); (try clear hcz17_2); (try clear hcz17_3); (try clear hcz19_0); (try clear hcz19_1); (try clear hcz19_2); (try clear hcz19_3); (try clear hcz21_0); (try clear hcz21_1); (try clear hcz21_2); (try clear hcz21_3); (try clear hcz23_0); (try clear hcz23_1); (try clear hcz23_2); (try clear hcz23_3); (try clear hcz25_0); (try clear hcz25_1); (try clear hcz25_2); (try clear hcz25_3); (try clear hfz113_0); (try clear hfz113_1); (try clear hfz113_2); (try clear hfz113_3); (try clear hfz118_0); (try clear hfz118_1); (try clear hfz118_2); (try clear hfz118_3); (try clear hfz15_0); (try clear hfz15_1); (try clear hfz15_2); (try clear hfz15_3); (try clear hfz17_0); (try clear hfz17_1); (try clear hfz17_2); (try clear hfz17_3); (try clear hfz19_0); (try clear hfz19_1); (try clear hfz19_2); (try clear hfz19_3); (try clear hfz21_0); (try clear hfz21_1); (try clear hfz21_2); (try clear hfz21_3); (try clear hfz23_0); (try clear hfz23_1); (try clear hfz23_2); (try clear hfz23_3); (try clear hfz25_0); (try clear hfz25_1); (try clear hfz25_2); (try clear hfz25_3)
               obtain ⟨kq, HA, HJ132, BK526, BK590, BK596, HB⟩ := hcut
               cases kq with
               | zero => exact absurd HA.out (by simp [laws_FnDogsChase.j9])
               | succ kj132 =>
                have H := HA.out
                clear HA
                simp only [laws_FnDogsChase.j9] at H
                have HC142 := Aside0.mk H
                clear H
                go_upto_region 50 with (fail)
                repeat (go_quiet (fail); go_upto_region 50 with (fail))
                go_cut [509] from 490 to 509 (fun v509 wc => ∃ (kq : Nat) (x509_141 : Bool), v509 = .bool x509_141 ∧ Aside0 (laws_FnDogsChase.j10 kq t584 t589 x509_141 t585 t586 t587 t588 = some r) ∧ Aside0 (kq ≤ kj132) ∧ Aside0 (wc.heap[gb526]? = some (.cells #[.int .i64 t520, .int .i64 t521, .int .i64 t522, .int .i64 t523] 25 (0, 0))) ∧ Aside0 (wc.heap[gb590]? = some (.cells #[.int .i64 t585, .int .i64 t586, .int .i64 t587, .int .i64 t588] 25 (0, 0))) ∧ Aside0 (wc.heap[gb596]? = some (.cells #[.int .i64 t591, .int .i64 t592, .int .i64 t593, .int .i64 t594] 25 (0, 0))) ∧ Aside0 (Below w.heap.size w wc))
                case first => as_aux_lemma =>
                 have H := HC142.out
                 clear HC142
                 by_cases c143 : t580 = true
                 ·
                  subst c143
                  rw [if_pos rfl] at H
                  replace H := Option.bind_eq_some_iff.mp H
                  obtain ⟨t599, A1440, H⟩ := H
                  (try dsimp only at H)
                  have A144 := Aside0.mk A1440
                  clear A1440
                  by_cases c145 : t599 = true
                  ·
                   subst c145
                   rw [if_pos rfl] at H
                   have H' := Aside0.mk H
                   clear H
                   go_wp2_with (first | (go_at_call 12; (with_reducible refine (laws_yLow.calls kj132 t578 t579 true _ A144.out).mono ?_); rintro e w' ⟨rfl, ⟨nd, rfl⟩⟩; (try first | exact ⟨rfl, _, World.drewN_drewN _ _ _⟩ | exact ⟨rfl, _, Eq.trans (World.drewN_drewN _ _ _) (congrArg (World.drewN _) (Nat.add_assoc _ _ _))⟩)))
                   repeat (go_quiet (first | (go_at_call 12; (with_reducible refine (laws_yLow.calls kj132 t578 t579 true _ A144.out).mono ?_); rintro e w' ⟨rfl, ⟨nd, rfl⟩⟩; (try first | exact ⟨rfl, _, World.drewN_drewN _ _ _⟩ | exact ⟨rfl, _, Eq.trans (World.drewN_drewN _ _ _) (congrArg (World.drewN _) (Nat.add_assoc _ _ _))⟩))); try go_wp2_with (first | (go_at_call 12; (with_reducible refine (laws_yLow.calls kj132 t578 t579 true _ A144.out).mono ?_); rintro e w' ⟨rfl, ⟨nd, rfl⟩⟩; (try first | exact ⟨rfl, _, World.drewN_drewN _ _ _⟩ | exact ⟨rfl, _, Eq.trans (World.drewN_drewN _ _ _) (congrArg (World.drewN _) (Nat.add_assoc _ _ _))⟩))))
                   go_meet
                   case rel => exact ⟨_, (((wrap64 (t578 * t576)) != (wrap64 (t579 * (wrap64 (t575 + (wrap64 (t577 * t576)))))))), (rs_), H', ⟨by have := HJ11.out; have := HJ35.out; have := HJ42.out; have := HJ73.out; have := HJ99.out; have := HJ132.out; first | omega | exact Nat.le_refl _⟩, ⟨bk_⟩, ⟨bk_⟩, ⟨bk_⟩, ⟨bw_⟩⟩
                  ·
                   replace c145 := Bool.eq_false_iff.mpr c145
                   subst c145
                   rw [if_neg (show ¬ (false = true) by decide)] at H
                   exact absurd (H.trans (congrArg some HRT.out)) (by cases kj132 <;> simp [laws_FnDogsChase.j10])
                 ·
                  replace c143 := Bool.eq_false_iff.mpr c143
                  subst c143
                  rw [if_neg (show ¬ (false = true) by decide)] at H
                  have H' := Aside0.mk H
                  clear H
                  go_wp2
                  repeat (go_quiet (fail); try go_wp2)
                  go_meet
                  case rel => exact ⟨_, (false), (rs_), H', ⟨by have := HJ11.out; have := HJ35.out; have := HJ42.out; have := HJ73.out; have := HJ99.out; have := HJ132.out; first | omega | exact Nat.le_refl _⟩, ⟨bk_⟩, ⟨bk_⟩, ⟨bk_⟩, ⟨bw_⟩⟩
                case rest => as_aux_lemma =>
                 clear HC142
                 (try clear c1); (try clear c4); (try clear c35); (try clear c132); (try clear hcz113_0); (try clear hcz113_1); (try clear hcz113_2); (try clear hcz113_3); (try clear hcz118_0); (try clear hcz118_1); (try clear hcz118_2); (try clear hcz118_3); (try clear hcz15_0); (try clear hcz15_1); (try clear hcz15_2); (try clear hcz15_3); (try clear hcz17_0); (try clear hcz17_1); (try clear hcz17_2); (try clear hcz17_3); (try clear hcz19_0); (try clear hcz19_1); (try clear hcz19_2); (try clear hcz19_3); (try clear hcz21_0); (try clear hcz21_1); (try clear hcz21_2); (try clear hcz21_3); (try clear hcz23_0); (try clear hcz23_1); (try clear hcz23_2); (try clear hcz23_3); (try clear hcz25_0); (try clear hcz25_1); (try clear hcz25_2); (try clear hcz25_3); (try clear hfz113_0); (try clear hfz113_1); (try clear hfz113_2); (try clear hfz113_3); (try clear hfz118_0); (try clear hfz118_1); (try clear hfz118_2); (try clear hfz118_3); (try clear hfz15_0); (try clear hfz15_1); (try clear hfz15_2); (try clear hfz15_3); (try clear hfz17_0); (try clear hfz17_1); (try clear hfz17_2); (try clear hfz17_3); (try clear hfz19_0); (try clear hfz19_1); (try clear hfz19_2); (try clear hfz19_3); (try clear hfz21_0); (try clear hfz21_1); (try clear hfz21_2); (try clear hfz21_3); (try clear hfz23_0); (try clear hfz23_1); (try clear hfz23_2); (try clear hfz23_3); (try clear hfz25_0); (try clear hfz25_1); (try clear hfz25_2); (try clear hfz25_3)
                 obtain ⟨kq, x509_141, rfl, HA, HJ141, BK526, BK590, BK596, HB⟩ := hcut
                 cases kq with
                 | zero => exact absurd HA.out (by simp [laws_FnDogsChase.j10])
                 | succ kj141 =>
                  have H := HA.out
                  clear HA
                  simp only [laws_FnDogsChase.j10] at H
                  by_cases c146 : x509_141 = true
                  ·
                   subst c146
                   rw [if_pos rfl] at H
                   exact absurd ((Option.some.inj H).trans HRT.out) (by decide)
                  ·
                   replace c146 := Bool.eq_false_iff.mpr c146
                   subst c146
                   rw [if_neg (show ¬ (false = true) by decide)] at H
                   by_cases c147 : t589 = true
                   ·
                    subst c147
                    rw [if_pos rfl] at H
                    replace H := Option.bind_eq_some_iff.mp H
                    obtain ⟨⟨t600, t601⟩, A1480, H⟩ := H
                    (try dsimp only at H)
                    have A148 := Aside0.mk A1480
                    clear A1480
                    by_cases c149 : t601 = true
                    ·
                     subst c149
                     rw [if_pos rfl] at H
                     obtain rfl := Option.some.inj H
                     have hnb150 := NB590_526.out
                     have hnc150 := NB526_590.out
                     have hnb151 := NB590_596.out
                     have hnc151 := NB596_590.out
                     obtain ⟨hcz152_0, hcz152_1, hcz152_2, hcz152_3, hfz152_0, hfz152_1, hfz152_2, hfz152_3⟩ := four_ BK590.out
                     go_wp2_with (first | (go_at_call 26; (with_reducible refine (impl_ChaseText.calls kj141 t585 t586 t587 t588 t600 true _ A148.out).mono ?_); rintro e w153 ⟨rfl, hb⟩; have n0_ := Aside0.mk (bb_ BK526.out hb); have n1_ := Aside0.mk (bb_ BK590.out hb); have n2_ := Aside0.mk (bb_ BK596.out hb); have n3_ := Aside0.mk (below_step bw_ hb); clear BK526; clear BK590; clear BK596; clear HB; have BK526 := n0_; have BK590 := n1_; have BK596 := n2_; have HB := n3_; clear n0_ n1_ n2_ n3_; (try clear hb); (try clear hb2); (try clear hk); (try clear hi)))
                     repeat (go_quiet (first | (go_at_call 26; (with_reducible refine (impl_ChaseText.calls kj141 t585 t586 t587 t588 t600 true _ A148.out).mono ?_); rintro e w153 ⟨rfl, hb⟩; have n0_ := Aside0.mk (bb_ BK526.out hb); have n1_ := Aside0.mk (bb_ BK590.out hb); have n2_ := Aside0.mk (bb_ BK596.out hb); have n3_ := Aside0.mk (below_step bw_ hb); clear BK526; clear BK590; clear BK596; clear HB; have BK526 := n0_; have BK590 := n1_; have BK596 := n2_; have HB := n3_; clear n0_ n1_ n2_ n3_; (try clear hb); (try clear hb2); (try clear hk); (try clear hi))); try go_wp2_with (first | (go_at_call 26; (with_reducible refine (impl_ChaseText.calls kj141 t585 t586 t587 t588 t600 true _ A148.out).mono ?_); rintro e w153 ⟨rfl, hb⟩; have n0_ := Aside0.mk (bb_ BK526.out hb); have n1_ := Aside0.mk (bb_ BK590.out hb); have n2_ := Aside0.mk (bb_ BK596.out hb); have n3_ := Aside0.mk (below_step bw_ hb); clear BK526; clear BK590; clear BK596; clear HB; have BK526 := n0_; have BK590 := n1_; have BK596 := n2_; have HB := n3_; clear n0_ n1_ n2_ n3_; (try clear hb); (try clear hb2); (try clear hk); (try clear hi))))
                     go_ret
                     exact ⟨rt_, bw_⟩
                    ·
                     replace c149 := Bool.eq_false_iff.mpr c149
                     subst c149
                     rw [if_neg (show ¬ (false = true) by decide)] at H
                     exact absurd ((Option.some.inj H).trans HRT.out) (by decide)
                   ·
                    replace c147 := Bool.eq_false_iff.mpr c147
                    subst c147
                    rw [if_neg (show ¬ (false = true) by decide)] at H
                    obtain rfl := Option.some.inj H
                    go_wp2
                    repeat (go_quiet (fail); try go_wp2)
                    go_ret
                    exact ⟨rt_, bw_⟩

/-- THE ONE PURE STATEMENT of laws_FnDogsChase: yours. -/
def laws_FnDogsChase.Pure : Prop := ∀ (l0 : List Int) (l1 : List Int), l0.length ≤ maxLen → l0.length * 1 ≤ 140737488351232 → (∀ x ∈ l0, (Lit.int .u8 x).wf = true) → l1.length ≤ maxLen → l1.length * 1 ≤ 140737488351232 → (∀ x ∈ l1, (Lit.int .u8 x).wf = true) → ∃ k, laws_FnDogsChase.f k l0 l1 = some true
theorem laws_FnDogsChase.walk (P : laws_FnDogsChase.Pure) (a0 : Option Addr) (len0 cap0 : Nat) (z0 : List Int) (a1 : Option Addr) (len1 cap1 : Nat) (z1 : List Int) (w : World) (w0 : (a0 = none ∧ len0 = 0 ∧ cap0 = 0 ∧ z0 = []) ∨ ∃ x, a0 = some x ∧ len0 ≤ cap0 ∧ cap0 ≤ maxLen ∧ z0.length = cap0 ∧ (∀ i, i < z0.length → w.cell? (x.add i) = some (.int .u8 (z0.getD i 0))) ∧ ∀ n ∈ z0, (Lit.int .u8 n).wf = true) (y0 : len0 * 1 ≤ 140737488351232) (w1 : (a1 = none ∧ len1 = 0 ∧ cap1 = 0 ∧ z1 = []) ∨ ∃ x, a1 = some x ∧ len1 ≤ cap1 ∧ cap1 ≤ maxLen ∧ z1.length = cap1 ∧ (∀ i, i < z1.length → w.cell? (x.add i) = some (.int .u8 (z1.getD i 0))) ∧ ∀ n ∈ z1, (Lit.int .u8 n).wf = true) (y1 : len1 * 1 ≤ 140737488351232) (hL0 : LaidA w := by first | (with_reducible exact hL0) | exact LaidA.below hL0 (by repeat (first | (with_reducible first | exact HB.out | apply below_alloc | apply pw_below_drewN | apply below_drew1 | refine below_set ?_ (Nat.le_refl _) | refine below_set ?_ (Aside0.out (by assumption))) | exact HB.out | exact Below.refl _ _))) :
  Calls Tryz.prog 3 #[.slice a0 len0 cap0, .slice a1 len1 cap1] w fun e w' => e = .returned (.bool true) ∧ Below w.heap.size w w' := by
 obtain ⟨l0, rfl, hr0, hm0, hw0, hc0⟩ := ReadsInt.ofRowC w0
 obtain ⟨l1, rfl, hr1, hm1, hw1, hc1⟩ := ReadsInt.ofRowC w1
 obtain ⟨k, h⟩ := P l0 l1 hm0 y0 hw0 hm1 y1 hw1
 refine (laws_FnDogsChase.calls k _ _ l0 _ _ l1 true w (Kd.C_of_reads (d := (0 : Int)) (h1 := fun _ => rfl) hr0) hc0 (Kd.C_of_reads (d := (0 : Int)) (h1 := fun _ => rfl) hr1) hc1 h rfl).mono ?_
 rintro e w' ⟨rfl, hd⟩
 exact ⟨rfl, hd⟩

end Go.Proofs.YtajlcomankjcjadGreatDoor.PFnDogsChase
