-- Laid by a program of this session's (wip/gen/printp.sh): the functions that the law reaches, each with its walk.
import Derived.Test.YtfkieckkmcibbaaGreatDoorPFnRunnersRunx0
import Derived.Test.YtfkieckkmcibbaaGreatDoorPFnRunnersRunx2
import Derived.Test.YtfkieckkmcibbaaGreatDoorPFnRunnersRunx3
import Derived.Test.YtfkieckkmcibbaaGreatDoorPFnRunnersRunx5
import Derived.Test.YtfkieckkmcibbaaGreatDoorPFnRunnersRunx6
import Derived.Test.YtfkieckkmcibbaaGreatDoorPFnRunnersRunx7
import Derived.Test.YtfkieckkmcibbaaGreatDoorPFnRunnersRunx8
import Derived.Test.YtfkieckkmcibbaaGreatDoorPFnRunnersRunx9
import Derived.Test.YtfkieckkmcibbaaGreatDoorPFnRunnersRunx10
import Derived.Test.YtfkieckkmcibbaaGreatDoorPFnRunnersRunx11
import Derived.Test.YtfkieckkmcibbaaGreatDoorPFnRunnersRunx12
import Derived.Test.YtfkieckkmcibbaaGreatDoorPFnRunnersRunx13
import Derived.Test.YtfkieckkmcibbaaGreatDoorPFnRunnersRunx14
import Derived.Test.YtfkieckkmcibbaaGreatDoorPFnRunnersRunx15
import Derived.Test.YtfkieckkmcibbaaGreatDoorPFnRunnersRunx16
import Derived.Test.YtfkieckkmcibbaaGreatDoorPFnRunnersRunx17
import Derived.Test.YtfkieckkmcibbaaGreatDoorPFnRunnersRunx18
namespace Go.Proofs.YtfkieckkmcibbaaGreatDoor.PFnRunnersRun
open Go.RowKit Go.Proofs.YtfkieckkmcibbaaGreatDoorW.PrintWords Go.Proofs.YtfkieckkmcibbaaGreatDoorW.PrintLast Go.Proofs.YtfkieckkmcibbaaGreatDoorW.PrintMore
attribute [local go_sem] max2_int min2_int max_two min_two max_three min_three max_four min_four   -- for this text's walks alone
set_option linter.unusedVariables false
set_option linter.unusedSimpArgs false
set_option maxHeartbeats 80000000 in
set_option maxRecDepth 100000 in
theorem laws_FnRunnersRun.case3 (k : Nat) (A0 : Option Addr) (c0 : Nat) (l0 : List Int) (A1 : Option Addr) (c1 : Nat) (l1 : List Int) (r : Bool) (w : World) : (laws_FnRunnersRun.part k A0 c0 l0 A1 c1 l1 r w).2.2.1 := by
              intro hL0 HRT hu35 HR0 HC0 HR1 HC1 A3 t603 t604 t605 A5 t608 t609 A6 t612 t613 A7 z1_ nd z2_ w9 Ao10 co10 w11 v610 w12 v614 HO615 z3_ HO607 HO611 z4_ u117 u118 u119 u120 u121 u122 u123 u124 HO_6 HO_8 z5_ kj7 HJ7 z6_ z7_ u12 u13 u14 u15 u127 u128 u129 u130 u131 u132 u133 u134 u135 u136 u137 u138 u139 u140 u141 u142 u143 u144 u145 u146 u147 u148 u149 u150 u151 u152 u153 u154 u155 u156 u157 u158 u159 u160 u161 u162 u163 u164 u165 u166 u167 u168 u169 u170 u171 u172 u173 u174 u175 u176 u177 u178 u179 u180 u181 u182 u183 u184 u185 u186 u187 u188 u189 u190 u191 u192 u193 kj17 HJ17 t629 t630 t631 t632 A50 t634 t635 A51 t636 t637 A52 t638 t639 A53 t640 t641 A54 t642 t643 t644 A55 t647 t648 A56 t649 t650 A57 t651 t652 t653 t654 t655 t656 A58 t659 t660 A59 t661 t662 A60 t663 t664 t665 A61 t666 t667 t668 A62 t669 t670 t671 A63 t674 t675 A64 t678 t679 A65 t682 t683 t684 t685 A66 t688 t689 A67 t690 t691 A68 t692 A69 t695 t696 A70 t697 t698 A71 t699 A72 t700 t701 A73 t704 t705 A74 w76 gb633 w77 GW633 GE633 w79 w81 w83 w85 w86 Ao87 co87 w88 w89 w90 gb657 w91 GW657 GE657 NB633_657 NB657_633 gb658 w92 GW658 GE658 NB633_658 NB658_633 NB657_658 NB658_657 hnb93 hnc93 hnb94 hnc94 hnb96 hnc96 w98 w101 w103 w105 w106 Ao107 co107 w108 v676 w109 v680 w110 Ao111 co111 w112 w113 w114 Ao115 co115 w116 w117 w118 w119 v702 w120 v706 HO707 z8_ z9_ z10_ z11_ HO646 HO673 HO677 HO681 HO687 HO694 HO703 z12_ u354 u355 u356 u357 u358 u359 u360 u361 u362 u363 u364 u365 u366 u367 u368 u369 u370 u371 u372 u373 u374 u375 u376 u377 u378 u379 u380 u381 u382 u383 u384 u385 u386 u387 u388 u389 u390 u391 u392 u393 u394 u395 u396 u397 u398 u399 u400 u401 u402 u403 u404 u405 u406 u407 u408 u409 u410 u411 u412 u413 u414 u415 u416 u417 u418 u419 u420 u421 u422 u423 u424 u425 u426 u427 u428 u429 u430 u431 u432 u433 u434 u435 u436 u437 u438 u439 u440 u441 u442 u443 u444 u445 u446 u447 u448 u449 u450 u451 u452 z13_ z14_ z15_ z16_ z17_ z18_ z19_ z20_ z21_ kj74 HJ74 z22_ u454 u455 u456 u457 u458 u459 u460 u461 u462 u463 u464 u465 u466 u467 u468 u469 u470 u471 u472 u473 u474 u475 u476 HO_28 HO_49 HO_51 HO_63 HO_69 BK633 BK657 BK658 HB kj146 HJ146 HC155 z23_ z24_ wc u4 u73 u74 u75 u76 u77 u78 u79 u479 u480 u481 u482 u483 u484 u485 u486 u487 u488 u489 u490 u491 u492 u493 u494 u495 u496 u497 u498 u499 u500 u501 u502 u503 u504 u505 u506 u507 u508 u509 u510 u511 u512 u513 u514 u515 u516 u517 u518 u519 u520 u521 u522 u523 u524 u525 u526 u527 u528 u529 u530 u531 u532 u533 u534 u535 u536 u537 u538 u539 u540 u541 u542 u543 u544 u545 u546 u547 hcut
              clear HC155
              (try clear c1); (try clear c4); (try clear c17); (try clear c146); (try clear c154); (try clear hcz100_0); (try clear hcz100_1); (try clear hcz102_0); (try clear hcz102_1); (try clear hcz104_0); (try clear hcz104_1); (try clear hcz78_0); (try clear hcz78_1); (try clear hcz80_0); (try clear hcz80_1); (try clear hcz82_0); (try clear hcz82_1); (try clear hcz84_0); (try clear hcz84_1); (try clear hcz95_0); (try clear hcz95_1); (try clear hcz97_0); (try clear hcz97_1); (try clear hcz99_0); (try clear hcz99_1); (try clear hfz100_0); (try clear hfz100_1); (try clear hfz102_0); (try clear hfz102_1); (try clear hfz104_0); (try clear hfz104_1); (try clear hfz78_0); (try clear hfz78_1); (try clear hfz80_0); (try clear hfz80_1); (try clear hfz82_0); (try clear hfz82_1); (try clear hfz84_0); (try clear hfz84_1); (try clear hfz95_0); (try clear hfz95_1); (try clear hfz97_0); (try clear hfz97_1); (try clear hfz99_0); (try clear hfz99_1)
              obtain ⟨kq, HA, HJ154, HO_49, HO_51, HO_63, HO_69, BK633, BK657, BK658, HB⟩ := hcut
              cases kq with
              | zero => exact absurd HA.out (by simp [laws_FnRunnersRun.j9])
              | succ kj154 =>
               have H := HA.out
               clear HA
               simp only [laws_FnRunnersRun.j9] at H
               have HC177 := A_ H
               clear H
               go_upto_region 61 with (fail)
               go_cut [559] from 548 to 559 (fun v559 wc => ∃ (kq : Nat) (x559_176 : Bool), v559 = .bool x559_176 ∧ Aside0 (laws_FnRunnersRun.j10 kq t651 t659 t660 t663 t664 t665 t669 t670 t671 t674 t675 t692 t695 t696 t699 t700 t701 x559_176 t652 t653 t654 t655 = some r) ∧ Aside0 (kq ≤ kj154) ∧ Aside0 (Kd.R k35 35 wc w.heap.size (fun k_ => some k_ ≠ ((.slice Ao115 t692.length co115) : Value).ownBlock ∧ some k_ ≠ (v702 : Value).ownBlock ∧ k_ ≠ gb633 ∧ k_ ≠ gb657 ∧ k_ ≠ gb658) (.slice Ao107 t670.length co107) t670) ∧ Aside0 (Kd.R (Kd.int .i64) 3 wc w.heap.size (fun _ => True) v676 t674) ∧ Aside0 (Kd.R k35 35 wc w.heap.size (fun k_ => some k_ ≠ ((.slice Ao107 t670.length co107) : Value).ownBlock ∧ some k_ ≠ (v702 : Value).ownBlock ∧ k_ ≠ gb633 ∧ k_ ≠ gb657 ∧ k_ ≠ gb658) (.slice Ao115 t692.length co115) t692) ∧ Aside0 (Kd.R k35 35 wc w.heap.size (fun k_ => some k_ ≠ ((.slice Ao107 t670.length co107) : Value).ownBlock ∧ some k_ ≠ ((.slice Ao115 t692.length co115) : Value).ownBlock ∧ k_ ≠ gb633 ∧ k_ ≠ gb657 ∧ k_ ≠ gb658) v702 t700) ∧ Aside0 (wc.heap[gb633]? = some (.cells #[.int .i64 t630, .int .i64 t631] 35 (0, 0))) ∧ Aside0 (wc.heap[gb657]? = some (.cells #[.int .i64 t652, .int .i64 t653] 35 (0, 0))) ∧ Aside0 (wc.heap[gb658]? = some (.cells #[.int .i64 t654, .int .i64 t655] 35 (0, 0))) ∧ Aside0 (Below w.heap.size w wc))
               case first => as_aux_lemma =>
                have H := HC177.out
                clear HC177
                by_cases c178 : t665 = true
                ·
                 subst c178
                 rw [if_pos rfl] at H
                 replace H := ob_ H
                 obtain ⟨t716, A179, H⟩ := H
                 (try dsimp only at H)
                 have H' := A_ H
                 clear H
                 have hnb180 := NB657_633.out
                 have hnc180 := NB633_657.out
                 have hnb181 := NB657_658.out
                 have hnc181 := NB658_657.out
                 have hcz182_0 := hz_ BK657.out 0 (.int .i64 t652)
                 have hcz182_1 := hz_ BK657.out 1 (.int .i64 t653)
                 have hfz182_0 := blk_frozen BK657.out 0
                 have hfz182_1 := blk_frozen BK657.out 1
                 go_wp2_with (first | (go_at_call 38; (with_reducible refine (laws_qIs.calls kj154 t663 t664 (wrap64 (t656 * t651)) t653 t716 _ A179.out).mono ?_); rintro e w' ⟨rfl, ⟨nd, rfl⟩⟩))
                 go_meet
                 case rel => exact ⟨_, (!t716), (rs_), H', ⟨by have := HJ7.out; have := HJ17.out; have := HJ74.out; have := HJ146.out; have := HJ154.out; first | omega | exact Nat.le_refl _⟩, ⟨by (with_reducible repeat (first | apply Kd.R_alloc | apply Kd.R_drewN | apply Kd.R_drew)); exact HO_49.out⟩, ⟨by (with_reducible repeat (first | apply Kd.R_alloc | apply Kd.R_drewN | apply Kd.R_drew)); exact HO_51.out⟩, ⟨by (with_reducible repeat (first | apply Kd.R_alloc | apply Kd.R_drewN | apply Kd.R_drew)); exact HO_63.out⟩, ⟨by (with_reducible repeat (first | apply Kd.R_alloc | apply Kd.R_drewN | apply Kd.R_drew)); exact HO_69.out⟩, ⟨bk_⟩, ⟨bk_⟩, ⟨bk_⟩, ⟨bw_⟩⟩
                ·
                 replace c178 := Bool.eq_false_iff.mpr c178
                 subst c178
                 rw [if_neg (show ¬ (false = true) by decide)] at H
                 have H' := A_ H
                 clear H
                 go_wp2
                 go_meet
                 case rel => exact ⟨_, (false), (rs_), H', ⟨by have := HJ7.out; have := HJ17.out; have := HJ74.out; have := HJ146.out; have := HJ154.out; first | omega | exact Nat.le_refl _⟩, ⟨by (with_reducible repeat (first | apply Kd.R_alloc | apply Kd.R_drewN | apply Kd.R_drew)); exact HO_49.out⟩, ⟨by (with_reducible repeat (first | apply Kd.R_alloc | apply Kd.R_drewN | apply Kd.R_drew)); exact HO_51.out⟩, ⟨by (with_reducible repeat (first | apply Kd.R_alloc | apply Kd.R_drewN | apply Kd.R_drew)); exact HO_63.out⟩, ⟨by (with_reducible repeat (first | apply Kd.R_alloc | apply Kd.R_drewN | apply Kd.R_drew)); exact HO_69.out⟩, ⟨bk_⟩, ⟨bk_⟩, ⟨bk_⟩, ⟨bw_⟩⟩
               case rest => as_aux_lemma =>
                clear HC177
                (try clear c1); (try clear c4); (try clear c17); (try clear c146); (try clear c154); (try clear hcz100_0); (try clear hcz100_1); (try clear hcz102_0); (try clear hcz102_1); (try clear hcz104_0); (try clear hcz104_1); (try clear hcz78_0); (try clear hcz78_1); (try clear hcz80_0); (try clear hcz80_1); (try clear hcz82_0); (try clear hcz82_1); (try clear hcz84_0); (try clear hcz84_1); (try clear hcz95_0); (try clear hcz95_1); (try clear hcz97_0); (try clear hcz97_1); (try clear hcz99_0); (try clear hcz99_1); (try clear hfz100_0); (try clear hfz100_1); (try clear hfz102_0); (try clear hfz102_1); (try clear hfz104_0); (try clear hfz104_1); (try clear hfz78_0); (try clear hfz78_1); (try clear hfz80_0); (try clear hfz80_1); (try clear hfz82_0); (try clear hfz82_1); (try clear hfz84_0); (try clear hfz84_1); (try clear hfz95_0); (try clear hfz95_1); (try clear hfz97_0); (try clear hfz97_1); (try clear hfz99_0); (try clear hfz99_1)
                obtain ⟨kq, x559_176, rfl, HA, HJ176, HO_49, HO_51, HO_63, HO_69, BK633, BK657, BK658, HB⟩ := hcut
                cases kq with
                | zero => exact absurd HA.out (by simp [laws_FnRunnersRun.j10])
                | succ kj176 =>
                 have H := HA.out
                 clear HA
                 simp only [laws_FnRunnersRun.j10] at H
                 by_cases c183 : x559_176 = true
                 ·
                  subst c183
                  rw [if_pos rfl] at H
                  exact absurd ((Option.some.inj H).trans HRT.out) (by decide)
                 ·
                  replace c183 := Bool.eq_false_iff.mpr c183
                  subst c183
                  rw [if_neg (show ¬ (false = true) by decide)] at H
                  have HC184 := A_ H
                  clear H
                  go_upto_if 560 with (fail)
                  go_cut [] from 561 to 581 (fun wc => ∃ (kq : Nat), Aside0 (laws_FnRunnersRun.j12 kq t669 t670 t671 t674 t675 t692 t695 t696 t699 t700 t701 = some r) ∧ Aside0 (kq ≤ kj176) ∧ Aside0 (Kd.R k35 35 wc w.heap.size (fun k_ => some k_ ≠ ((.slice Ao115 t692.length co115) : Value).ownBlock ∧ some k_ ≠ (v702 : Value).ownBlock ∧ k_ ≠ gb633 ∧ k_ ≠ gb657 ∧ k_ ≠ gb658) (.slice Ao107 t670.length co107) t670) ∧ Aside0 (Kd.R (Kd.int .i64) 3 wc w.heap.size (fun _ => True) v676 t674) ∧ Aside0 (Kd.R k35 35 wc w.heap.size (fun k_ => some k_ ≠ ((.slice Ao107 t670.length co107) : Value).ownBlock ∧ some k_ ≠ (v702 : Value).ownBlock ∧ k_ ≠ gb633 ∧ k_ ≠ gb657 ∧ k_ ≠ gb658) (.slice Ao115 t692.length co115) t692) ∧ Aside0 (Kd.R k35 35 wc w.heap.size (fun k_ => some k_ ≠ ((.slice Ao107 t670.length co107) : Value).ownBlock ∧ some k_ ≠ ((.slice Ao115 t692.length co115) : Value).ownBlock ∧ k_ ≠ gb633 ∧ k_ ≠ gb657 ∧ k_ ≠ gb658) v702 t700) ∧ Aside0 (wc.heap[gb633]? = some (.cells #[.int .i64 t630, .int .i64 t631] 35 (0, 0))) ∧ Aside0 (wc.heap[gb657]? = some (.cells #[.int .i64 t652, .int .i64 t653] 35 (0, 0))) ∧ Aside0 (wc.heap[gb658]? = some (.cells #[.int .i64 t654, .int .i64 t655] 35 (0, 0))) ∧ Aside0 (Below w.heap.size w wc))
                  case first => as_aux_lemma =>
                   have H := HC184.out
                   clear HC184
                   by_cases c185 : t660 = true
                   ·
                    subst c185
                    rw [if_pos rfl] at H
                    have HC186 := A_ H
                    clear H
                    go_upto_region 64 with (fail)
                    go_cut [566] from 561 to 566 (fun v566 wc => ∃ (kq : Nat) (x566_185 : Bool), v566 = .bool x566_185 ∧ Aside0 (laws_FnRunnersRun.j11 kq t651 t659 t663 t669 t670 t671 t674 t675 t692 t695 t696 t699 t700 t701 x566_185 t652 t653 t654 t655 = some r) ∧ Aside0 (kq ≤ kj176) ∧ Aside0 (Kd.R k35 35 wc w.heap.size (fun k_ => some k_ ≠ ((.slice Ao115 t692.length co115) : Value).ownBlock ∧ some k_ ≠ (v702 : Value).ownBlock ∧ k_ ≠ gb633 ∧ k_ ≠ gb657 ∧ k_ ≠ gb658) (.slice Ao107 t670.length co107) t670) ∧ Aside0 (Kd.R (Kd.int .i64) 3 wc w.heap.size (fun _ => True) v676 t674) ∧ Aside0 (Kd.R k35 35 wc w.heap.size (fun k_ => some k_ ≠ ((.slice Ao107 t670.length co107) : Value).ownBlock ∧ some k_ ≠ (v702 : Value).ownBlock ∧ k_ ≠ gb633 ∧ k_ ≠ gb657 ∧ k_ ≠ gb658) (.slice Ao115 t692.length co115) t692) ∧ Aside0 (Kd.R k35 35 wc w.heap.size (fun k_ => some k_ ≠ ((.slice Ao107 t670.length co107) : Value).ownBlock ∧ some k_ ≠ ((.slice Ao115 t692.length co115) : Value).ownBlock ∧ k_ ≠ gb633 ∧ k_ ≠ gb657 ∧ k_ ≠ gb658) v702 t700) ∧ Aside0 (wc.heap[gb633]? = some (.cells #[.int .i64 t630, .int .i64 t631] 35 (0, 0))) ∧ Aside0 (wc.heap[gb657]? = some (.cells #[.int .i64 t652, .int .i64 t653] 35 (0, 0))) ∧ Aside0 (wc.heap[gb658]? = some (.cells #[.int .i64 t654, .int .i64 t655] 35 (0, 0))) ∧ Aside0 (Below w.heap.size w wc))
                    case first => as_aux_lemma =>
                     have H := HC186.out
                     clear HC186
                     by_cases c187 : t665 = true
                     ·
                      subst c187
                      rw [if_pos rfl] at H
                      have H' := A_ H
                      clear H
                      go_wp2
                      go_meet
                      case rel => exact ⟨_, ((t664 != 1)), (rs_), H', ⟨by have := HJ7.out; have := HJ17.out; have := HJ74.out; have := HJ146.out; have := HJ154.out; have := HJ176.out; first | omega | exact Nat.le_refl _⟩, ⟨by (with_reducible repeat (first | apply Kd.R_alloc | apply Kd.R_drewN | apply Kd.R_drew)); exact HO_49.out⟩, ⟨by (with_reducible repeat (first | apply Kd.R_alloc | apply Kd.R_drewN | apply Kd.R_drew)); exact HO_51.out⟩, ⟨by (with_reducible repeat (first | apply Kd.R_alloc | apply Kd.R_drewN | apply Kd.R_drew)); exact HO_63.out⟩, ⟨by (with_reducible repeat (first | apply Kd.R_alloc | apply Kd.R_drewN | apply Kd.R_drew)); exact HO_69.out⟩, ⟨bk_⟩, ⟨bk_⟩, ⟨bk_⟩, ⟨bw_⟩⟩
                     ·
                      replace c187 := Bool.eq_false_iff.mpr c187
                      subst c187
                      rw [if_neg (show ¬ (false = true) by decide)] at H
                      exact absurd (H.trans (congrArg some HRT.out)) (by cases kj176 <;> simp [laws_FnRunnersRun.j11])
                    case rest => as_aux_lemma =>
                     clear HC186
                     (try clear c1); (try clear c4); (try clear c17); (try clear c146); (try clear c154); (try clear c183); (try clear c185); (try clear hcz100_0); (try clear hcz100_1); (try clear hcz102_0); (try clear hcz102_1); (try clear hcz104_0); (try clear hcz104_1); (try clear hcz78_0); (try clear hcz78_1); (try clear hcz80_0); (try clear hcz80_1); (try clear hcz82_0); (try clear hcz82_1); (try clear hcz84_0); (try clear hcz84_1); (try clear hcz95_0); (try clear hcz95_1); (try clear hcz97_0); (try clear hcz97_1); (try clear hcz99_0); (try clear hcz99_1); (try clear hfz100_0); (try clear hfz100_1); (try clear hfz102_0); (try clear hfz102_1); (try clear hfz104_0); (try clear hfz104_1); (try clear hfz78_0); (try clear hfz78_1); (try clear hfz80_0); (try clear hfz80_1); (try clear hfz82_0); (try clear hfz82_1); (try clear hfz84_0); (try clear hfz84_1); (try clear hfz95_0); (try clear hfz95_1); (try clear hfz97_0); (try clear hfz97_1); (try clear hfz99_0); (try clear hfz99_1)
                     obtain ⟨kq, x566_185, rfl, HA, HJ185, HO_49, HO_51, HO_63, HO_69, BK633, BK657, BK658, HB⟩ := hcut
                     cases kq with
                     | zero => exact absurd HA.out (by simp [laws_FnRunnersRun.j11])
                     | succ kj185 =>
                      have H := HA.out
                      clear HA
                      simp only [laws_FnRunnersRun.j11] at H
                      by_cases c188 : x566_185 = true
                      ·
                       subst c188
                       rw [if_pos rfl] at H
                       exact absurd ((Option.some.inj H).trans HRT.out) (by decide)
                      ·
                       replace c188 := Bool.eq_false_iff.mpr c188
                       subst c188
                       rw [if_neg (show ¬ (false = true) by decide)] at H
                       replace H := ob_ H
                       obtain ⟨⟨t717, t718⟩, A189, H⟩ := H
                       (try dsimp only at H)
                       by_cases c190 : t718 = true
                       ·
                        subst c190
                        rw [if_pos rfl] at H
                        by_cases c191 : t717 = t659
                        ·
                         rw [if_pos c191] at H
                         have c191b0 : (t717 == t659) = true := beq_iff_eq.mpr c191
                         have c191b1 : (t717 != t659) = false := bne_eq_false_iff_eq.mpr c191
                         clear c191
                         have H' := A_ H
                         clear H
                         have hnb192 := NB657_633.out
                         have hnc192 := NB633_657.out
                         have hnb193 := NB657_658.out
                         have hnc193 := NB658_657.out
                         have hcz194_0 := hz_ BK657.out 0 (.int .i64 t652)
                         have hcz194_1 := hz_ BK657.out 1 (.int .i64 t653)
                         have hfz194_0 := blk_frozen BK657.out 0
                         have hfz194_1 := blk_frozen BK657.out 1
                         have hnb195 := NB658_633.out
                         have hnc195 := NB633_658.out
                         have hcz196_0 := hz_ BK658.out 0 (.int .i64 t654)
                         have hcz196_1 := hz_ BK658.out 1 (.int .i64 t655)
                         have hfz196_0 := blk_frozen BK658.out 0
                         have hfz196_1 := blk_frozen BK658.out 1
                         go_wp2_with (first | ((with_reducible refine gate_callee (f := 10) rfl ?_); refine gl_ (some 572) Tryz.func10 #[.int .i64 t651, .agg #[.int .i64 t652, .int .i64 t653], .agg #[.int .i64 t654, .int .i64 t655], .int .i64 t663] ?_; (with_reducible refine (impl_LeadBetween.calls kj185 t651 t652 t653 t654 t655 t663 t717 true _ A189.out).mono ?_); rintro e w197 ⟨rfl, hb⟩; refine ⟨_, rfl, ?_⟩; replace HB := A_ (below_step bw_ hb); replace BK633 := A_ (bb_ BK633.out hb); replace BK657 := A_ (bb_ BK657.out hb); replace BK658 := A_ (bb_ BK658.out hb); replace HO_49 := A_ (Kd.R_below (by (with_reducible repeat (first | apply Kd.R_alloc | apply Kd.R_drewN | apply Kd.R_drew)); exact HO_49.out) hb); replace HO_51 := A_ (Kd.R_below (by (with_reducible repeat (first | apply Kd.R_alloc | apply Kd.R_drewN | apply Kd.R_drew)); exact HO_51.out) hb); replace HO_63 := A_ (Kd.R_below (by (with_reducible repeat (first | apply Kd.R_alloc | apply Kd.R_drewN | apply Kd.R_drew)); exact HO_63.out) hb); replace HO_69 := A_ (Kd.R_below (by (with_reducible repeat (first | apply Kd.R_alloc | apply Kd.R_drewN | apply Kd.R_drew)); exact HO_69.out) hb); (try clear hb)))
                         go_meet
                         case rel => exact ⟨_, H', ⟨by have := HJ7.out; have := HJ17.out; have := HJ74.out; have := HJ146.out; have := HJ154.out; have := HJ176.out; have := HJ185.out; first | omega | exact Nat.le_refl _⟩, ⟨by (with_reducible repeat (first | apply Kd.R_alloc | apply Kd.R_drewN | apply Kd.R_drew)); exact HO_49.out⟩, ⟨by (with_reducible repeat (first | apply Kd.R_alloc | apply Kd.R_drewN | apply Kd.R_drew)); exact HO_51.out⟩, ⟨by (with_reducible repeat (first | apply Kd.R_alloc | apply Kd.R_drewN | apply Kd.R_drew)); exact HO_63.out⟩, ⟨by (with_reducible repeat (first | apply Kd.R_alloc | apply Kd.R_drewN | apply Kd.R_drew)); exact HO_69.out⟩, ⟨bk_⟩, ⟨bk_⟩, ⟨bk_⟩, ⟨bw_⟩⟩
                        ·
                         rw [if_neg c191] at H
                         have c191b0 : (t717 == t659) = false := beq_eq_false_iff_ne.mpr c191
                         have c191b1 : (t717 != t659) = true := bne_iff_ne.mpr c191
                         exact absurd ((Option.some.inj H).trans HRT.out) (by decide)
                       ·
                        replace c190 := Bool.eq_false_iff.mpr c190
                        subst c190
                        rw [if_neg (show ¬ (false = true) by decide)] at H
                        exact absurd ((Option.some.inj H).trans HRT.out) (by decide)
                   ·
                    replace c185 := Bool.eq_false_iff.mpr c185
                    subst c185
                    rw [if_neg (show ¬ (false = true) by decide)] at H
                    have H' := A_ H
                    clear H
                    go_wp2
                    go_meet
                    case rel => exact ⟨_, H', ⟨by have := HJ7.out; have := HJ17.out; have := HJ74.out; have := HJ146.out; have := HJ154.out; have := HJ176.out; first | omega | exact Nat.le_refl _⟩, ⟨by (with_reducible repeat (first | apply Kd.R_alloc | apply Kd.R_drewN | apply Kd.R_drew)); exact HO_49.out⟩, ⟨by (with_reducible repeat (first | apply Kd.R_alloc | apply Kd.R_drewN | apply Kd.R_drew)); exact HO_51.out⟩, ⟨by (with_reducible repeat (first | apply Kd.R_alloc | apply Kd.R_drewN | apply Kd.R_drew)); exact HO_63.out⟩, ⟨by (with_reducible repeat (first | apply Kd.R_alloc | apply Kd.R_drewN | apply Kd.R_drew)); exact HO_69.out⟩, ⟨bk_⟩, ⟨bk_⟩, ⟨bk_⟩, ⟨bw_⟩⟩
                  case rest => as_aux_lemma =>
                   clear HC184
                   (try clear c1); (try clear c4); (try clear c17); (try clear c146); (try clear c154); (try clear c183); (try clear hcz100_0); (try clear hcz100_1); (try clear hcz102_0); (try clear hcz102_1); (try clear hcz104_0); (try clear hcz104_1); (try clear hcz78_0); (try clear hcz78_1); (try clear hcz80_0); (try clear hcz80_1); (try clear hcz82_0); (try clear hcz82_1); (try clear hcz84_0); (try clear hcz84_1); (try clear hcz95_0); (try clear hcz95_1); (try clear hcz97_0); (try clear hcz97_1); (try clear hcz99_0); (try clear hcz99_1); (try clear hfz100_0); (try clear hfz100_1); (try clear hfz102_0); (try clear hfz102_1); (try clear hfz104_0); (try clear hfz104_1); (try clear hfz78_0); (try clear hfz78_1); (try clear hfz80_0); (try clear hfz80_1); (try clear hfz82_0); (try clear hfz82_1); (try clear hfz84_0); (try clear hfz84_1); (try clear hfz95_0); (try clear hfz95_1); (try clear hfz97_0); (try clear hfz97_1); (try clear hfz99_0); (try clear hfz99_1)
                   obtain ⟨kq, HA, HJ183, HO_49, HO_51, HO_63, HO_69, BK633, BK657, BK658, HB⟩ := hcut
                   cases kq with
                   | zero => exact absurd HA.out (by simp [laws_FnRunnersRun.j12])
                   | succ kj183 =>
                    have H := HA.out
                    clear HA
                    simp only [laws_FnRunnersRun.j12] at H
                    have HC198 := A_ H
                    clear H
                    go_upto_if 582 with (fail)
                    go_cut [83] from 583 to 659 (fun v83 wc => ∃ (kq : Nat), Aside0 (laws_FnRunnersRun.j15 kq t692 t695 t696 t699 t700 t701 = some r) ∧ Aside0 (kq ≤ kj183) ∧ Aside0 (Kd.R k35 35 wc w.heap.size (fun k_ => some k_ ≠ (v702 : Value).ownBlock ∧ k_ ≠ gb633 ∧ k_ ≠ gb657 ∧ k_ ≠ gb658) (.slice Ao115 t692.length co115) t692) ∧ Aside0 (Kd.R k35 35 wc w.heap.size (fun k_ => some k_ ≠ ((.slice Ao115 t692.length co115) : Value).ownBlock ∧ k_ ≠ gb633 ∧ k_ ≠ gb657 ∧ k_ ≠ gb658) v702 t700) ∧ Aside0 (wc.heap[gb633]? = some (.cells #[.int .i64 t630, .int .i64 t631] 35 (0, 0))) ∧ Aside0 (wc.heap[gb657]? = some (.cells #[.int .i64 t652, .int .i64 t653] 35 (0, 0))) ∧ Aside0 (wc.heap[gb658]? = some (.cells #[.int .i64 t654, .int .i64 t655] 35 (0, 0))) ∧ Aside0 (Below w.heap.size w wc))
                    case first => as_aux_lemma =>
                     have H := HC198.out
                     clear HC198
                     by_cases c199 : t675 = true
                     ·
                      subst c199
                      rw [if_pos rfl] at H
                      have HC200 := A_ H
                      clear H
                      go_upto_region 70 with (fail)
                      go_cut [590] from 583 to 590 (fun v590 wc => ∃ (kq : Nat) (x590_199 : Bool), v590 = .bool x590_199 ∧ Aside0 (laws_FnRunnersRun.j13 kq t669 t670 t671 t674 t692 t695 t696 t699 t700 t701 x590_199 = some r) ∧ Aside0 (kq ≤ kj183) ∧ Aside0 (Kd.R k35 35 wc w.heap.size (fun k_ => some k_ ≠ ((.slice Ao115 t692.length co115) : Value).ownBlock ∧ some k_ ≠ (v702 : Value).ownBlock ∧ k_ ≠ gb633 ∧ k_ ≠ gb657 ∧ k_ ≠ gb658) (.slice Ao107 t670.length co107) t670) ∧ Aside0 (Kd.R (Kd.int .i64) 3 wc w.heap.size (fun _ => True) v676 t674) ∧ Aside0 (Kd.R k35 35 wc w.heap.size (fun k_ => some k_ ≠ ((.slice Ao107 t670.length co107) : Value).ownBlock ∧ some k_ ≠ (v702 : Value).ownBlock ∧ k_ ≠ gb633 ∧ k_ ≠ gb657 ∧ k_ ≠ gb658) (.slice Ao115 t692.length co115) t692) ∧ Aside0 (Kd.R k35 35 wc w.heap.size (fun k_ => some k_ ≠ ((.slice Ao107 t670.length co107) : Value).ownBlock ∧ some k_ ≠ ((.slice Ao115 t692.length co115) : Value).ownBlock ∧ k_ ≠ gb633 ∧ k_ ≠ gb657 ∧ k_ ≠ gb658) v702 t700) ∧ Aside0 (wc.heap[gb633]? = some (.cells #[.int .i64 t630, .int .i64 t631] 35 (0, 0))) ∧ Aside0 (wc.heap[gb657]? = some (.cells #[.int .i64 t652, .int .i64 t653] 35 (0, 0))) ∧ Aside0 (wc.heap[gb658]? = some (.cells #[.int .i64 t654, .int .i64 t655] 35 (0, 0))) ∧ Aside0 (Below w.heap.size w wc))
                      case first => as_aux_lemma =>
                       have H := HC200.out
                       clear HC200
                       by_cases c201 : (t674.length : Int) < 1
                       ·
                        rw [if_pos c201] at H
                        have c201b0 : decide ((t674.length : Int) < 1) = true := decide_eq_true c201
                        have c201b1 : decide (t674.length < 1) = true := decide_eq_true (by omega)
                        clear c201
                        (first | rw [c201b0] | (simp only [i64_w, i32_w]; rw [c201b0]) | skip)
                        exact absurd (H.trans (congrArg some HRT.out)) (by cases kj183 <;> simp [laws_FnRunnersRun.j13])
                       ·
                        rw [if_neg c201] at H
                        have c201b0 : decide ((t674.length : Int) < 1) = false := decide_eq_false c201
                        have c201b1 : decide (t674.length < 1) = false := decide_eq_false (by omega)
                        clear c201
                        (first | rw [c201b0] | (simp only [i64_w, i32_w]; rw [c201b0]) | skip)
                        replace H := ob_ H
                        obtain ⟨t719, A202, H⟩ := H
                        (try dsimp only at H)
                        have H' := A_ H
                        clear H
                        obtain ⟨Ao203, co203, eo203⟩ := Kd.R_slice HO_51.out
                        subst eo203
                        go_wp2_with (first | (go_at_call 39; (with_reducible refine (laws_qRises.calls kj183 _ _ t674 t719 _ ?side1 ?side2 A202.out).mono ?_); (case side1 => repeat (first | exact (Kd.R_reads' HO_51.out).2.2 | (with_reducible refine Kd.C_alloc ?_ _) | (with_reducible refine Kd.C_drewN ?_ _) | (with_reducible refine Kd.C_drew ?_))); (case side2 => exact (Kd.R_reads' HO_51.out).2.1); rintro e w' ⟨rfl, ⟨nd, rfl⟩⟩))
                        go_meet
                        case rel => exact ⟨_, (!t719), (rs_), H', ⟨by have := HJ7.out; have := HJ17.out; have := HJ74.out; have := HJ146.out; have := HJ154.out; have := HJ176.out; have := HJ183.out; first | omega | exact Nat.le_refl _⟩, ⟨by (with_reducible repeat (first | apply Kd.R_alloc | apply Kd.R_drewN | apply Kd.R_drew)); exact HO_49.out⟩, ⟨by (with_reducible repeat (first | apply Kd.R_alloc | apply Kd.R_drewN | apply Kd.R_drew)); exact HO_51.out⟩, ⟨by (with_reducible repeat (first | apply Kd.R_alloc | apply Kd.R_drewN | apply Kd.R_drew)); exact HO_63.out⟩, ⟨by (with_reducible repeat (first | apply Kd.R_alloc | apply Kd.R_drewN | apply Kd.R_drew)); exact HO_69.out⟩, ⟨bk_⟩, ⟨bk_⟩, ⟨bk_⟩, ⟨bw_⟩⟩
                      case rest => as_aux_lemma =>
                       clear HC200
                       (try clear c1); (try clear c4); (try clear c17); (try clear c146); (try clear c154); (try clear c183); (try clear c199); (try clear hcz100_0); (try clear hcz100_1); (try clear hcz102_0); (try clear hcz102_1); (try clear hcz104_0); (try clear hcz104_1); (try clear hcz78_0); (try clear hcz78_1); (try clear hcz80_0); (try clear hcz80_1); (try clear hcz82_0); (try clear hcz82_1); (try clear hcz84_0); (try clear hcz84_1); (try clear hcz95_0); (try clear hcz95_1); (try clear hcz97_0); (try clear hcz97_1); (try clear hcz99_0); (try clear hcz99_1); (try clear hfz100_0); (try clear hfz100_1); (try clear hfz102_0); (try clear hfz102_1); (try clear hfz104_0); (try clear hfz104_1); (try clear hfz78_0); (try clear hfz78_1); (try clear hfz80_0); (try clear hfz80_1); (try clear hfz82_0); (try clear hfz82_1); (try clear hfz84_0); (try clear hfz84_1); (try clear hfz95_0); (try clear hfz95_1); (try clear hfz97_0); (try clear hfz97_1); (try clear hfz99_0); (try clear hfz99_1)
                       obtain ⟨kq, x590_199, rfl, HA, HJ199, HO_49, HO_51, HO_63, HO_69, BK633, BK657, BK658, HB⟩ := hcut
                       cases kq with
                       | zero => exact absurd HA.out (by simp [laws_FnRunnersRun.j13])
                       | succ kj199 =>
                        have H := HA.out
                        clear HA
                        simp only [laws_FnRunnersRun.j13] at H
                        by_cases c204 : x590_199 = true
                        ·
                         subst c204
                         rw [if_pos rfl] at H
                         exact absurd ((Option.some.inj H).trans HRT.out) (by decide)
                        ·
                         replace c204 := Bool.eq_false_iff.mpr c204
                         subst c204
                         rw [if_neg (show ¬ (false = true) by decide)] at H
                         have H' := A_ H
                         clear H
                         go_wp2
                         go_loopg [593] kj199 (fun kq v593 w' => ∃ (x593_9 : Int), v593 = .int .i64 x593_9 ∧ Aside0 (laws_FnRunnersRun.l2 kq t669 t670 t671 t674 t692 t695 t696 t699 t700 t701 t670 (t670.length : Int) x593_9 = some r) ∧ Aside0 (kq ≤ kj199) ∧ Aside0 (Kd.R k35 35 w' w.heap.size (fun k_ => some k_ ≠ ((.slice Ao115 t692.length co115) : Value).ownBlock ∧ some k_ ≠ (v702 : Value).ownBlock ∧ k_ ≠ gb633 ∧ k_ ≠ gb657 ∧ k_ ≠ gb658) (.slice Ao107 t670.length co107) t670) ∧ Aside0 (Kd.R (Kd.int .i64) 3 w' w.heap.size (fun _ => True) v676 t674) ∧ Aside0 (Kd.R k35 35 w' w.heap.size (fun k_ => some k_ ≠ ((.slice Ao107 t670.length co107) : Value).ownBlock ∧ some k_ ≠ (v702 : Value).ownBlock ∧ some k_ ≠ ((.slice Ao107 t670.length co107) : Value).ownBlock ∧ k_ ≠ gb633 ∧ k_ ≠ gb657 ∧ k_ ≠ gb658) (.slice Ao115 t692.length co115) t692) ∧ Aside0 (Kd.R k35 35 w' w.heap.size (fun k_ => some k_ ≠ ((.slice Ao107 t670.length co107) : Value).ownBlock ∧ some k_ ≠ ((.slice Ao115 t692.length co115) : Value).ownBlock ∧ some k_ ≠ ((.slice Ao107 t670.length co107) : Value).ownBlock ∧ k_ ≠ gb633 ∧ k_ ≠ gb657 ∧ k_ ≠ gb658) v702 t700) ∧ Aside0 (Kd.R k35 35 w' w.heap.size (fun k_ => some k_ ≠ ((.slice Ao115 t692.length co115) : Value).ownBlock ∧ some k_ ≠ (v702 : Value).ownBlock ∧ k_ ≠ gb633 ∧ k_ ≠ gb657 ∧ k_ ≠ gb658) (.slice Ao107 t670.length co107) t670) ∧ Aside0 (w'.heap[gb633]? = some (.cells #[.int .i64 t630, .int .i64 t631] 35 (0, 0))) ∧ Aside0 (w'.heap[gb657]? = some (.cells #[.int .i64 t652, .int .i64 t653] 35 (0, 0))) ∧ Aside0 (w'.heap[gb658]? = some (.cells #[.int .i64 t654, .int .i64 t655] 35 (0, 0))) ∧ Aside0 (Below w.heap.size w w'))
                         case atStart => exact ⟨(0), (rs_), H', ⟨Nat.le_refl _⟩, ⟨by (with_reducible repeat (first | apply Kd.R_alloc | apply Kd.R_drewN | apply Kd.R_drew)); exact HO_49.out⟩, ⟨by (with_reducible repeat (first | apply Kd.R_alloc | apply Kd.R_drewN | apply Kd.R_drew)); exact HO_51.out⟩, ⟨by (with_reducible repeat (first | apply Kd.R_alloc | apply Kd.R_drewN | apply Kd.R_drew)); exact Kd.R_mono HO_63.out (fun _ hk => ⟨hk.1, ⟨hk.2.1, ⟨hk.1, ⟨hk.2.2.1, ⟨hk.2.2.2.1, hk.2.2.2.2⟩⟩⟩⟩⟩)⟩, ⟨by (with_reducible repeat (first | apply Kd.R_alloc | apply Kd.R_drewN | apply Kd.R_drew)); exact Kd.R_mono HO_69.out (fun _ hk => ⟨hk.1, ⟨hk.2.1, ⟨hk.1, ⟨hk.2.2.1, ⟨hk.2.2.2.1, hk.2.2.2.2⟩⟩⟩⟩⟩)⟩, ⟨by (with_reducible repeat (first | apply Kd.R_alloc | apply Kd.R_drewN | apply Kd.R_drew)); exact HO_49.out⟩, ⟨bk_⟩, ⟨bk_⟩, ⟨bk_⟩, ⟨bw_⟩⟩
                         case round => as_aux_lemma =>
                          clear H'
                          (try clear c1); (try clear c4); (try clear c17); (try clear c146); (try clear c154); (try clear c183); (try clear c199); (try clear c204); (try clear hcz100_0); (try clear hcz100_1); (try clear hcz102_0); (try clear hcz102_1); (try clear hcz104_0); (try clear hcz104_1); (try clear hcz78_0); (try clear hcz78_1); (try clear hcz80_0); (try clear hcz80_1); (try clear hcz82_0); (try clear hcz82_1); (try clear hcz84_0); (try clear hcz84_1); (try clear hcz95_0); (try clear hcz95_1); (try clear hcz97_0); (try clear hcz97_1); (try clear hcz99_0); (try clear hcz99_1); (try clear hfz100_0); (try clear hfz100_1); (try clear hfz102_0); (try clear hfz102_1); (try clear hfz104_0); (try clear hfz104_1); (try clear hfz78_0); (try clear hfz78_1); (try clear hfz80_0); (try clear hfz80_1); (try clear hfz82_0); (try clear hfz82_1); (try clear hfz84_0); (try clear hfz84_1); (try clear hfz95_0); (try clear hfz95_1); (try clear hfz97_0); (try clear hfz97_1); (try clear hfz99_0); (try clear hfz99_1)
                          obtain ⟨x593_9, rfl, HA, HK9, HO_49, HO_51, HO_63, HO_69, HO_591, BK633, BK657, BK658, HB⟩ := hrel
                          cases gk with
                          | zero => exact absurd HA.out (by simp [laws_FnRunnersRun.l2])
                          | succ k9 =>
                           have H := HA.out
                           clear HA
                           simp only [laws_FnRunnersRun.l2] at H
                           by_cases c205 : x593_9 < (t670.length : Int)
                           ·
                            rw [if_pos c205] at H
                            replace c205 := decide_eq_true c205
                            by_cases c206 : 0 ≤ x593_9
                            ·
                             rw [if_pos c206] at H
                             replace c206 := decide_eq_true c206
                             by_cases c207 : x593_9 < (t670.length : Int)
                             ·
                              rw [if_pos c207] at H
                              replace c207 := decide_eq_true c207
                              replace H := ob_ H
                              obtain ⟨⟨t722, t723, t724⟩, A208, H⟩ := H
                              (try dsimp only at H)
                              by_cases c209 : 0 < (t674.length : Int)
                              ·
                               rw [if_pos c209] at H
                               have c209b0 : decide (0 < (t674.length : Int)) = true := decide_eq_true c209
                               have c209b1 : decide (0 < t674.length) = true := decide_eq_true (by omega)
                               clear c209
                               by_cases c210 : 0 ≤ (rd t674 0)
                               ·
                                rw [if_pos c210] at H
                                replace c210 := decide_eq_true c210
                                by_cases c211 : (rd t674 0) < (t670.length : Int)
                                ·
                                 rw [if_pos c211] at H
                                 replace c211 := decide_eq_true c211
                                 replace H := ob_ H
                                 obtain ⟨⟨t727, t728, t729⟩, A212, H⟩ := H
                                 (try dsimp only at H)
                                 by_cases c213 : t724 = true
                                 ·
                                  subst c213
                                  rw [if_pos rfl] at H
                                  by_cases c214 : t729 = true
                                  ·
                                   subst c214
                                   rw [if_pos rfl] at H
                                   replace H := ob_ H
                                   obtain ⟨t730, A215, H⟩ := H
                                   (try dsimp only at H)
                                   by_cases c216 : t723 = 0
                                   ·
                                    rw [if_pos c216] at H
                                    exact absurd H (by simp)
                                   ·
                                    rw [if_neg c216] at H
                                    have c216b0 : (t723 == 0) = false := beq_eq_false_iff_ne.mpr c216
                                    have c216b1 : (t723 != 0) = true := bne_iff_ne.mpr c216
                                    by_cases c217 : t728 = 0
                                    ·
                                     rw [if_pos c217] at H
                                     exact absurd H (by simp)
                                    ·
                                     rw [if_neg c217] at H
                                     have c217b0 : (t728 == 0) = false := beq_eq_false_iff_ne.mpr c217
                                     have c217b1 : (t728 != 0) = true := bne_iff_ne.mpr c217
                                     by_cases c218 : (t730 != ((wrap64 (Int.tdiv (wrap64 ((wrap64 (t722 + t723)) - 1)) t723)) == (wrap64 (Int.tdiv (wrap64 ((wrap64 (t727 + t728)) - 1)) t728)))) = true
                                     ·
                                      rw [if_pos c218] at H
                                      have c218b0 : (t730 != ((wrap64 (Int.tdiv (wrap64 ((wrap64 (t722 + t723)) - 1)) t723)) == (wrap64 (Int.tdiv (wrap64 ((wrap64 (t727 + t728)) - 1)) t728)))) = true := c218
                                      (try (have c218b1 : decide (t730 = ((wrap64 (Int.tdiv (wrap64 ((wrap64 (t722 + t723)) - 1)) t723)) == (wrap64 (Int.tdiv (wrap64 ((wrap64 (t727 + t728)) - 1)) t728)))) = false := by simpa using c218))
                                      (try (have c218b2 : (t730 == ((wrap64 (Int.tdiv (wrap64 ((wrap64 (t722 + t723)) - 1)) t723)) == (wrap64 (Int.tdiv (wrap64 ((wrap64 (t727 + t728)) - 1)) t728)))) = false := by simpa using c218))
                                      (try (have c218b3 : ¬ (t730 = ((wrap64 (Int.tdiv (wrap64 ((wrap64 (t722 + t723)) - 1)) t723)) == (wrap64 (Int.tdiv (wrap64 ((wrap64 (t727 + t728)) - 1)) t728)))) := by simpa using c218))
                                      clear c218
                                      exact absurd ((Option.some.inj H).trans HRT.out) (by decide)
                                     ·
                                      rw [if_neg c218] at H
                                      have c218b0 : (t730 != ((wrap64 (Int.tdiv (wrap64 ((wrap64 (t722 + t723)) - 1)) t723)) == (wrap64 (Int.tdiv (wrap64 ((wrap64 (t727 + t728)) - 1)) t728)))) = false := by simpa using c218
                                      (try (have c218b1 : decide (t730 = ((wrap64 (Int.tdiv (wrap64 ((wrap64 (t722 + t723)) - 1)) t723)) == (wrap64 (Int.tdiv (wrap64 ((wrap64 (t727 + t728)) - 1)) t728)))) = true := by simpa using c218))
                                      (try (have c218b2 : (t730 == ((wrap64 (Int.tdiv (wrap64 ((wrap64 (t722 + t723)) - 1)) t723)) == (wrap64 (Int.tdiv (wrap64 ((wrap64 (t727 + t728)) - 1)) t728)))) = true := by simpa using c218))
                                      clear c218
                                      by_cases c219 : (wrap64 (Int.tdiv (wrap64 ((wrap64 (t722 + t723)) - 1)) t723)) < (wrap64 (Int.tdiv (wrap64 ((wrap64 (t727 + t728)) - 1)) t728))
                                      ·
                                       rw [if_pos c219] at H
                                       replace c219 := decide_eq_true c219
                                       exact absurd ((Option.some.inj H).trans HRT.out) (by decide)
                                      ·
                                       rw [if_neg c219] at H
                                       replace c219 := decide_eq_false c219
                                       have H' := A_ H
                                       clear H
                                       have p720 : 0 ≤ (x593_9 : Int) := of_decide_eq_true (by first | (with_reducible assumption) | assumption)
                                       have q720 : x593_9 < (t670.length : Int) := of_decide_eq_true (by first | (with_reducible assumption) | assumption)
                                       obtain ⟨ad720, e720, hx720_0, hx720_1⟩ := at_T35 (Kd.R_reads' HO_591.out).2.2 x593_9 p720 q720
                                       cases e720
                                       replace p720 := eq_true p720
                                       replace q720 := eq_true q720
                                       try go_wp2_with (first | ((with_reducible refine gate_dst (N := 83) rfl ?_); (try (refine gate_guard (by rfl) ?_; dsimp only)); refine be_ 83 #[.int .i64 0, .int .i64 0] 35 ?_; intro gb721 hg w220 hbox hb; have BK721 := A_ hbox; have GW721 := A_ (bz_ (w := w) hg); have GE721 := A_ (bz_ (w := w) hg); have NB633_721 := A_ (nl_ BK633.out hg); have NB721_633 := A_ (ng_ BK633.out hg); have NB657_721 := A_ (nl_ BK657.out hg); have NB721_657 := A_ (ng_ BK657.out hg); have NB658_721 := A_ (nl_ BK658.out hg); have NB721_658 := A_ (ng_ BK658.out hg); replace HB := A_ (below_step bw_ hb); replace BK633 := A_ (bb_ BK633.out hb); replace BK657 := A_ (bb_ BK657.out hb); replace BK658 := A_ (bb_ BK658.out hb); replace HO_49 := A_ (Kd.R_below (Kd.R_elderB (by (with_reducible repeat (first | apply Kd.R_alloc | apply Kd.R_drewN | apply Kd.R_drew)); exact HO_49.out) gb721 (Nat.le_of_eq hg.symm)) hb); replace HO_51 := A_ (Kd.R_below (by (with_reducible repeat (first | apply Kd.R_alloc | apply Kd.R_drewN | apply Kd.R_drew)); exact HO_51.out) hb); replace HO_63 := A_ (Kd.R_below (Kd.R_elderB (by (with_reducible repeat (first | apply Kd.R_alloc | apply Kd.R_drewN | apply Kd.R_drew)); exact HO_63.out) gb721 (Nat.le_of_eq hg.symm)) hb); replace HO_69 := A_ (Kd.R_below (Kd.R_elderB (by (with_reducible repeat (first | apply Kd.R_alloc | apply Kd.R_drewN | apply Kd.R_drew)); exact HO_69.out) gb721 (Nat.le_of_eq hg.symm)) hb); replace HO_591 := A_ (Kd.R_below (Kd.R_elderB (by (with_reducible repeat (first | apply Kd.R_alloc | apply Kd.R_drewN | apply Kd.R_drew)); exact HO_591.out) gb721 (Nat.le_of_eq hg.symm)) hb); clear hb hbox hg; have hnb221 := NB721_633.out; have hnc221 := NB633_721.out; have hnb222 := NB721_657.out; have hnc222 := NB657_721.out; have hnb223 := NB721_658.out; have hnc223 := NB658_721.out; have hcz224_0 := hz_ BK721.out 0 (.int .i64 0); have hcz224_1 := hz_ BK721.out 1 (.int .i64 0); have hfz224_0 := blk_frozen BK721.out 0; have hfz224_1 := blk_frozen BK721.out 1) | ((with_reducible refine gate_callee (f := 22) rfl ?_); refine gl_ (some 602) Tryz.func22 #[.int .i64 t669, .agg #[.int .i64 ((rd_T35 t670 x593_9).f0), .int .i64 ((rd_T35 t670 x593_9).f1)], .int .i64 t671] ?_; (with_reducible refine (impl_TimeOfLaps.calls k9 t669 ((rd_T35 t670 x593_9).f0) ((rd_T35 t670 x593_9).f1) t671 t722 t723 true _ A208.out).mono ?_); rintro e w225 ⟨rfl, hb⟩; refine ⟨_, rfl, ?_⟩; have n0_ := A_ (Kd.R_below (by (with_reducible repeat (first | apply Kd.R_alloc | apply Kd.R_drewN | apply Kd.R_drew)); exact (Kd.R_mono (Kd.R_far (p := ⟨gb721, 1, none⟩) (Kd.R_far (p := ⟨gb721, 0, none⟩) (Kd.R_mono HO_49.out (fun k_ hk => (⟨hk, hk.2⟩ : _ ∧ k_ ≠ gb721))) (fun _ hk => hk.2) (.int .i64 ((rd_T35 t670 x593_9).f0))) (fun _ hk => hk.2) (.int .i64 ((rd_T35 t670 x593_9).f1))) (fun _ h_ => h_.1))) hb); have n1_ := A_ (Kd.R_below (by (with_reducible repeat (first | apply Kd.R_alloc | apply Kd.R_drewN | apply Kd.R_drew)); exact (Kd.R_mono (Kd.R_far (p := ⟨gb721, 1, none⟩) (Kd.R_far (p := ⟨gb721, 0, none⟩) (Kd.R_types HO_51.out BK721.out (by decide)) (fun _ hk => hk.2) (.int .i64 ((rd_T35 t670 x593_9).f0))) (fun _ hk => hk.2) (.int .i64 ((rd_T35 t670 x593_9).f1))) (fun _ h_ => h_.1))) hb); have n2_ := A_ (Kd.R_below (by (with_reducible repeat (first | apply Kd.R_alloc | apply Kd.R_drewN | apply Kd.R_drew)); exact (Kd.R_mono (Kd.R_far (p := ⟨gb721, 1, none⟩) (Kd.R_far (p := ⟨gb721, 0, none⟩) (Kd.R_mono HO_63.out (fun k_ hk => (⟨hk, hk.2⟩ : _ ∧ k_ ≠ gb721))) (fun _ hk => hk.2) (.int .i64 ((rd_T35 t670 x593_9).f0))) (fun _ hk => hk.2) (.int .i64 ((rd_T35 t670 x593_9).f1))) (fun _ h_ => h_.1))) hb); have n3_ := A_ (Kd.R_below (by (with_reducible repeat (first | apply Kd.R_alloc | apply Kd.R_drewN | apply Kd.R_drew)); exact (Kd.R_mono (Kd.R_far (p := ⟨gb721, 1, none⟩) (Kd.R_far (p := ⟨gb721, 0, none⟩) (Kd.R_mono HO_69.out (fun k_ hk => (⟨hk, hk.2⟩ : _ ∧ k_ ≠ gb721))) (fun _ hk => hk.2) (.int .i64 ((rd_T35 t670 x593_9).f0))) (fun _ hk => hk.2) (.int .i64 ((rd_T35 t670 x593_9).f1))) (fun _ h_ => h_.1))) hb); have n4_ := A_ (Kd.R_below (by (with_reducible repeat (first | apply Kd.R_alloc | apply Kd.R_drewN | apply Kd.R_drew)); exact (Kd.R_mono (Kd.R_far (p := ⟨gb721, 1, none⟩) (Kd.R_far (p := ⟨gb721, 0, none⟩) (Kd.R_mono HO_591.out (fun k_ hk => (⟨hk, hk.2⟩ : _ ∧ k_ ≠ gb721))) (fun _ hk => hk.2) (.int .i64 ((rd_T35 t670 x593_9).f0))) (fun _ hk => hk.2) (.int .i64 ((rd_T35 t670 x593_9).f1))) (fun _ h_ => h_.1))) hb); have n5_ := A_ (blk_below (g := gb633) (o := .cells #[.int .i64 t630, .int .i64 t631] 35 (0, 0)) bf_ hb); have n6_ := A_ (blk_below (g := gb657) (o := .cells #[.int .i64 t652, .int .i64 t653] 35 (0, 0)) bf_ hb); have n7_ := A_ (blk_below (g := gb658) (o := .cells #[.int .i64 t654, .int .i64 t655] 35 (0, 0)) bf_ hb); have n8_ := A_ (blk_below (g := gb721) (o := .cells #[.int .i64 ((rd_T35 t670 x593_9).f0), .int .i64 ((rd_T35 t670 x593_9).f1)] 35 (0, 0)) (by (with_reducible repeat (first | refine blk_drewN ?_ _ | refine blk_drew ?_ | refine blk_alloc ?_ _)); refine blk_put (cs := #[.int .i64 ((rd_T35 t670 x593_9).f0), .int .i64 0]) ?_ 1 _ rfl; (with_reducible repeat (first | refine blk_drewN ?_ _ | refine blk_drew ?_ | refine blk_alloc ?_ _)); refine blk_put (cs := #[.int .i64 0, .int .i64 0]) ?_ 0 _ rfl; (with_reducible repeat (first | refine blk_drewN ?_ _ | refine blk_drew ?_ | refine blk_alloc ?_ _)); exact BK721.out) hb); have n9_ := A_ (below_step bw_ hb); clear HO_49; clear HO_51; clear HO_63; clear HO_69; clear HO_591; clear BK633; clear BK657; clear BK658; clear BK721; clear HB; have HO_49 := n0_; have HO_51 := n1_; have HO_63 := n2_; have HO_69 := n3_; have HO_591 := n4_; have BK633 := n5_; have BK657 := n6_; have BK658 := n7_; have BK721 := n8_; have HB := n9_; clear n0_ n1_ n2_ n3_ n4_ n5_ n6_ n7_ n8_ n9_; (try clear hb); obtain ⟨Ao226, co226, eo226⟩ := Kd.R_slice HO_51.out; subst eo226; have p725 : 0 ≤ (0 : Int) := (by omega); have q725 : 0 < (t674.length : Int) := of_decide_eq_true (by first | (with_reducible assumption) | assumption); obtain ⟨ad725, e725, hx725_0⟩ := Kd.at_int (Kd.R_reads' HO_51.out).2.2 0 p725 q725; cases e725; have qi725 : (0 < t674.length) = True := eq_true (by omega); (try rw [show ((0 : Int)).toNat = 0 from rfl] at hx725_0); (try rw [Addr.add_zero'] at hx725_0); replace p725 := eq_true p725; replace q725 := eq_true q725; have p726 : 0 ≤ ((rd t674 0) : Int) := of_decide_eq_true (by first | (with_reducible assumption) | assumption); have q726 : (rd t674 0) < (t670.length : Int) := of_decide_eq_true (by first | (with_reducible assumption) | assumption); obtain ⟨ad726, e726, hx726_0, hx726_1⟩ := at_T35 (Kd.R_reads' HO_49.out).2.2 (rd t674 0) p726 q726; obtain rfl : ad720 = ad726 := (by injection e726); replace p726 := eq_true p726; replace q726 := eq_true q726) | ((with_reducible refine gate_callee (f := 22) rfl ?_); refine gl_ (some 615) Tryz.func22 #[.int .i64 t669, .agg #[.int .i64 ((rd_T35 t670 (rd t674 0)).f0), .int .i64 ((rd_T35 t670 (rd t674 0)).f1)], .int .i64 t671] ?_; (with_reducible refine (impl_TimeOfLaps.calls k9 t669 ((rd_T35 t670 (rd t674 0)).f0) ((rd_T35 t670 (rd t674 0)).f1) t671 t727 t728 true _ A212.out).mono ?_); rintro e w227 ⟨rfl, hb⟩; refine ⟨_, rfl, ?_⟩; replace HB := A_ (below_step bw_ hb); replace BK633 := A_ (bb_ BK633.out hb); replace BK657 := A_ (bb_ BK657.out hb); replace BK658 := A_ (bb_ BK658.out hb); replace BK721 := A_ (bb_ BK721.out hb); replace HO_49 := A_ (Kd.R_below (by (with_reducible repeat (first | apply Kd.R_alloc | apply Kd.R_drewN | apply Kd.R_drew)); exact HO_49.out) hb); replace HO_51 := A_ (Kd.R_below (by (with_reducible repeat (first | apply Kd.R_alloc | apply Kd.R_drewN | apply Kd.R_drew)); exact HO_51.out) hb); replace HO_63 := A_ (Kd.R_below (by (with_reducible repeat (first | apply Kd.R_alloc | apply Kd.R_drewN | apply Kd.R_drew)); exact HO_63.out) hb); replace HO_69 := A_ (Kd.R_below (by (with_reducible repeat (first | apply Kd.R_alloc | apply Kd.R_drewN | apply Kd.R_drew)); exact HO_69.out) hb); replace HO_591 := A_ (Kd.R_below (by (with_reducible repeat (first | apply Kd.R_alloc | apply Kd.R_drewN | apply Kd.R_drew)); exact HO_591.out) hb); (try clear hb)))
                                       replace HO_49 := A_ (Kd.R_drew HO_49.out)
                                       replace HO_51 := A_ (Kd.R_drew HO_51.out)
                                       replace HO_63 := A_ (Kd.R_drew HO_63.out)
                                       replace HO_69 := A_ (Kd.R_drew HO_69.out)
                                       replace HO_591 := A_ (Kd.R_drew HO_591.out)
                                       replace BK633 := A_ (blk_drew BK633.out)
                                       replace BK657 := A_ (blk_drew BK657.out)
                                       replace BK658 := A_ (blk_drew BK658.out)
                                       replace BK721 := A_ (blk_drew BK721.out)
                                       replace HB := A_ (below_drew1 HB.out)
                                       refine start_ (n := 40) (S := fun w' => True) (ds := []) #[false, false, false, false, false, false, false, false, false, false, false, false, false, false, false, false, false, false, false, false, false, false, false, false, false, false, false, false, false, false, false, false, false, false, false, false, false, false, false, false] (by kernel_rfl) rfl rfl trivial (fun hHeld => ?_); refine with_tabW laws_FnRunnersRun.tab77 laws_FnRunnersRun.bits77 (fun HT_ HW_ => ?_)
                                       generalize w227.drew = w228 at HO_49 HO_51 HO_63 HO_69 HO_591 BK633 BK657 BK658 BK721 HB hHeld ⊢
                                       refine pu_ 0 619 40 1 ?_
                                       refine pu_ 1 620 40 3 ?_
                                       refine pu_ 2 621 40 7 ?_
                                       refine pu_ 3 622 40 15 ?_
                                       refine pu_ 4 623 40 31 ?_
                                       refine pu_ 5 624 40 63 ?_
                                       refine pu_ 6 625 40 127 ?_
                                       refine pu_ 7 626 40 255 ?_
                                       refine pu_ 8 627 40 511 ?_
                                       refine pu_ 10 629 40 1535 ?_
                                       refine pu_ 11 630 40 3583 ?_
                                       refine pu_ 12 631 40 7679 ?_
                                       refine pu_ 13 632 40 15871 ?_
                                       refine pu_ 14 633 40 32255 ?_
                                       refine pu_ 15 634 40 65023 ?_
                                       refine pu_ 16 635 40 130559 ?_
                                       refine pu_ 17 636 40 261631 ?_
                                       refine pu_ 18 637 40 523775 ?_
                                       refine pu_ 19 638 40 1048063 ?_
                                       refine pu_ 20 639 40 2096639 ?_
                                       refine pu_ 21 640 40 4193791 ?_
                                       refine pu_ 22 641 40 8388095 ?_
                                       refine one_ (i := 9) (N := some 628) (pm_ 40 8388607) rfl rfl (one_of HT_.out (by kernel_rfl)) (by decide) (fun K hK => ?_)
                                       refine goes_ Tryz.func9 (by kernel_rfl) rfl #[.slice (some ad725) t674.length co226, .int .i64 x593_9] (by rfl) rfl rfl (by (try simp only [List.map_toArray, List.map_cons, List.map_nil]); first | done | rfl | (simp only [List.length_drop, List.length_take]; rfl)) ?_
                                       with_reducible refine (laws_qHas.calls k9 _ _ t674 x593_9 t730 _ ?side1 ?side2 A215.out).mono ?_
                                       (case side1 => repeat (first | exact (Kd.R_reads' HO_51.out).2.2 | (with_reducible refine Kd.C_alloc ?_ _) | (with_reducible refine Kd.C_drewN ?_ _) | (with_reducible refine Kd.C_drew ?_)))
                                       (case side2 => exact (Kd.R_reads' HO_51.out).2.1)
                                       rintro e w' ⟨rfl, ⟨nd, rfl⟩⟩
                                       refine ⟨_, rfl, ?_⟩
                                       refine hK.out _ _ trivial (fun hHeld => ?_)
                                       clear hK K
                                       refine norm_ (a' := ?_) ?_ ?_
                                       rotate_left
                                       ·
                                        show Act.put _ (some 628) _ = _
                                        simp only [Act.put, List.setIfInBounds_toArray, List.set_cons_zero, List.set_cons_succ, i64_w, i32_w]
                                        rfl
                                       refine pu_ 23 642 40 16777215 ?_
                                       refine pu_ 24 643 40 33554431 ?_
                                       refine pu_ 25 644 40 67108863 ?_
                                       refine pu_ 26 645 40 134217727 ?_
                                       refine pu_ 27 646 40 268435455 ?_
                                       refine pu_ 28 647 40 536870911 ?_
                                       refine pu_ 29 648 40 1073741823 ?_
                                       refine pu_ 30 649 40 2147483647 ?_
                                       refine pu_ 31 650 40 4294967295 ?_
                                       refine pu_ 32 651 40 8589934591 ?_
                                       refine pu_ 33 652 40 17179869183 ?_
                                       refine pu_ 34 653 40 34359738367 ?_
                                       refine pu_ 35 654 40 68719476735 ?_
                                       refine pu_ 36 655 40 137438953471 ?_
                                       refine pu_ 37 656 40 274877906943 ?_
                                       refine pu_ 38 657 40 549755813887 ?_
                                       refine pu_ 39 658 40 1099511627775 ?_
                                       refine done_ (done_of HT_.out (by kernel_rfl)) ?_
                                       try go_wp2
                                       go_roundg k9
                                       case measure => have := HJ7.out; have := HJ17.out; have := HJ74.out; have := HJ146.out; have := HJ154.out; have := HJ176.out; have := HJ183.out; have := HJ199.out; have := HK9.out; omega
                                       case rel => exact ⟨(wrap64 (x593_9 + 1)), (rs_), H', ⟨by have := HJ7.out; have := HJ17.out; have := HJ74.out; have := HJ146.out; have := HJ154.out; have := HJ176.out; have := HJ183.out; have := HJ199.out; have := HK9.out; omega⟩, ⟨by (with_reducible repeat (first | apply Kd.R_alloc | apply Kd.R_drewN | apply Kd.R_drew)); exact Kd.R_mono HO_49.out (fun _ hk => ⟨hk.1.1, ⟨hk.1.2.1, ⟨hk.1.2.2.1, ⟨hk.1.2.2.2.1, hk.1.2.2.2.2⟩⟩⟩⟩)⟩, ⟨by (with_reducible repeat (first | apply Kd.R_alloc | apply Kd.R_drewN | apply Kd.R_drew)); exact HO_51.out⟩, ⟨by (with_reducible repeat (first | apply Kd.R_alloc | apply Kd.R_drewN | apply Kd.R_drew)); exact Kd.R_mono HO_63.out (fun _ hk => ⟨hk.1.1, ⟨hk.1.2.1, ⟨hk.1.2.2.1, ⟨hk.1.2.2.2.1, ⟨hk.1.2.2.2.2.1, hk.1.2.2.2.2.2⟩⟩⟩⟩⟩)⟩, ⟨by (with_reducible repeat (first | apply Kd.R_alloc | apply Kd.R_drewN | apply Kd.R_drew)); exact Kd.R_mono HO_69.out (fun _ hk => ⟨hk.1.1, ⟨hk.1.2.1, ⟨hk.1.2.2.1, ⟨hk.1.2.2.2.1, ⟨hk.1.2.2.2.2.1, hk.1.2.2.2.2.2⟩⟩⟩⟩⟩)⟩, ⟨by (with_reducible repeat (first | apply Kd.R_alloc | apply Kd.R_drewN | apply Kd.R_drew)); exact Kd.R_mono HO_591.out (fun _ hk => ⟨hk.1.1, ⟨hk.1.2.1, ⟨hk.1.2.2.1, ⟨hk.1.2.2.2.1, hk.1.2.2.2.2⟩⟩⟩⟩)⟩, ⟨bk_⟩, ⟨bk_⟩, ⟨bk_⟩, ⟨bw_⟩⟩
                                  ·
                                   replace c214 := Bool.eq_false_iff.mpr c214
                                   subst c214
                                   rw [if_neg (show ¬ (false = true) by decide)] at H
                                   exact absurd ((Option.some.inj H).trans HRT.out) (by decide)
                                 ·
                                  replace c213 := Bool.eq_false_iff.mpr c213
                                  subst c213
                                  rw [if_neg (show ¬ (false = true) by decide)] at H
                                  exact absurd ((Option.some.inj H).trans HRT.out) (by decide)
                                ·
                                 rw [if_neg c211] at H
                                 exact absurd H (by simp)
                               ·
                                rw [if_neg c210] at H
                                exact absurd H (by simp)
                              ·
                               rw [if_neg c209] at H
                               exact absurd H (by simp)
                             ·
                              rw [if_neg c207] at H
                              exact absurd H (by simp)
                            ·
                             rw [if_neg c206] at H
                             exact absurd H (by simp)
                           ·
                            rw [if_neg c205] at H
                            replace c205 := decide_eq_false c205
                            have H' := A_ H
                            clear H
                            go_wp2
                            go_meet
                            case rel => exact ⟨_, H', ⟨by have := HJ7.out; have := HJ17.out; have := HJ74.out; have := HJ146.out; have := HJ154.out; have := HJ176.out; have := HJ183.out; have := HJ199.out; have := HK9.out; first | omega | exact Nat.le_refl _⟩, ⟨by (with_reducible repeat (first | apply Kd.R_alloc | apply Kd.R_drewN | apply Kd.R_drew)); exact Kd.R_mono HO_63.out (fun _ hk => ⟨hk.2.1, ⟨hk.2.2.2.1, ⟨hk.2.2.2.2.1, hk.2.2.2.2.2⟩⟩⟩)⟩, ⟨by (with_reducible repeat (first | apply Kd.R_alloc | apply Kd.R_drewN | apply Kd.R_drew)); exact Kd.R_mono HO_69.out (fun _ hk => ⟨hk.2.1, ⟨hk.2.2.2.1, ⟨hk.2.2.2.2.1, hk.2.2.2.2.2⟩⟩⟩)⟩, ⟨bk_⟩, ⟨bk_⟩, ⟨bk_⟩, ⟨bw_⟩⟩
                     ·
                      replace c199 := Bool.eq_false_iff.mpr c199
                      subst c199
                      rw [if_neg (show ¬ (false = true) by decide)] at H
                      have H' := A_ H
                      clear H
                      go_wp2
                      go_meet
                      case rel => exact ⟨_, H', ⟨by have := HJ7.out; have := HJ17.out; have := HJ74.out; have := HJ146.out; have := HJ154.out; have := HJ176.out; have := HJ183.out; first | omega | exact Nat.le_refl _⟩, ⟨by (with_reducible repeat (first | apply Kd.R_alloc | apply Kd.R_drewN | apply Kd.R_drew)); exact Kd.R_mono HO_63.out (fun _ hk => ⟨hk.2.1, ⟨hk.2.2.1, ⟨hk.2.2.2.1, hk.2.2.2.2⟩⟩⟩)⟩, ⟨by (with_reducible repeat (first | apply Kd.R_alloc | apply Kd.R_drewN | apply Kd.R_drew)); exact Kd.R_mono HO_69.out (fun _ hk => ⟨hk.2.1, ⟨hk.2.2.1, ⟨hk.2.2.2.1, hk.2.2.2.2⟩⟩⟩)⟩, ⟨bk_⟩, ⟨bk_⟩, ⟨bk_⟩, ⟨bw_⟩⟩
                    case rest => as_aux_lemma =>
                     clear HC198
                     (try clear c1); (try clear hcz100_0); (try clear hcz100_1); (try clear hcz102_0); (try clear hcz102_1); (try clear hcz104_0); (try clear hcz104_1); (try clear hcz78_0); (try clear hcz78_1); (try clear hcz80_0); (try clear hcz80_1); (try clear hcz82_0); (try clear hcz82_1); (try clear hcz84_0); (try clear hcz84_1); (try clear hcz95_0); (try clear hcz95_1); (try clear hcz97_0); (try clear hcz97_1); (try clear hcz99_0); (try clear hcz99_1); (try clear hfz100_0); (try clear hfz100_1); (try clear hfz102_0); (try clear hfz102_1); (try clear hfz104_0); (try clear hfz104_1); (try clear hfz78_0); (try clear hfz78_1); (try clear hfz80_0); (try clear hfz80_1); (try clear hfz82_0); (try clear hfz82_1); (try clear hfz84_0); (try clear hfz84_1); (try clear hfz95_0); (try clear hfz95_1); (try clear hfz97_0); (try clear hfz97_1); (try clear hfz99_0); (try clear hfz99_1)
                     obtain ⟨kq, HA, HJ197, HO_63, HO_69, BK633, BK657, BK658, HB⟩ := hcut
                     cases kq with
                     | zero => exact absurd HA.out (by simp [laws_FnRunnersRun.j15])
                     | succ kj197 =>
                      have H := HA.out
                      clear HA
                      simp only [laws_FnRunnersRun.j15] at H
                      have HC229 := A_ H
                      clear H
                      go_upto_region 80 with (fail)
                      go_cut [665] from 660 to 665 (fun v665 wc => ∃ (kq : Nat) (x665_228 : Bool), v665 = .bool x665_228 ∧ Aside0 (laws_FnRunnersRun.j16 kq t692 t695 t699 t700 t701 x665_228 = some r) ∧ Aside0 (kq ≤ kj197) ∧ Aside0 (Kd.R k35 35 wc w.heap.size (fun k_ => some k_ ≠ (v702 : Value).ownBlock ∧ k_ ≠ gb633 ∧ k_ ≠ gb657 ∧ k_ ≠ gb658) (.slice Ao115 t692.length co115) t692) ∧ Aside0 (Kd.R k35 35 wc w.heap.size (fun k_ => some k_ ≠ ((.slice Ao115 t692.length co115) : Value).ownBlock ∧ k_ ≠ gb633 ∧ k_ ≠ gb657 ∧ k_ ≠ gb658) v702 t700) ∧ Aside0 (wc.heap[gb633]? = some (.cells #[.int .i64 t630, .int .i64 t631] 35 (0, 0))) ∧ Aside0 (wc.heap[gb657]? = some (.cells #[.int .i64 t652, .int .i64 t653] 35 (0, 0))) ∧ Aside0 (wc.heap[gb658]? = some (.cells #[.int .i64 t654, .int .i64 t655] 35 (0, 0))) ∧ Aside0 (Below w.heap.size w wc))
                      case first => as_aux_lemma =>
                       have H := HC229.out
                       clear HC229
                       by_cases c230 : t696 = true
                       ·
                        subst c230
                        rw [if_pos rfl] at H
                        have H' := A_ H
                        clear H
                        go_wp2
                        go_meet
                        case rel => exact ⟨_, (decide ((t695.size : Int) ≤ 60)), (rs_), H', ⟨by have := HJ7.out; have := HJ17.out; have := HJ74.out; have := HJ146.out; have := HJ154.out; have := HJ176.out; have := HJ183.out; have := HJ197.out; first | omega | exact Nat.le_refl _⟩, ⟨by (with_reducible repeat (first | apply Kd.R_alloc | apply Kd.R_drewN | apply Kd.R_drew)); exact HO_63.out⟩, ⟨by (with_reducible repeat (first | apply Kd.R_alloc | apply Kd.R_drewN | apply Kd.R_drew)); exact HO_69.out⟩, ⟨bk_⟩, ⟨bk_⟩, ⟨bk_⟩, ⟨bw_⟩⟩
                       ·
                        replace c230 := Bool.eq_false_iff.mpr c230
                        subst c230
                        rw [if_neg (show ¬ (false = true) by decide)] at H
                        have H' := A_ H
                        clear H
                        go_wp2
                        go_meet
                        case rel => exact ⟨_, (false), (rs_), H', ⟨by have := HJ7.out; have := HJ17.out; have := HJ74.out; have := HJ146.out; have := HJ154.out; have := HJ176.out; have := HJ183.out; have := HJ197.out; first | omega | exact Nat.le_refl _⟩, ⟨by (with_reducible repeat (first | apply Kd.R_alloc | apply Kd.R_drewN | apply Kd.R_drew)); exact HO_63.out⟩, ⟨by (with_reducible repeat (first | apply Kd.R_alloc | apply Kd.R_drewN | apply Kd.R_drew)); exact HO_69.out⟩, ⟨bk_⟩, ⟨bk_⟩, ⟨bk_⟩, ⟨bw_⟩⟩
                      case rest => as_aux_lemma =>
                       clear HC229
                       (try clear c1); (try clear hcz100_0); (try clear hcz100_1); (try clear hcz102_0); (try clear hcz102_1); (try clear hcz104_0); (try clear hcz104_1); (try clear hcz78_0); (try clear hcz78_1); (try clear hcz80_0); (try clear hcz80_1); (try clear hcz82_0); (try clear hcz82_1); (try clear hcz84_0); (try clear hcz84_1); (try clear hcz95_0); (try clear hcz95_1); (try clear hcz97_0); (try clear hcz97_1); (try clear hcz99_0); (try clear hcz99_1); (try clear hfz100_0); (try clear hfz100_1); (try clear hfz102_0); (try clear hfz102_1); (try clear hfz104_0); (try clear hfz104_1); (try clear hfz78_0); (try clear hfz78_1); (try clear hfz80_0); (try clear hfz80_1); (try clear hfz82_0); (try clear hfz82_1); (try clear hfz84_0); (try clear hfz84_1); (try clear hfz95_0); (try clear hfz95_1); (try clear hfz97_0); (try clear hfz97_1); (try clear hfz99_0); (try clear hfz99_1)
                       obtain ⟨kq, x665_228, rfl, HA, HJ228, HO_63, HO_69, BK633, BK657, BK658, HB⟩ := hcut
                       cases kq with
                       | zero => exact absurd HA.out (by simp [laws_FnRunnersRun.j16])
                       | succ kj228 =>
                        have H := HA.out
                        clear HA
                        simp only [laws_FnRunnersRun.j16] at H
                        by_cases c231 : x665_228 = true
                        ·
                         subst c231
                         rw [if_pos rfl] at H
                         replace H := ob_ H
                         obtain ⟨⟨t731, t732⟩, A232, H⟩ := H
                         (try dsimp only at H)
                         have HC233 := A_ H
                         clear H
                         go_upto_region 82 with (first | ((with_reducible refine gate_callee (f := 34) rfl ?_); refine gl_ (some 668) Tryz.func34 #[.string t695] ?_; (with_reducible refine (impl_ParseRunners.calls kj228 t695 t731 t732 _ A232.out).mono ?_); rintro e w234 ⟨v733, rfl, ho0, hb⟩; refine ⟨_, rfl, ?_⟩; have HO734 := A_ (Kd.R_lower (Kd.R_newB (Kd.R_newB (Kd.R_newB (Kd.R_new' (Kd.R_new' ho0 (Kd.R_lt (by (with_reducible repeat (first | apply Kd.R_alloc | apply Kd.R_drewN | apply Kd.R_drew)); exact HO_63.out))) (Kd.R_lt (by (with_reducible repeat (first | apply Kd.R_alloc | apply Kd.R_drewN | apply Kd.R_drew)); exact HO_69.out))) (g := gb633) (o := .cells #[.int .i64 t630, .int .i64 t631] 35 (0, 0)) bk_) (g := gb657) (o := .cells #[.int .i64 t652, .int .i64 t653] 35 (0, 0)) bk_) (g := gb658) (o := .cells #[.int .i64 t654, .int .i64 t655] 35 (0, 0)) bk_) (below_size bw_)); replace HB := A_ (below_step bw_ hb); replace BK633 := A_ (bb_ BK633.out hb); replace BK657 := A_ (bb_ BK657.out hb); replace BK658 := A_ (bb_ BK658.out hb); replace HO_63 := A_ (Kd.R_elder' (by (with_reducible repeat (first | apply Kd.R_alloc | apply Kd.R_drewN | apply Kd.R_drew)); exact HO_63.out) (Kd.R_base ho0) hb); replace HO_69 := A_ (Kd.R_elder' (by (with_reducible repeat (first | apply Kd.R_alloc | apply Kd.R_drewN | apply Kd.R_drew)); exact HO_69.out) (Kd.R_base ho0) hb); (try clear hb); (try clear ho0)))
                         (try simp only [Act.put, List.setIfInBounds_toArray, List.set_cons_zero, List.set_cons_succ])
                         go_cut [678] from 671 to 678 (fun v678 wc => ∃ (kq : Nat) (x678_232 : Bool), v678 = .bool x678_232 ∧ Aside0 (laws_FnRunnersRun.j17 kq t699 t700 t701 x678_232 = some r) ∧ Aside0 (kq ≤ kj228) ∧ Aside0 (Kd.R k35 35 wc w.heap.size (fun k_ => k_ ≠ gb633 ∧ k_ ≠ gb657 ∧ k_ ≠ gb658) v702 t700) ∧ Aside0 (wc.heap[gb633]? = some (.cells #[.int .i64 t630, .int .i64 t631] 35 (0, 0))) ∧ Aside0 (wc.heap[gb657]? = some (.cells #[.int .i64 t652, .int .i64 t653] 35 (0, 0))) ∧ Aside0 (wc.heap[gb658]? = some (.cells #[.int .i64 t654, .int .i64 t655] 35 (0, 0))) ∧ Aside0 (Below w.heap.size w wc))
                         case first => as_aux_lemma =>
                          have H := HC233.out
                          clear HC233
                          by_cases c235 : t732 = true
                          ·
                           subst c235
                           rw [if_pos rfl] at H
                           replace H := ob_ H
                           obtain ⟨t735, A236, H⟩ := H
                           (try dsimp only at H)
                           have H' := A_ H
                           clear H
                           obtain ⟨Ao237, co237, eo237⟩ := Kd.R_slice HO734.out
                           subst eo237
                           go_wp2_with (first | (go_at_call 36; (with_reducible refine (laws_qRunners.calls kj228 _ _ t731 _ _ t692 t735 _ ?side1 ?side2 ?side3 ?side4 A236.out).mono ?_); (case side1 => repeat (first | exact (Kd.R_reads' HO734.out).2.2 | (with_reducible refine Kd.C_alloc ?_ _) | (with_reducible refine Kd.C_drewN ?_ _) | (with_reducible refine Kd.C_drew ?_))); (case side2 => exact (Kd.R_reads' HO734.out).2.1); (case side3 => repeat (first | exact (Kd.R_reads' HO_63.out).2.2 | (with_reducible refine Kd.C_alloc ?_ _) | (with_reducible refine Kd.C_drewN ?_ _) | (with_reducible refine Kd.C_drew ?_))); (case side4 => exact (Kd.R_reads' HO_63.out).2.1); rintro e w' ⟨rfl, ⟨nd, rfl⟩⟩))
                           go_meet
                           case rel => exact ⟨_, (!t735), (rs_), H', ⟨by have := HJ7.out; have := HJ17.out; have := HJ74.out; have := HJ146.out; have := HJ154.out; have := HJ176.out; have := HJ183.out; have := HJ197.out; have := HJ228.out; first | omega | exact Nat.le_refl _⟩, ⟨by (with_reducible repeat (first | apply Kd.R_alloc | apply Kd.R_drewN | apply Kd.R_drew)); exact Kd.R_mono HO_69.out (fun _ hk => ⟨hk.1.2.1, ⟨hk.1.2.2.1, hk.1.2.2.2⟩⟩)⟩, ⟨bk_⟩, ⟨bk_⟩, ⟨bk_⟩, ⟨bw_⟩⟩
                          ·
                           replace c235 := Bool.eq_false_iff.mpr c235
                           subst c235
                           rw [if_neg (show ¬ (false = true) by decide)] at H
                           exact absurd (H.trans (congrArg some HRT.out)) (by cases kj228 <;> simp [laws_FnRunnersRun.j17])
                         case rest => as_aux_lemma =>
                          clear HC233
                          (try clear c1); (try clear c231); (try clear hcz100_0); (try clear hcz100_1); (try clear hcz102_0); (try clear hcz102_1); (try clear hcz104_0); (try clear hcz104_1); (try clear hcz78_0); (try clear hcz78_1); (try clear hcz80_0); (try clear hcz80_1); (try clear hcz82_0); (try clear hcz82_1); (try clear hcz84_0); (try clear hcz84_1); (try clear hcz95_0); (try clear hcz95_1); (try clear hcz97_0); (try clear hcz97_1); (try clear hcz99_0); (try clear hcz99_1); (try clear hfz100_0); (try clear hfz100_1); (try clear hfz102_0); (try clear hfz102_1); (try clear hfz104_0); (try clear hfz104_1); (try clear hfz78_0); (try clear hfz78_1); (try clear hfz80_0); (try clear hfz80_1); (try clear hfz82_0); (try clear hfz82_1); (try clear hfz84_0); (try clear hfz84_1); (try clear hfz95_0); (try clear hfz95_1); (try clear hfz97_0); (try clear hfz97_1); (try clear hfz99_0); (try clear hfz99_1)
                          obtain ⟨kq, x678_232, rfl, HA, HJ232, HO_69, BK633, BK657, BK658, HB⟩ := hcut
                          cases kq with
                          | zero => exact absurd HA.out (by simp [laws_FnRunnersRun.j17])
                          | succ kj232 =>
                           have H := HA.out
                           clear HA
                           simp only [laws_FnRunnersRun.j17] at H
                           by_cases c238 : x678_232 = true
                           ·
                            subst c238
                            rw [if_pos rfl] at H
                            exact absurd ((Option.some.inj H).trans HRT.out) (by decide)
                           ·
                            replace c238 := Bool.eq_false_iff.mpr c238
                            subst c238
                            rw [if_neg (show ¬ (false = true) by decide)] at H
                            by_cases c239 : t701 = true
                            ·
                             subst c239
                             rw [if_pos rfl] at H
                             replace H := ob_ H
                             obtain ⟨⟨t736, t737⟩, A240, H⟩ := H
                             (try dsimp only at H)
                             by_cases c241 : t737 = true
                             ·
                              subst c241
                              rw [if_pos rfl] at H
                              obtain rfl := Option.some.inj H
                              obtain ⟨Ao242, co242, eo242⟩ := Kd.R_slice HO_69.out
                              subst eo242
                              go_wp2_with (first | ((with_reducible refine gate_callee (f := 31) rfl ?_); refine gl_ (some 682) Tryz.func31 #[.slice Ao242 t700.length co242] ?_; (with_reducible refine (impl_RunnersText.calls kj232 _ _ t700 t736 true _ ?side1 ?side2 A240.out).mono ?_); (case side1 => repeat (first | exact (Kd.R_reads' HO_69.out).2.2 | (with_reducible refine Kd.C_alloc ?_ _) | (with_reducible refine Kd.C_drewN ?_ _) | (with_reducible refine Kd.C_drew ?_))); (case side2 => exact (Kd.R_reads' HO_69.out).2.1); rintro e w243 ⟨rfl, hb⟩; refine ⟨_, rfl, ?_⟩; replace HB := A_ (below_step bw_ hb); replace BK633 := A_ (bb_ BK633.out hb); replace BK657 := A_ (bb_ BK657.out hb); replace BK658 := A_ (bb_ BK658.out hb); replace HO_69 := A_ (Kd.R_below (by (with_reducible repeat (first | apply Kd.R_alloc | apply Kd.R_drewN | apply Kd.R_drew)); exact HO_69.out) hb); (try clear hb)))
                              go_ret
                              exact ⟨rt_, bw_⟩
                             ·
                              replace c241 := Bool.eq_false_iff.mpr c241
                              subst c241
                              rw [if_neg (show ¬ (false = true) by decide)] at H
                              exact absurd ((Option.some.inj H).trans HRT.out) (by decide)
                            ·
                             replace c239 := Bool.eq_false_iff.mpr c239
                             subst c239
                             rw [if_neg (show ¬ (false = true) by decide)] at H
                             obtain rfl := Option.some.inj H
                             go_wp2
                             go_ret
                             exact ⟨rt_, bw_⟩
                        ·
                         replace c231 := Bool.eq_false_iff.mpr c231
                         subst c231
                         rw [if_neg (show ¬ (false = true) by decide)] at H
                         by_cases c244 : t701 = true
                         ·
                          subst c244
                          rw [if_pos rfl] at H
                          replace H := ob_ H
                          obtain ⟨⟨t738, t739⟩, A245, H⟩ := H
                          (try dsimp only at H)
                          by_cases c246 : t739 = true
                          ·
                           subst c246
                           rw [if_pos rfl] at H
                           obtain rfl := Option.some.inj H
                           obtain ⟨Ao247, co247, eo247⟩ := Kd.R_slice HO_69.out
                           subst eo247
                           go_wp2_with (first | ((with_reducible refine gate_callee (f := 31) rfl ?_); refine gl_ (some 682) Tryz.func31 #[.slice Ao247 t700.length co247] ?_; (with_reducible refine (impl_RunnersText.calls kj228 _ _ t700 t738 true _ ?side1 ?side2 A245.out).mono ?_); (case side1 => repeat (first | exact (Kd.R_reads' HO_69.out).2.2 | (with_reducible refine Kd.C_alloc ?_ _) | (with_reducible refine Kd.C_drewN ?_ _) | (with_reducible refine Kd.C_drew ?_))); (case side2 => exact (Kd.R_reads' HO_69.out).2.1); rintro e w248 ⟨rfl, hb⟩; refine ⟨_, rfl, ?_⟩; replace HB := A_ (below_step bw_ hb); replace BK633 := A_ (bb_ BK633.out hb); replace BK657 := A_ (bb_ BK657.out hb); replace BK658 := A_ (bb_ BK658.out hb); replace HO_63 := A_ (Kd.R_below (by (with_reducible repeat (first | apply Kd.R_alloc | apply Kd.R_drewN | apply Kd.R_drew)); exact HO_63.out) hb); replace HO_69 := A_ (Kd.R_below (by (with_reducible repeat (first | apply Kd.R_alloc | apply Kd.R_drewN | apply Kd.R_drew)); exact HO_69.out) hb); (try clear hb)))
                           go_ret
                           exact ⟨rt_, bw_⟩
                          ·
                           replace c246 := Bool.eq_false_iff.mpr c246
                           subst c246
                           rw [if_neg (show ¬ (false = true) by decide)] at H
                           exact absurd ((Option.some.inj H).trans HRT.out) (by decide)
                         ·
                          replace c244 := Bool.eq_false_iff.mpr c244
                          subst c244
                          rw [if_neg (show ¬ (false = true) by decide)] at H
                          obtain rfl := Option.some.inj H
                          go_wp2
                          go_ret
                          exact ⟨rt_, bw_⟩

end Go.Proofs.YtfkieckkmcibbaaGreatDoor.PFnRunnersRun
