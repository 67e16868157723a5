-- Laid by a program of this session's (wip/gen/printp.sh): the functions that the law reaches, each with its walk.
import Derived.Test.YtfkieckkmcibbaaGreatDoorPFnRunnersRunx0
import Derived.Test.YtfkieckkmcibbaaGreatDoorPFnRunnersRunx2
import Derived.Test.YtfkieckkmcibbaaGreatDoorPFnRunnersRunx3
import Derived.Test.YtfkieckkmcibbaaGreatDoorPFnRunnersRunx5
import Derived.Test.YtfkieckkmcibbaaGreatDoorPFnRunnersRunx6
import Derived.Test.YtfkieckkmcibbaaGreatDoorPFnRunnersRunx7
import Derived.Test.YtfkieckkmcibbaaGreatDoorPFnRunnersRunx8
import Derived.Test.YtfkieckkmcibbaaGreatDoorPFnRunnersRunx9
import Derived.Test.YtfkieckkmcibbaaGreatDoorPFnRunnersRunx10
import Derived.Test.YtfkieckkmcibbaaGreatDoorPFnRunnersRunx11
import Derived.Test.YtfkieckkmcibbaaGreatDoorPFnRunnersRunx12
import Derived.Test.YtfkieckkmcibbaaGreatDoorPFnRunnersRunx13
import Derived.Test.YtfkieckkmcibbaaGreatDoorPFnRunnersRunx14
import Derived.Test.YtfkieckkmcibbaaGreatDoorPFnRunnersRunx15
import Derived.Test.YtfkieckkmcibbaaGreatDoorPFnRunnersRunx16
import Derived.Test.YtfkieckkmcibbaaGreatDoorPFnRunnersRunx17
import Derived.Test.YtfkieckkmcibbaaGreatDoorPFnRunnersRunx18
namespace Go.Proofs.YtfkieckkmcibbaaGreatDoor.PFnRunnersRun
open Go.RowKit Go.Proofs.YtfkieckkmcibbaaGreatDoorW.PrintWords Go.Proofs.YtfkieckkmcibbaaGreatDoorW.PrintLast Go.Proofs.YtfkieckkmcibbaaGreatDoorW.PrintMore
attribute [local go_sem] max2_int min2_int max_two min_two max_three min_three max_four min_four   -- for this text's walks alone
set_option linter.unusedVariables false
set_option linter.unusedSimpArgs false
set_option maxHeartbeats 80000000 in
set_option maxRecDepth 100000 in
theorem laws_FnRunnersRun.case2 (k : Nat) (A0 : Option Addr) (c0 : Nat) (l0 : List Int) (A1 : Option Addr) (c1 : Nat) (l1 : List Int) (r : Bool) (w : World) : (laws_FnRunnersRun.part k A0 c0 l0 A1 c1 l1 r w).2.1 := by
              intro hL0 HRT hu35 HR0 HC0 HR1 HC1 A3 t603 t604 t605 A5 t608 t609 A6 t612 t613 A7 z1_ nd z2_ w9 Ao10 co10 w11 v610 w12 v614 HO615 z3_ HO607 HO611 z4_ u117 u118 u119 u120 u121 u122 u123 u124 HO_6 HO_8 z5_ kj7 HJ7 z6_ u4 u12 u13 u14 u15 u127 u128 u129 u130 u131 u132 u133 u134 u135 u136 u137 u138 u139 u140 u141 u142 u143 u144 u145 u146 u147 u148 u149 u150 u151 u152 u153 u154 u155 u156 u157 u158 u159 u160 u161 u162 u163 u164 u165 u166 u167 u168 u169 u170 u171 u172 u173 u174 u175 u176 u177 u178 u179 u180 u181 u182 u183 u184 u185 u186 u187 u188 u189 u190 u191 u192 u193 kj17 HJ17 t629 t630 t631 t632 A50 t634 t635 A51 t636 t637 A52 t638 t639 A53 t640 t641 A54 t642 t643 t644 A55 t647 t648 A56 t649 t650 A57 t651 t652 t653 t654 t655 t656 A58 t659 t660 A59 t661 t662 A60 t663 t664 t665 A61 t666 t667 t668 A62 t669 t670 t671 A63 t674 t675 A64 t678 t679 A65 t682 t683 t684 t685 A66 t688 t689 A67 t690 t691 A68 t692 A69 t695 t696 A70 t697 t698 A71 t699 A72 t700 t701 A73 t704 t705 A74 w76 gb633 w77 GW633 GE633 w79 w81 w83 w85 w86 Ao87 co87 w88 w89 w90 gb657 w91 GW657 GE657 NB633_657 NB657_633 gb658 w92 GW658 GE658 NB633_658 NB658_633 NB657_658 NB658_657 hnb93 hnc93 hnb94 hnc94 hnb96 hnc96 w98 w101 w103 w105 w106 Ao107 co107 w108 v676 w109 v680 w110 Ao111 co111 w112 w113 w114 Ao115 co115 w116 w117 w118 w119 v702 w120 v706 HO707 z7_ z8_ z9_ z10_ HO646 HO673 HO677 HO681 HO687 HO694 HO703 z11_ u354 u355 u356 u357 u358 u359 u360 u361 u362 u363 u364 u365 u366 u367 u368 u369 u370 u371 u372 u373 u374 u375 u376 u377 u378 u379 u380 u381 u382 u383 u384 u385 u386 u387 u388 u389 u390 u391 u392 u393 u394 u395 u396 u397 u398 u399 u400 u401 u402 u403 u404 u405 u406 u407 u408 u409 u410 u411 u412 u413 u414 u415 u416 u417 u418 u419 u420 u421 u422 u423 u424 u425 u426 u427 u428 u429 u430 u431 u432 u433 u434 u435 u436 u437 u438 u439 u440 u441 u442 u443 u444 u445 u446 u447 u448 u449 u450 u451 u452 z12_ z13_ z14_ z15_ z16_ z17_ z18_ z19_ z20_ kj74 HJ74 wc u454 u455 u456 u457 u458 u459 u460 u461 u462 u463 u464 u465 u466 u467 u468 u469 u470 u471 u472 u473 u474 u475 u476 HO_28 HO_49 HO_51 HO_63 HO_69 BK633 BK657 BK658 HB kj146 HJ146 HC155 z21_ z22_ z23_ z24_ z25_ z26_
              have H := HC155.out
              clear HC155
              by_cases c156 : t648 = true
              ·
               subst c156
               rw [if_pos rfl] at H
               replace H := ob_ H
               obtain ⟨⟨t710, t711⟩, A157, H⟩ := H
               (try dsimp only at H)
               replace H := ob_ H
               obtain ⟨⟨t712, t713⟩, A158, H⟩ := H
               (try dsimp only at H)
               have HC159 := A_ H
               clear H
               go_upto_region 53 with (first | ((with_reducible refine gate_callee (f := 28) rfl ?_); refine gl_ (some 484) Tryz.func28 #[.int .i64 t642, .slice Ao87 t643.length co87, .int .i64 t644, .int .i64 t647] ?_; (with_reducible refine (impl_NearestOthers.calls kj146 t642 _ _ t643 t644 t647 t710 t711 _ ?side1 ?side2 A157.out).mono ?_); (case side1 => repeat (first | exact (Kd.R_reads' HO_28.out).2.2 | (with_reducible refine Kd.C_alloc ?_ _) | (with_reducible refine Kd.C_drewN ?_ _) | (with_reducible refine Kd.C_drew ?_))); (case side2 => exact (Kd.R_reads' HO_28.out).2.1); rintro e w160 ⟨rfl, hb⟩; refine ⟨_, rfl, ?_⟩; replace HB := A_ (below_step bw_ hb); replace BK633 := A_ (bb_ BK633.out hb); replace BK657 := A_ (bb_ BK657.out hb); replace BK658 := A_ (bb_ BK658.out hb); replace HO_28 := A_ (Kd.R_below (by (with_reducible repeat (first | apply Kd.R_alloc | apply Kd.R_drewN | apply Kd.R_drew)); exact HO_28.out) hb); replace HO_49 := A_ (Kd.R_below (by (with_reducible repeat (first | apply Kd.R_alloc | apply Kd.R_drewN | apply Kd.R_drew)); exact HO_49.out) hb); replace HO_51 := A_ (Kd.R_below (by (with_reducible repeat (first | apply Kd.R_alloc | apply Kd.R_drewN | apply Kd.R_drew)); exact HO_51.out) hb); replace HO_63 := A_ (Kd.R_below (by (with_reducible repeat (first | apply Kd.R_alloc | apply Kd.R_drewN | apply Kd.R_drew)); exact HO_63.out) hb); replace HO_69 := A_ (Kd.R_below (by (with_reducible repeat (first | apply Kd.R_alloc | apply Kd.R_drewN | apply Kd.R_drew)); exact HO_69.out) hb); (try clear hb)) | ((with_reducible refine gate_callee (f := 37) rfl ?_); refine gl_ (some 490) Tryz.func37 #[.int .i64 t642, .slice Ao87 t643.length co87] ?_; (with_reducible refine (impl_RunPeriod.calls kj146 t642 _ _ t643 t712 t713 _ ?side1 ?side2 A158.out).mono ?_); (case side1 => repeat (first | exact (Kd.R_reads' HO_28.out).2.2 | (with_reducible refine Kd.C_alloc ?_ _) | (with_reducible refine Kd.C_drewN ?_ _) | (with_reducible refine Kd.C_drew ?_))); (case side2 => exact (Kd.R_reads' HO_28.out).2.1); rintro e w161 ⟨rfl, hb⟩; refine ⟨_, rfl, ?_⟩; replace HB := A_ (below_step bw_ hb); replace BK633 := A_ (bb_ BK633.out hb); replace BK657 := A_ (bb_ BK657.out hb); replace BK658 := A_ (bb_ BK658.out hb); replace HO_28 := A_ (Kd.R_below (by (with_reducible repeat (first | apply Kd.R_alloc | apply Kd.R_drewN | apply Kd.R_drew)); exact HO_28.out) hb); replace HO_49 := A_ (Kd.R_below (by (with_reducible repeat (first | apply Kd.R_alloc | apply Kd.R_drewN | apply Kd.R_drew)); exact HO_49.out) hb); replace HO_51 := A_ (Kd.R_below (by (with_reducible repeat (first | apply Kd.R_alloc | apply Kd.R_drewN | apply Kd.R_drew)); exact HO_51.out) hb); replace HO_63 := A_ (Kd.R_below (by (with_reducible repeat (first | apply Kd.R_alloc | apply Kd.R_drewN | apply Kd.R_drew)); exact HO_63.out) hb); replace HO_69 := A_ (Kd.R_below (by (with_reducible repeat (first | apply Kd.R_alloc | apply Kd.R_drewN | apply Kd.R_drew)); exact HO_69.out) hb); (try clear hb)))
               (try simp only [Act.put, List.setIfInBounds_toArray, List.set_cons_zero, List.set_cons_succ])
               go_cut [513] from 493 to 513 (fun v513 wc => ∃ (kq : Nat) (x513_158 : Bool), v513 = .bool x513_158 ∧ Aside0 (laws_FnRunnersRun.j6 kq t642 t643 t644 t647 t651 t656 t659 t660 t663 t664 t665 t669 t670 t671 t674 t675 t692 t695 t696 t699 t700 t701 t710 t712 x513_158 t652 t653 t654 t655 = some r) ∧ Aside0 (kq ≤ kj146) ∧ Aside0 (Kd.R k35 35 wc w.heap.size (fun k_ => some k_ ≠ ((.slice Ao107 t670.length co107) : Value).ownBlock ∧ some k_ ≠ ((.slice Ao115 t692.length co115) : Value).ownBlock ∧ some k_ ≠ (v702 : Value).ownBlock ∧ k_ ≠ gb633 ∧ k_ ≠ gb657 ∧ k_ ≠ gb658) (.slice Ao87 t643.length co87) t643) ∧ Aside0 (Kd.R k35 35 wc w.heap.size (fun k_ => some k_ ≠ ((.slice Ao87 t643.length co87) : Value).ownBlock ∧ some k_ ≠ ((.slice Ao115 t692.length co115) : Value).ownBlock ∧ some k_ ≠ (v702 : Value).ownBlock ∧ k_ ≠ gb633 ∧ k_ ≠ gb657 ∧ k_ ≠ gb658) (.slice Ao107 t670.length co107) t670) ∧ Aside0 (Kd.R (Kd.int .i64) 3 wc w.heap.size (fun _ => True) v676 t674) ∧ Aside0 (Kd.R k35 35 wc w.heap.size (fun k_ => some k_ ≠ ((.slice Ao87 t643.length co87) : Value).ownBlock ∧ some k_ ≠ ((.slice Ao107 t670.length co107) : Value).ownBlock ∧ some k_ ≠ (v702 : Value).ownBlock ∧ k_ ≠ gb633 ∧ k_ ≠ gb657 ∧ k_ ≠ gb658) (.slice Ao115 t692.length co115) t692) ∧ Aside0 (Kd.R k35 35 wc w.heap.size (fun k_ => some k_ ≠ ((.slice Ao87 t643.length co87) : Value).ownBlock ∧ some k_ ≠ ((.slice Ao107 t670.length co107) : Value).ownBlock ∧ some k_ ≠ ((.slice Ao115 t692.length co115) : Value).ownBlock ∧ k_ ≠ gb633 ∧ k_ ≠ gb657 ∧ k_ ≠ gb658) v702 t700) ∧ Aside0 (wc.heap[gb633]? = some (.cells #[.int .i64 t630, .int .i64 t631] 35 (0, 0))) ∧ Aside0 (wc.heap[gb657]? = some (.cells #[.int .i64 t652, .int .i64 t653] 35 (0, 0))) ∧ Aside0 (wc.heap[gb658]? = some (.cells #[.int .i64 t654, .int .i64 t655] 35 (0, 0))) ∧ Aside0 (Below w.heap.size w wc))
               case first => as_aux_lemma =>
                have H := HC159.out
                clear HC159
                by_cases c162 : t711 = true
                ·
                 subst c162
                 rw [if_pos rfl] at H
                 by_cases c163 : t713 = true
                 ·
                  subst c163
                  rw [if_pos rfl] at H
                  by_cases c164 : t647 < 0
                  ·
                   rw [if_pos c164] at H
                   have c164b0 : decide (t647 < 0) = true := decide_eq_true c164
                   clear c164
                   (first | rw [c164b0] | (simp only [i64_w, i32_w]; rw [c164b0]) | skip)
                   exact absurd (H.trans (congrArg some HRT.out)) (by cases kj146 <;> simp [laws_FnRunnersRun.j6])
                  ·
                   rw [if_neg c164] at H
                   have c164b0 : decide (t647 < 0) = false := decide_eq_false c164
                   clear c164
                   (first | rw [c164b0] | (simp only [i64_w, i32_w]; rw [c164b0]) | skip)
                   by_cases c165 : t647 ≥ t712
                   ·
                    rw [if_pos c165] at H
                    replace c165 := decide_eq_true (ge_iff_le.mp c165)
                    exact absurd (H.trans (congrArg some HRT.out)) (by cases kj146 <;> simp [laws_FnRunnersRun.j6])
                   ·
                    rw [if_neg c165] at H
                    replace c165 := decide_eq_false (mt ge_iff_le.mpr c165)
                    have H' := A_ H
                    clear H
                    go_wp2
                    go_meet
                    case rel => exact ⟨_, (decide ((wrap64 (2 * t710)) > t642)), (rs_), H', ⟨by have := HJ7.out; have := HJ17.out; have := HJ74.out; have := HJ146.out; first | omega | exact Nat.le_refl _⟩, ⟨by (with_reducible repeat (first | apply Kd.R_alloc | apply Kd.R_drewN | apply Kd.R_drew)); exact HO_28.out⟩, ⟨by (with_reducible repeat (first | apply Kd.R_alloc | apply Kd.R_drewN | apply Kd.R_drew)); exact HO_49.out⟩, ⟨by (with_reducible repeat (first | apply Kd.R_alloc | apply Kd.R_drewN | apply Kd.R_drew)); exact HO_51.out⟩, ⟨by (with_reducible repeat (first | apply Kd.R_alloc | apply Kd.R_drewN | apply Kd.R_drew)); exact HO_63.out⟩, ⟨by (with_reducible repeat (first | apply Kd.R_alloc | apply Kd.R_drewN | apply Kd.R_drew)); exact HO_69.out⟩, ⟨bk_⟩, ⟨bk_⟩, ⟨bk_⟩, ⟨bw_⟩⟩
                 ·
                  replace c163 := Bool.eq_false_iff.mpr c163
                  subst c163
                  rw [if_neg (show ¬ (false = true) by decide)] at H
                  exact absurd (H.trans (congrArg some HRT.out)) (by cases kj146 <;> simp [laws_FnRunnersRun.j6])
                ·
                 replace c162 := Bool.eq_false_iff.mpr c162
                 subst c162
                 rw [if_neg (show ¬ (false = true) by decide)] at H
                 exact absurd (H.trans (congrArg some HRT.out)) (by cases kj146 <;> simp [laws_FnRunnersRun.j6])
               case rest => as_aux_lemma =>
                clear HC159
                (try clear c1); (try clear c4); (try clear c17); (try clear c146); (try clear c154); (try clear c156); (try clear hcz100_0); (try clear hcz100_1); (try clear hcz102_0); (try clear hcz102_1); (try clear hcz104_0); (try clear hcz104_1); (try clear hcz78_0); (try clear hcz78_1); (try clear hcz80_0); (try clear hcz80_1); (try clear hcz82_0); (try clear hcz82_1); (try clear hcz84_0); (try clear hcz84_1); (try clear hcz95_0); (try clear hcz95_1); (try clear hcz97_0); (try clear hcz97_1); (try clear hcz99_0); (try clear hcz99_1); (try clear hfz100_0); (try clear hfz100_1); (try clear hfz102_0); (try clear hfz102_1); (try clear hfz104_0); (try clear hfz104_1); (try clear hfz78_0); (try clear hfz78_1); (try clear hfz80_0); (try clear hfz80_1); (try clear hfz82_0); (try clear hfz82_1); (try clear hfz84_0); (try clear hfz84_1); (try clear hfz95_0); (try clear hfz95_1); (try clear hfz97_0); (try clear hfz97_1); (try clear hfz99_0); (try clear hfz99_1)
                obtain ⟨kq, x513_158, rfl, HA, HJ158, HO_28, HO_49, HO_51, HO_63, HO_69, BK633, BK657, BK658, HB⟩ := hcut
                cases kq with
                | zero => exact absurd HA.out (by simp [laws_FnRunnersRun.j6])
                | succ kj158 =>
                 have H := HA.out
                 clear HA
                 simp only [laws_FnRunnersRun.j6] at H
                 by_cases c166 : x513_158 = true
                 ·
                  subst c166
                  rw [if_pos rfl] at H
                  exact absurd ((Option.some.inj H).trans HRT.out) (by decide)
                 ·
                  replace c166 := Bool.eq_false_iff.mpr c166
                  subst c166
                  rw [if_neg (show ¬ (false = true) by decide)] at H
                  have H' := A_ H
                  clear H
                  go_wp2
                  go_loopg [77] kj158 (fun kq v77 w' => ∃ (x77_6 : Int), v77 = .int .i64 x77_6 ∧ Aside0 (laws_FnRunnersRun.l1 kq t642 t643 t644 t647 t651 t656 t659 t660 t663 t664 t665 t669 t670 t671 t674 t675 t692 t695 t696 t699 t700 t701 t710 t712 x77_6 t652 t653 t654 t655 = some r) ∧ Aside0 (kq ≤ kj158) ∧ Aside0 (Kd.R k35 35 w' w.heap.size (fun k_ => some k_ ≠ ((.slice Ao107 t670.length co107) : Value).ownBlock ∧ some k_ ≠ ((.slice Ao115 t692.length co115) : Value).ownBlock ∧ some k_ ≠ (v702 : Value).ownBlock ∧ k_ ≠ gb633 ∧ k_ ≠ gb657 ∧ k_ ≠ gb658) (.slice Ao87 t643.length co87) t643) ∧ Aside0 (Kd.R k35 35 w' w.heap.size (fun k_ => some k_ ≠ ((.slice Ao87 t643.length co87) : Value).ownBlock ∧ some k_ ≠ ((.slice Ao115 t692.length co115) : Value).ownBlock ∧ some k_ ≠ (v702 : Value).ownBlock ∧ k_ ≠ gb633 ∧ k_ ≠ gb657 ∧ k_ ≠ gb658) (.slice Ao107 t670.length co107) t670) ∧ Aside0 (Kd.R (Kd.int .i64) 3 w' w.heap.size (fun _ => True) v676 t674) ∧ Aside0 (Kd.R k35 35 w' w.heap.size (fun k_ => some k_ ≠ ((.slice Ao87 t643.length co87) : Value).ownBlock ∧ some k_ ≠ ((.slice Ao107 t670.length co107) : Value).ownBlock ∧ some k_ ≠ (v702 : Value).ownBlock ∧ k_ ≠ gb633 ∧ k_ ≠ gb657 ∧ k_ ≠ gb658) (.slice Ao115 t692.length co115) t692) ∧ Aside0 (Kd.R k35 35 w' w.heap.size (fun k_ => some k_ ≠ ((.slice Ao87 t643.length co87) : Value).ownBlock ∧ some k_ ≠ ((.slice Ao107 t670.length co107) : Value).ownBlock ∧ some k_ ≠ ((.slice Ao115 t692.length co115) : Value).ownBlock ∧ k_ ≠ gb633 ∧ k_ ≠ gb657 ∧ k_ ≠ gb658) v702 t700) ∧ Aside0 (w'.heap[gb633]? = some (.cells #[.int .i64 t630, .int .i64 t631] 35 (0, 0))) ∧ Aside0 (w'.heap[gb657]? = some (.cells #[.int .i64 t652, .int .i64 t653] 35 (0, 0))) ∧ Aside0 (w'.heap[gb658]? = some (.cells #[.int .i64 t654, .int .i64 t655] 35 (0, 0))) ∧ Aside0 (Below w.heap.size w w'))
                  case atStart => exact ⟨(0), (rs_), H', ⟨Nat.le_refl _⟩, ⟨by (with_reducible repeat (first | apply Kd.R_alloc | apply Kd.R_drewN | apply Kd.R_drew)); exact HO_28.out⟩, ⟨by (with_reducible repeat (first | apply Kd.R_alloc | apply Kd.R_drewN | apply Kd.R_drew)); exact HO_49.out⟩, ⟨by (with_reducible repeat (first | apply Kd.R_alloc | apply Kd.R_drewN | apply Kd.R_drew)); exact HO_51.out⟩, ⟨by (with_reducible repeat (first | apply Kd.R_alloc | apply Kd.R_drewN | apply Kd.R_drew)); exact HO_63.out⟩, ⟨by (with_reducible repeat (first | apply Kd.R_alloc | apply Kd.R_drewN | apply Kd.R_drew)); exact HO_69.out⟩, ⟨bk_⟩, ⟨bk_⟩, ⟨bk_⟩, ⟨bw_⟩⟩
                  case round => as_aux_lemma =>
                   clear H'
                   (try clear c1); (try clear c4); (try clear c17); (try clear c146); (try clear c154); (try clear c156); (try clear c166); (try clear hcz100_0); (try clear hcz100_1); (try clear hcz102_0); (try clear hcz102_1); (try clear hcz104_0); (try clear hcz104_1); (try clear hcz78_0); (try clear hcz78_1); (try clear hcz80_0); (try clear hcz80_1); (try clear hcz82_0); (try clear hcz82_1); (try clear hcz84_0); (try clear hcz84_1); (try clear hcz95_0); (try clear hcz95_1); (try clear hcz97_0); (try clear hcz97_1); (try clear hcz99_0); (try clear hcz99_1); (try clear hfz100_0); (try clear hfz100_1); (try clear hfz102_0); (try clear hfz102_1); (try clear hfz104_0); (try clear hfz104_1); (try clear hfz78_0); (try clear hfz78_1); (try clear hfz80_0); (try clear hfz80_1); (try clear hfz82_0); (try clear hfz82_1); (try clear hfz84_0); (try clear hfz84_1); (try clear hfz95_0); (try clear hfz95_1); (try clear hfz97_0); (try clear hfz97_1); (try clear hfz99_0); (try clear hfz99_1)
                   obtain ⟨x77_6, rfl, HA, HK6, HO_28, HO_49, HO_51, HO_63, HO_69, BK633, BK657, BK658, HB⟩ := hrel
                   cases gk with
                   | zero => exact absurd HA.out (by simp [laws_FnRunnersRun.l1])
                   | succ k6 =>
                    have H := HA.out
                    clear HA
                    simp only [laws_FnRunnersRun.l1] at H
                    have HC167 := A_ H
                    clear H
                    go_upto_region 56 with (fail)
                    go_cut [520] from 514 to 520 (fun v520 wc => ∃ (kq : Nat) (x520_166 : Bool), v520 = .bool x520_166 ∧ Aside0 (laws_FnRunnersRun.j8 kq t642 t643 t644 t647 t651 t656 t659 t660 t663 t664 t665 t669 t670 t671 t674 t675 t692 t695 t696 t699 t700 t701 t710 t712 x77_6 x520_166 t652 t653 t654 t655 = some r) ∧ Aside0 (kq ≤ k6) ∧ Aside0 (Kd.R k35 35 wc w.heap.size (fun k_ => some k_ ≠ ((.slice Ao107 t670.length co107) : Value).ownBlock ∧ some k_ ≠ ((.slice Ao115 t692.length co115) : Value).ownBlock ∧ some k_ ≠ (v702 : Value).ownBlock ∧ k_ ≠ gb633 ∧ k_ ≠ gb657 ∧ k_ ≠ gb658) (.slice Ao87 t643.length co87) t643) ∧ Aside0 (Kd.R k35 35 wc w.heap.size (fun k_ => some k_ ≠ ((.slice Ao87 t643.length co87) : Value).ownBlock ∧ some k_ ≠ ((.slice Ao115 t692.length co115) : Value).ownBlock ∧ some k_ ≠ (v702 : Value).ownBlock ∧ k_ ≠ gb633 ∧ k_ ≠ gb657 ∧ k_ ≠ gb658) (.slice Ao107 t670.length co107) t670) ∧ Aside0 (Kd.R (Kd.int .i64) 3 wc w.heap.size (fun _ => True) v676 t674) ∧ Aside0 (Kd.R k35 35 wc w.heap.size (fun k_ => some k_ ≠ ((.slice Ao87 t643.length co87) : Value).ownBlock ∧ some k_ ≠ ((.slice Ao107 t670.length co107) : Value).ownBlock ∧ some k_ ≠ (v702 : Value).ownBlock ∧ k_ ≠ gb633 ∧ k_ ≠ gb657 ∧ k_ ≠ gb658) (.slice Ao115 t692.length co115) t692) ∧ Aside0 (Kd.R k35 35 wc w.heap.size (fun k_ => some k_ ≠ ((.slice Ao87 t643.length co87) : Value).ownBlock ∧ some k_ ≠ ((.slice Ao107 t670.length co107) : Value).ownBlock ∧ some k_ ≠ ((.slice Ao115 t692.length co115) : Value).ownBlock ∧ k_ ≠ gb633 ∧ k_ ≠ gb657 ∧ k_ ≠ gb658) v702 t700) ∧ Aside0 (wc.heap[gb633]? = some (.cells #[.int .i64 t630, .int .i64 t631] 35 (0, 0))) ∧ Aside0 (wc.heap[gb657]? = some (.cells #[.int .i64 t652, .int .i64 t653] 35 (0, 0))) ∧ Aside0 (wc.heap[gb658]? = some (.cells #[.int .i64 t654, .int .i64 t655] 35 (0, 0))) ∧ Aside0 (Below w.heap.size w wc))
                    case first => as_aux_lemma =>
                     have H := HC167.out
                     clear HC167
                     by_cases c168 : x77_6 < t712
                     ·
                      rw [if_pos c168] at H
                      have c168b0 : decide (x77_6 < t712) = true := decide_eq_true c168
                      clear c168
                      (first | rw [c168b0] | (simp only [i64_w, i32_w]; rw [c168b0]) | skip)
                      have H' := A_ H
                      clear H
                      go_wp2
                      go_meet
                      case rel => exact ⟨_, (decide (x77_6 < 40)), (rs_), H', ⟨by have := HJ7.out; have := HJ17.out; have := HJ74.out; have := HJ146.out; have := HJ158.out; have := HK6.out; first | omega | exact Nat.le_refl _⟩, ⟨by (with_reducible repeat (first | apply Kd.R_alloc | apply Kd.R_drewN | apply Kd.R_drew)); exact HO_28.out⟩, ⟨by (with_reducible repeat (first | apply Kd.R_alloc | apply Kd.R_drewN | apply Kd.R_drew)); exact HO_49.out⟩, ⟨by (with_reducible repeat (first | apply Kd.R_alloc | apply Kd.R_drewN | apply Kd.R_drew)); exact HO_51.out⟩, ⟨by (with_reducible repeat (first | apply Kd.R_alloc | apply Kd.R_drewN | apply Kd.R_drew)); exact HO_63.out⟩, ⟨by (with_reducible repeat (first | apply Kd.R_alloc | apply Kd.R_drewN | apply Kd.R_drew)); exact HO_69.out⟩, ⟨bk_⟩, ⟨bk_⟩, ⟨bk_⟩, ⟨bw_⟩⟩
                     ·
                      rw [if_neg c168] at H
                      have c168b0 : decide (x77_6 < t712) = false := decide_eq_false c168
                      clear c168
                      (first | rw [c168b0] | (simp only [i64_w, i32_w]; rw [c168b0]) | skip)
                      have H' := A_ H
                      clear H
                      go_wp2
                      go_meet
                      case rel => exact ⟨_, (false), (rs_), H', ⟨by have := HJ7.out; have := HJ17.out; have := HJ74.out; have := HJ146.out; have := HJ158.out; have := HK6.out; first | omega | exact Nat.le_refl _⟩, ⟨by (with_reducible repeat (first | apply Kd.R_alloc | apply Kd.R_drewN | apply Kd.R_drew)); exact HO_28.out⟩, ⟨by (with_reducible repeat (first | apply Kd.R_alloc | apply Kd.R_drewN | apply Kd.R_drew)); exact HO_49.out⟩, ⟨by (with_reducible repeat (first | apply Kd.R_alloc | apply Kd.R_drewN | apply Kd.R_drew)); exact HO_51.out⟩, ⟨by (with_reducible repeat (first | apply Kd.R_alloc | apply Kd.R_drewN | apply Kd.R_drew)); exact HO_63.out⟩, ⟨by (with_reducible repeat (first | apply Kd.R_alloc | apply Kd.R_drewN | apply Kd.R_drew)); exact HO_69.out⟩, ⟨bk_⟩, ⟨bk_⟩, ⟨bk_⟩, ⟨bw_⟩⟩
                    case rest => as_aux_lemma =>
                     clear HC167
                     (try clear c1); (try clear c4); (try clear c17); (try clear c146); (try clear c154); (try clear c156); (try clear c166); (try clear hcz100_0); (try clear hcz100_1); (try clear hcz102_0); (try clear hcz102_1); (try clear hcz104_0); (try clear hcz104_1); (try clear hcz78_0); (try clear hcz78_1); (try clear hcz80_0); (try clear hcz80_1); (try clear hcz82_0); (try clear hcz82_1); (try clear hcz84_0); (try clear hcz84_1); (try clear hcz95_0); (try clear hcz95_1); (try clear hcz97_0); (try clear hcz97_1); (try clear hcz99_0); (try clear hcz99_1); (try clear hfz100_0); (try clear hfz100_1); (try clear hfz102_0); (try clear hfz102_1); (try clear hfz104_0); (try clear hfz104_1); (try clear hfz78_0); (try clear hfz78_1); (try clear hfz80_0); (try clear hfz80_1); (try clear hfz82_0); (try clear hfz82_1); (try clear hfz84_0); (try clear hfz84_1); (try clear hfz95_0); (try clear hfz95_1); (try clear hfz97_0); (try clear hfz97_1); (try clear hfz99_0); (try clear hfz99_1)
                     obtain ⟨kq, x520_166, rfl, HA, HJ166, HO_28, HO_49, HO_51, HO_63, HO_69, BK633, BK657, BK658, HB⟩ := hcut
                     cases kq with
                     | zero => exact absurd HA.out (by simp [laws_FnRunnersRun.j8])
                     | succ kj166 =>
                      have H := HA.out
                      clear HA
                      simp only [laws_FnRunnersRun.j8] at H
                      by_cases c169 : x520_166 = true
                      ·
                       subst c169
                       rw [if_pos rfl] at H
                       replace H := ob_ H
                       obtain ⟨⟨t714, t715⟩, A170, H⟩ := H
                       (try dsimp only at H)
                       by_cases c171 : t715 = true
                       ·
                        subst c171
                        rw [if_pos rfl] at H
                        by_cases c172 : t714 > t710
                        ·
                         rw [if_pos c172] at H
                         replace c172 := decide_eq_true (gt_iff_lt.mp c172)
                         exact absurd ((Option.some.inj H).trans HRT.out) (by decide)
                        ·
                         rw [if_neg c172] at H
                         replace c172 := decide_eq_false (mt gt_iff_lt.mpr c172)
                         by_cases c173 : x77_6 < t647
                         ·
                          rw [if_pos c173] at H
                          replace c173 := decide_eq_true c173
                          by_cases c174 : t714 = t710
                          ·
                           rw [if_pos c174] at H
                           have c174b0 : (t714 == t710) = true := beq_iff_eq.mpr c174
                           have c174b1 : (t714 != t710) = false := bne_eq_false_iff_eq.mpr c174
                           clear c174
                           exact absurd ((Option.some.inj H).trans HRT.out) (by decide)
                          ·
                           rw [if_neg c174] at H
                           have c174b0 : (t714 == t710) = false := beq_eq_false_iff_ne.mpr c174
                           have c174b1 : (t714 != t710) = true := bne_iff_ne.mpr c174
                           have H' := A_ H
                           clear H
                           go_wp2_with (first | ((with_reducible refine gate_callee (f := 28) rfl ?_); refine gl_ (some 528) Tryz.func28 #[.int .i64 t642, .slice Ao87 t643.length co87, .int .i64 t644, .int .i64 x77_6] ?_; (with_reducible refine (impl_NearestOthers.calls kj166 t642 _ _ t643 t644 x77_6 t714 true _ ?side1 ?side2 A170.out).mono ?_); (case side1 => repeat (first | exact (Kd.R_reads' HO_28.out).2.2 | (with_reducible refine Kd.C_alloc ?_ _) | (with_reducible refine Kd.C_drewN ?_ _) | (with_reducible refine Kd.C_drew ?_))); (case side2 => exact (Kd.R_reads' HO_28.out).2.1); rintro e w175 ⟨rfl, hb⟩; refine ⟨_, rfl, ?_⟩; replace HB := A_ (below_step bw_ hb); replace BK633 := A_ (bb_ BK633.out hb); replace BK657 := A_ (bb_ BK657.out hb); replace BK658 := A_ (bb_ BK658.out hb); replace HO_28 := A_ (Kd.R_below (by (with_reducible repeat (first | apply Kd.R_alloc | apply Kd.R_drewN | apply Kd.R_drew)); exact HO_28.out) hb); replace HO_49 := A_ (Kd.R_below (by (with_reducible repeat (first | apply Kd.R_alloc | apply Kd.R_drewN | apply Kd.R_drew)); exact HO_49.out) hb); replace HO_51 := A_ (Kd.R_below (by (with_reducible repeat (first | apply Kd.R_alloc | apply Kd.R_drewN | apply Kd.R_drew)); exact HO_51.out) hb); replace HO_63 := A_ (Kd.R_below (by (with_reducible repeat (first | apply Kd.R_alloc | apply Kd.R_drewN | apply Kd.R_drew)); exact HO_63.out) hb); replace HO_69 := A_ (Kd.R_below (by (with_reducible repeat (first | apply Kd.R_alloc | apply Kd.R_drewN | apply Kd.R_drew)); exact HO_69.out) hb); (try clear hb)))
                           go_roundg kj166
                           case measure => have := HJ7.out; have := HJ17.out; have := HJ74.out; have := HJ146.out; have := HJ158.out; have := HK6.out; have := HJ166.out; omega
                           case rel => exact ⟨(wrap64 (x77_6 + 1)), (rs_), H', ⟨by have := HJ7.out; have := HJ17.out; have := HJ74.out; have := HJ146.out; have := HJ158.out; have := HK6.out; have := HJ166.out; omega⟩, ⟨by (with_reducible repeat (first | apply Kd.R_alloc | apply Kd.R_drewN | apply Kd.R_drew)); exact HO_28.out⟩, ⟨by (with_reducible repeat (first | apply Kd.R_alloc | apply Kd.R_drewN | apply Kd.R_drew)); exact HO_49.out⟩, ⟨by (with_reducible repeat (first | apply Kd.R_alloc | apply Kd.R_drewN | apply Kd.R_drew)); exact HO_51.out⟩, ⟨by (with_reducible repeat (first | apply Kd.R_alloc | apply Kd.R_drewN | apply Kd.R_drew)); exact HO_63.out⟩, ⟨by (with_reducible repeat (first | apply Kd.R_alloc | apply Kd.R_drewN | apply Kd.R_drew)); exact HO_69.out⟩, ⟨bk_⟩, ⟨bk_⟩, ⟨bk_⟩, ⟨bw_⟩⟩
                         ·
                          rw [if_neg c173] at H
                          replace c173 := decide_eq_false c173
                          have H' := A_ H
                          clear H
                          go_wp2_with (first | ((with_reducible refine gate_callee (f := 28) rfl ?_); refine gl_ (some 528) Tryz.func28 #[.int .i64 t642, .slice Ao87 t643.length co87, .int .i64 t644, .int .i64 x77_6] ?_; (with_reducible refine (impl_NearestOthers.calls kj166 t642 _ _ t643 t644 x77_6 t714 true _ ?side1 ?side2 A170.out).mono ?_); (case side1 => repeat (first | exact (Kd.R_reads' HO_28.out).2.2 | (with_reducible refine Kd.C_alloc ?_ _) | (with_reducible refine Kd.C_drewN ?_ _) | (with_reducible refine Kd.C_drew ?_))); (case side2 => exact (Kd.R_reads' HO_28.out).2.1); rintro e w176 ⟨rfl, hb⟩; refine ⟨_, rfl, ?_⟩; replace HB := A_ (below_step bw_ hb); replace BK633 := A_ (bb_ BK633.out hb); replace BK657 := A_ (bb_ BK657.out hb); replace BK658 := A_ (bb_ BK658.out hb); replace HO_28 := A_ (Kd.R_below (by (with_reducible repeat (first | apply Kd.R_alloc | apply Kd.R_drewN | apply Kd.R_drew)); exact HO_28.out) hb); replace HO_49 := A_ (Kd.R_below (by (with_reducible repeat (first | apply Kd.R_alloc | apply Kd.R_drewN | apply Kd.R_drew)); exact HO_49.out) hb); replace HO_51 := A_ (Kd.R_below (by (with_reducible repeat (first | apply Kd.R_alloc | apply Kd.R_drewN | apply Kd.R_drew)); exact HO_51.out) hb); replace HO_63 := A_ (Kd.R_below (by (with_reducible repeat (first | apply Kd.R_alloc | apply Kd.R_drewN | apply Kd.R_drew)); exact HO_63.out) hb); replace HO_69 := A_ (Kd.R_below (by (with_reducible repeat (first | apply Kd.R_alloc | apply Kd.R_drewN | apply Kd.R_drew)); exact HO_69.out) hb); (try clear hb)))
                          go_roundg kj166
                          case measure => have := HJ7.out; have := HJ17.out; have := HJ74.out; have := HJ146.out; have := HJ158.out; have := HK6.out; have := HJ166.out; omega
                          case rel => exact ⟨(wrap64 (x77_6 + 1)), (rs_), H', ⟨by have := HJ7.out; have := HJ17.out; have := HJ74.out; have := HJ146.out; have := HJ158.out; have := HK6.out; have := HJ166.out; omega⟩, ⟨by (with_reducible repeat (first | apply Kd.R_alloc | apply Kd.R_drewN | apply Kd.R_drew)); exact HO_28.out⟩, ⟨by (with_reducible repeat (first | apply Kd.R_alloc | apply Kd.R_drewN | apply Kd.R_drew)); exact HO_49.out⟩, ⟨by (with_reducible repeat (first | apply Kd.R_alloc | apply Kd.R_drewN | apply Kd.R_drew)); exact HO_51.out⟩, ⟨by (with_reducible repeat (first | apply Kd.R_alloc | apply Kd.R_drewN | apply Kd.R_drew)); exact HO_63.out⟩, ⟨by (with_reducible repeat (first | apply Kd.R_alloc | apply Kd.R_drewN | apply Kd.R_drew)); exact HO_69.out⟩, ⟨bk_⟩, ⟨bk_⟩, ⟨bk_⟩, ⟨bw_⟩⟩
                       ·
                        replace c171 := Bool.eq_false_iff.mpr c171
                        subst c171
                        rw [if_neg (show ¬ (false = true) by decide)] at H
                        exact absurd ((Option.some.inj H).trans HRT.out) (by decide)
                      ·
                       replace c169 := Bool.eq_false_iff.mpr c169
                       subst c169
                       rw [if_neg (show ¬ (false = true) by decide)] at H
                       have H' := A_ H
                       clear H
                       go_wp2
                       go_meet
                       case rel => exact ⟨_, H', ⟨by have := HJ7.out; have := HJ17.out; have := HJ74.out; have := HJ146.out; have := HJ158.out; have := HK6.out; have := HJ166.out; first | omega | exact Nat.le_refl _⟩, ⟨by (with_reducible repeat (first | apply Kd.R_alloc | apply Kd.R_drewN | apply Kd.R_drew)); exact Kd.R_mono HO_49.out (fun _ hk => ⟨hk.2.1, ⟨hk.2.2.1, ⟨hk.2.2.2.1, ⟨hk.2.2.2.2.1, hk.2.2.2.2.2⟩⟩⟩⟩)⟩, ⟨by (with_reducible repeat (first | apply Kd.R_alloc | apply Kd.R_drewN | apply Kd.R_drew)); exact HO_51.out⟩, ⟨by (with_reducible repeat (first | apply Kd.R_alloc | apply Kd.R_drewN | apply Kd.R_drew)); exact Kd.R_mono HO_63.out (fun _ hk => ⟨hk.2.1, ⟨hk.2.2.1, ⟨hk.2.2.2.1, ⟨hk.2.2.2.2.1, hk.2.2.2.2.2⟩⟩⟩⟩)⟩, ⟨by (with_reducible repeat (first | apply Kd.R_alloc | apply Kd.R_drewN | apply Kd.R_drew)); exact Kd.R_mono HO_69.out (fun _ hk => ⟨hk.2.1, ⟨hk.2.2.1, ⟨hk.2.2.2.1, ⟨hk.2.2.2.2.1, hk.2.2.2.2.2⟩⟩⟩⟩)⟩, ⟨bk_⟩, ⟨bk_⟩, ⟨bk_⟩, ⟨bw_⟩⟩
              ·
               replace c156 := Bool.eq_false_iff.mpr c156
               subst c156
               rw [if_neg (show ¬ (false = true) by decide)] at H
               have H' := A_ H
               clear H
               go_wp2
               go_meet
               case rel => exact ⟨_, H', ⟨by have := HJ7.out; have := HJ17.out; have := HJ74.out; have := HJ146.out; first | omega | exact Nat.le_refl _⟩, ⟨by (with_reducible repeat (first | apply Kd.R_alloc | apply Kd.R_drewN | apply Kd.R_drew)); exact Kd.R_mono HO_49.out (fun _ hk => ⟨hk.2.1, ⟨hk.2.2.1, ⟨hk.2.2.2.1, ⟨hk.2.2.2.2.1, hk.2.2.2.2.2⟩⟩⟩⟩)⟩, ⟨by (with_reducible repeat (first | apply Kd.R_alloc | apply Kd.R_drewN | apply Kd.R_drew)); exact HO_51.out⟩, ⟨by (with_reducible repeat (first | apply Kd.R_alloc | apply Kd.R_drewN | apply Kd.R_drew)); exact Kd.R_mono HO_63.out (fun _ hk => ⟨hk.2.1, ⟨hk.2.2.1, ⟨hk.2.2.2.1, ⟨hk.2.2.2.2.1, hk.2.2.2.2.2⟩⟩⟩⟩)⟩, ⟨by (with_reducible repeat (first | apply Kd.R_alloc | apply Kd.R_drewN | apply Kd.R_drew)); exact Kd.R_mono HO_69.out (fun _ hk => ⟨hk.2.1, ⟨hk.2.2.1, ⟨hk.2.2.2.1, ⟨hk.2.2.2.2.1, hk.2.2.2.2.2⟩⟩⟩⟩)⟩, ⟨bk_⟩, ⟨bk_⟩, ⟨bk_⟩, ⟨bw_⟩⟩
end Go.Proofs.YtfkieckkmcibbaaGreatDoor.PFnRunnersRun
