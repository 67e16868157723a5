-- Laid by a program of this session's (wip/gen/printp.sh): the functions that the law reaches, each with its walk.
import Derived.Test.YtgobnhoblofglaaPFnRunnersMeetx0
import Derived.Test.YtgobnhoblofglaaPFnRunnersMeetx1
import Derived.Test.YtgobnhoblofglaaPFnRunnersMeetx2
import Derived.Test.YtgobnhoblofglaaPFnRunnersMeetx3
import Derived.Test.YtgobnhoblofglaaPFnRunnersMeetx4
import Derived.Test.YtgobnhoblofglaaPFnRunnersMeetx5
import Derived.Test.YtgobnhoblofglaaPFnRunnersMeetx6
import Derived.Test.YtgobnhoblofglaaPFnRunnersMeetx7
import Derived.Test.YtgobnhoblofglaaPFnRunnersMeetx8
import Derived.Test.YtgobnhoblofglaaPFnRunnersMeetx9
import Derived.Test.YtgobnhoblofglaaPFnRunnersMeetx10
import Derived.Test.YtgobnhoblofglaaPFnRunnersMeetx11
import Derived.Test.YtgobnhoblofglaaPFnRunnersMeetx12
namespace Go.Proofs.Ytgobnhoblofglaa.PFnRunnersMeet
open Go.RowKit Go.Proofs.YtgobnhoblofglaaW.PrintWords Go.Proofs.YtgobnhoblofglaaW.PrintLast Go.Proofs.YtgobnhoblofglaaW.PrintMore
attribute [local go_sem] max2_int min2_int max_two min_two max_three min_three max_four min_four   -- for this text's walks alone
set_option linter.unusedVariables false
set_option linter.unusedSimpArgs false
set_option maxHeartbeats 80000000 in
set_option maxRecDepth 100000 in
theorem laws_FnRunnersMeet.case1 (k : Nat) (A0 : Option Addr) (c0 : Nat) (l0 : List Int) (A1 : Option Addr) (c1 : Nat) (l1 : List Int) (r : Bool) (w : World) : (laws_FnRunnersMeet.part k A0 c0 l0 A1 c1 l1 r w).1 := by
   intro HRT hu45 HR0 HC0 HR1 HC1 A3 t398 t399 t400 t401 t402 t403 A5 t406 t409 A6 t410 t413 A7 t414 t415 A8 t416 t417 A9 t418 t419 t420 A10 t421 t422 t423 A11 t424 t427 A12 t428 t431 A13 t432 t433 A14 t434 t435 A15 HC16 z1_ nd z2_ w17 gb404 w18 GW404 GE404 gb405 w19 GW405 GE405 NB404_405 NB405_404 hnb20 hnc20 hcz21_0 hcz21_1 hfz21_0 hfz21_1 hcz22_0 hcz22_1 hfz22_0 hfz22_1 w23 v407 hcz24_0 hcz24_1 hfz24_0 hfz24_1 hcz25_0 hcz25_1 hfz25_0 hfz25_1 w26 v411 hcz27_0 hcz27_1 hfz27_0 hfz27_1 hcz28_0 hcz28_1 hfz28_0 hfz28_1 w29 hcz30_0 hcz30_1 hfz30_0 hfz30_1 hcz31_0 hcz31_1 hfz31_0 hfz31_1 w32 hcz33_0 hcz33_1 hfz33_0 hfz33_1 hcz34_0 hcz34_1 hfz34_0 hfz34_1 w35 hcz36_0 hcz36_1 hfz36_0 hfz36_1 hcz37_0 hcz37_1 hfz37_0 hfz37_1 w38 hcz39_0 hcz39_1 hfz39_0 hfz39_1 hcz40_0 hcz40_1 hfz40_0 hfz40_1 w41 v425 hcz42_0 hcz42_1 hfz42_0 hfz42_1 hcz43_0 hcz43_1 hfz43_0 hfz43_1 w44 v429 hcz45_0 hcz45_1 hfz45_0 hfz45_1 hcz46_0 hcz46_1 hfz46_0 hfz46_1 w47 hcz48_0 hcz48_1 hfz48_0 hfz48_1 hcz49_0 hcz49_1 hfz49_0 hfz49_1 w50 HO408 HO412 HO426 HO430 BK404 BK405 HB z3_ z4_ z5_ z6_ z7_ z8_ z9_ z10_
   have H := HC16.out
   clear HC16
   by_cases c51 : (t409 != t413) = true
   ·
    rw [if_pos c51] at H
    have c51b0 : (t409 != t413) = true := c51
    (try (have c51b1 : decide (t409 = t413) = false := by simpa using c51))
    (try (have c51b2 : (t409 == t413) = false := by simpa using c51))
    (try (have c51b3 : ¬ (t409 = t413) := by simpa using c51))
    clear c51
    (first | rw [c51b0] | (simp only [i64_w, i32_w]; rw [c51b0]) | skip)
    exact absurd (H.trans (congrArg some HRT.out)) (by cases k <;> simp [laws_FnRunnersMeet.j0])
   ·
    rw [if_neg c51] at H
    have c51b0 : (t409 != t413) = false := by simpa using c51
    (try (have c51b1 : decide (t409 = t413) = true := by simpa using c51))
    (try (have c51b2 : (t409 == t413) = true := by simpa using c51))
    clear c51
    (first | rw [c51b0] | (simp only [i64_w, i32_w]; rw [c51b0]) | skip)
    replace H := Option.bind_eq_some_iff.mp H
    obtain ⟨t436, A520, H⟩ := H
    (try dsimp only at H)
    have A52 := Aside0.mk A520
    clear A520
    by_cases c53 : t436 = true
    ·
     subst c53
     rw [if_pos rfl] at H
     by_cases c54 : (t415 != t417) = true
     ·
      rw [if_pos c54] at H
      have c54b0 : (t415 != t417) = true := c54
      (try (have c54b1 : decide (t415 = t417) = false := by simpa using c54))
      (try (have c54b2 : (t415 == t417) = false := by simpa using c54))
      (try (have c54b3 : ¬ (t415 = t417) := by simpa using c54))
      clear c54
      exact absurd (H.trans (congrArg some HRT.out)) (by cases k <;> simp [laws_FnRunnersMeet.j0])
     ·
      rw [if_neg c54] at H
      have c54b0 : (t415 != t417) = false := by simpa using c54
      (try (have c54b1 : decide (t415 = t417) = true := by simpa using c54))
      (try (have c54b2 : (t415 == t417) = true := by simpa using c54))
      clear c54
      by_cases c55 : t414 = t416
      ·
       rw [if_pos c55] at H
       have c55b0 : (t414 == t416) = true := beq_iff_eq.mpr c55
       have c55b1 : (t414 != t416) = false := bne_eq_false_iff_eq.mpr c55
       clear c55
       by_cases c56 : (t420 != t423) = true
       ·
        rw [if_pos c56] at H
        have c56b0 : (t420 != t423) = true := c56
        (try (have c56b1 : decide (t420 = t423) = false := by simpa using c56))
        (try (have c56b2 : (t420 == t423) = false := by simpa using c56))
        (try (have c56b3 : ¬ (t420 = t423) := by simpa using c56))
        clear c56
        exact absurd (H.trans (congrArg some HRT.out)) (by cases k <;> simp [laws_FnRunnersMeet.j0])
       ·
        rw [if_neg c56] at H
        have c56b0 : (t420 != t423) = false := by simpa using c56
        (try (have c56b1 : decide (t420 = t423) = true := by simpa using c56))
        (try (have c56b2 : (t420 == t423) = true := by simpa using c56))
        clear c56
        by_cases c57 : t418 = t421
        ·
         rw [if_pos c57] at H
         have c57b0 : (t418 == t421) = true := beq_iff_eq.mpr c57
         have c57b1 : (t418 != t421) = false := bne_eq_false_iff_eq.mpr c57
         clear c57
         by_cases c58 : t419 = t422
         ·
          rw [if_pos c58] at H
          have c58b0 : (t419 == t422) = true := beq_iff_eq.mpr c58
          have c58b1 : (t419 != t422) = false := bne_eq_false_iff_eq.mpr c58
          clear c58
          by_cases c59 : (t427 != t431) = true
          ·
           rw [if_pos c59] at H
           have c59b0 : (t427 != t431) = true := c59
           (try (have c59b1 : decide (t427 = t431) = false := by simpa using c59))
           (try (have c59b2 : (t427 == t431) = false := by simpa using c59))
           (try (have c59b3 : ¬ (t427 = t431) := by simpa using c59))
           clear c59
           exact absurd (H.trans (congrArg some HRT.out)) (by cases k <;> simp [laws_FnRunnersMeet.j0])
          ·
           rw [if_neg c59] at H
           have c59b0 : (t427 != t431) = false := by simpa using c59
           (try (have c59b1 : decide (t427 = t431) = true := by simpa using c59))
           (try (have c59b2 : (t427 == t431) = true := by simpa using c59))
           clear c59
           replace H := Option.bind_eq_some_iff.mp H
           obtain ⟨t437, A600, H⟩ := H
           (try dsimp only at H)
           have A60 := Aside0.mk A600
           clear A600
           by_cases c61 : t437 = true
           ·
            subst c61
            rw [if_pos rfl] at H
            by_cases c62 : (t433 != t435) = true
            ·
             rw [if_pos c62] at H
             have c62b0 : (t433 != t435) = true := c62
             (try (have c62b1 : decide (t433 = t435) = false := by simpa using c62))
             (try (have c62b2 : (t433 == t435) = false := by simpa using c62))
             (try (have c62b3 : ¬ (t433 = t435) := by simpa using c62))
             clear c62
             exact absurd (H.trans (congrArg some HRT.out)) (by cases k <;> simp [laws_FnRunnersMeet.j0])
            ·
             rw [if_neg c62] at H
             have c62b0 : (t433 != t435) = false := by simpa using c62
             (try (have c62b1 : decide (t433 = t435) = true := by simpa using c62))
             (try (have c62b2 : (t433 == t435) = true := by simpa using c62))
             clear c62
             by_cases c63 : t432 = t434
             ·
              rw [if_pos c63] at H
              have c63b0 : (t432 == t434) = true := beq_iff_eq.mpr c63
              have c63b1 : (t432 != t434) = false := bne_eq_false_iff_eq.mpr c63
              clear c63
              by_cases c64 : (t415 != t433) = true
              ·
               rw [if_pos c64] at H
               have c64b0 : (t415 != t433) = true := c64
               (try (have c64b1 : decide (t415 = t433) = false := by simpa using c64))
               (try (have c64b2 : (t415 == t433) = false := by simpa using c64))
               (try (have c64b3 : ¬ (t415 = t433) := by simpa using c64))
               clear c64
               exact absurd (H.trans (congrArg some HRT.out)) (by cases k <;> simp [laws_FnRunnersMeet.j0])
              ·
               rw [if_neg c64] at H
               have c64b0 : (t415 != t433) = false := by simpa using c64
               (try (have c64b1 : decide (t415 = t433) = true := by simpa using c64))
               (try (have c64b2 : (t415 == t433) = true := by simpa using c64))
               clear c64
               by_cases c65 : t409 = true
               ·
                subst c65
                rw [if_pos rfl] at H
                by_cases c66 : t415 = true
                ·
                 subst c66
                 rw [if_pos rfl] at H
                 by_cases c67 : t420 = true
                 ·
                  subst c67
                  rw [if_pos rfl] at H
                  have H' := Aside0.mk H
                  clear H
                  obtain ⟨Ao68, co68, eo68⟩ := Kd.R_slice HO408.out
                  subst eo68
                  obtain ⟨Ao69, co69, eo69⟩ := Kd.R_slice HO412.out
                  subst eo69
                  go_wp2_with (first | (go_at_call 32; (with_reducible refine (laws_qSame.calls k _ _ t406 _ _ t410 true _ ?side1 ?side2 ?side3 ?side4 A52.out).mono ?_); (case side1 => repeat (first | exact (Kd.R_reads' HO408.out).2.2 | (with_reducible refine Kd.C_alloc ?_ _) | (with_reducible refine Kd.C_drewN ?_ _) | (with_reducible refine Kd.C_drew ?_))); (case side2 => exact (Kd.R_reads' HO408.out).2.1); (case side3 => repeat (first | exact (Kd.R_reads' HO412.out).2.2 | (with_reducible refine Kd.C_alloc ?_ _) | (with_reducible refine Kd.C_drewN ?_ _) | (with_reducible refine Kd.C_drew ?_))); (case side4 => exact (Kd.R_reads' HO412.out).2.1); rintro e w' ⟨rfl, ⟨nd, rfl⟩⟩; obtain ⟨Ao70, co70, eo70⟩ := Kd.R_slice HO426.out; subst eo70; obtain ⟨Ao71, co71, eo71⟩ := Kd.R_slice HO430.out; subst eo71) | (go_at_call 32; (with_reducible refine (laws_qSame.calls k _ _ t424 _ _ t428 true _ ?side1 ?side2 ?side3 ?side4 A60.out).mono ?_); (case side1 => repeat (first | exact (Kd.R_reads' HO426.out).2.2 | (with_reducible refine Kd.C_alloc ?_ _) | (with_reducible refine Kd.C_drewN ?_ _) | (with_reducible refine Kd.C_drew ?_))); (case side2 => exact (Kd.R_reads' HO426.out).2.1); (case side3 => repeat (first | exact (Kd.R_reads' HO430.out).2.2 | (with_reducible refine Kd.C_alloc ?_ _) | (with_reducible refine Kd.C_drewN ?_ _) | (with_reducible refine Kd.C_drew ?_))); (case side4 => exact (Kd.R_reads' HO430.out).2.1); rintro e w' ⟨rfl, ⟨nd, rfl⟩⟩))
                  go_meet
                  case rel => exact ⟨_, (!t427), (by first | rfl | (simp; done) | (simp [*]; done)), H', ⟨by first | omega | exact Nat.le_refl _⟩, ⟨by (with_reducible repeat (first | apply Kd.R_alloc | apply Kd.R_drewN | apply Kd.R_drew)); exact Kd.R_mono HO408.out (fun _ hk => hk.1.2)⟩, ⟨by (with_reducible repeat (first | apply Kd.R_alloc | apply Kd.R_drewN | apply Kd.R_drew)); exact Kd.R_mono HO426.out (fun _ hk => hk.1.1.2)⟩, ⟨bk_⟩, ⟨bk_⟩, ⟨bw_⟩⟩
                 ·
                  replace c67 := Bool.eq_false_iff.mpr c67
                  subst c67
                  rw [if_neg (show ¬ (false = true) by decide)] at H
                  have H' := Aside0.mk H
                  clear H
                  obtain ⟨Ao72, co72, eo72⟩ := Kd.R_slice HO408.out
                  subst eo72
                  obtain ⟨Ao73, co73, eo73⟩ := Kd.R_slice HO412.out
                  subst eo73
                  go_wp2_with (first | (go_at_call 32; (with_reducible refine (laws_qSame.calls k _ _ t406 _ _ t410 true _ ?side1 ?side2 ?side3 ?side4 A52.out).mono ?_); (case side1 => repeat (first | exact (Kd.R_reads' HO408.out).2.2 | (with_reducible refine Kd.C_alloc ?_ _) | (with_reducible refine Kd.C_drewN ?_ _) | (with_reducible refine Kd.C_drew ?_))); (case side2 => exact (Kd.R_reads' HO408.out).2.1); (case side3 => repeat (first | exact (Kd.R_reads' HO412.out).2.2 | (with_reducible refine Kd.C_alloc ?_ _) | (with_reducible refine Kd.C_drewN ?_ _) | (with_reducible refine Kd.C_drew ?_))); (case side4 => exact (Kd.R_reads' HO412.out).2.1); rintro e w' ⟨rfl, ⟨nd, rfl⟩⟩; obtain ⟨Ao74, co74, eo74⟩ := Kd.R_slice HO426.out; subst eo74; obtain ⟨Ao75, co75, eo75⟩ := Kd.R_slice HO430.out; subst eo75) | (go_at_call 32; (with_reducible refine (laws_qSame.calls k _ _ t424 _ _ t428 true _ ?side1 ?side2 ?side3 ?side4 A60.out).mono ?_); (case side1 => repeat (first | exact (Kd.R_reads' HO426.out).2.2 | (with_reducible refine Kd.C_alloc ?_ _) | (with_reducible refine Kd.C_drewN ?_ _) | (with_reducible refine Kd.C_drew ?_))); (case side2 => exact (Kd.R_reads' HO426.out).2.1); (case side3 => repeat (first | exact (Kd.R_reads' HO430.out).2.2 | (with_reducible refine Kd.C_alloc ?_ _) | (with_reducible refine Kd.C_drewN ?_ _) | (with_reducible refine Kd.C_drew ?_))); (case side4 => exact (Kd.R_reads' HO430.out).2.1); rintro e w' ⟨rfl, ⟨nd, rfl⟩⟩))
                  go_meet
                  case rel => exact ⟨_, (false), (by first | rfl | (simp; done) | (simp [*]; done)), H', ⟨by first | omega | exact Nat.le_refl _⟩, ⟨by (with_reducible repeat (first | apply Kd.R_alloc | apply Kd.R_drewN | apply Kd.R_drew)); exact Kd.R_mono HO408.out (fun _ hk => hk.1.2)⟩, ⟨by (with_reducible repeat (first | apply Kd.R_alloc | apply Kd.R_drewN | apply Kd.R_drew)); exact Kd.R_mono HO426.out (fun _ hk => hk.1.1.2)⟩, ⟨bk_⟩, ⟨bk_⟩, ⟨bw_⟩⟩
                ·
                 replace c66 := Bool.eq_false_iff.mpr c66
                 subst c66
                 rw [if_neg (show ¬ (false = true) by decide)] at H
                 exact absurd (H.trans (congrArg some HRT.out)) (by cases k <;> simp [laws_FnRunnersMeet.j0])
               ·
                replace c65 := Bool.eq_false_iff.mpr c65
                subst c65
                rw [if_neg (show ¬ (false = true) by decide)] at H
                by_cases c76 : t420 = true
                ·
                 subst c76
                 rw [if_pos rfl] at H
                 have H' := Aside0.mk H
                 clear H
                 obtain ⟨Ao77, co77, eo77⟩ := Kd.R_slice HO408.out
                 subst eo77
                 obtain ⟨Ao78, co78, eo78⟩ := Kd.R_slice HO412.out
                 subst eo78
                 go_wp2_with (first | (go_at_call 32; (with_reducible refine (laws_qSame.calls k _ _ t406 _ _ t410 true _ ?side1 ?side2 ?side3 ?side4 A52.out).mono ?_); (case side1 => repeat (first | exact (Kd.R_reads' HO408.out).2.2 | (with_reducible refine Kd.C_alloc ?_ _) | (with_reducible refine Kd.C_drewN ?_ _) | (with_reducible refine Kd.C_drew ?_))); (case side2 => exact (Kd.R_reads' HO408.out).2.1); (case side3 => repeat (first | exact (Kd.R_reads' HO412.out).2.2 | (with_reducible refine Kd.C_alloc ?_ _) | (with_reducible refine Kd.C_drewN ?_ _) | (with_reducible refine Kd.C_drew ?_))); (case side4 => exact (Kd.R_reads' HO412.out).2.1); rintro e w' ⟨rfl, ⟨nd, rfl⟩⟩; obtain ⟨Ao79, co79, eo79⟩ := Kd.R_slice HO426.out; subst eo79; obtain ⟨Ao80, co80, eo80⟩ := Kd.R_slice HO430.out; subst eo80) | (go_at_call 32; (with_reducible refine (laws_qSame.calls k _ _ t424 _ _ t428 true _ ?side1 ?side2 ?side3 ?side4 A60.out).mono ?_); (case side1 => repeat (first | exact (Kd.R_reads' HO426.out).2.2 | (with_reducible refine Kd.C_alloc ?_ _) | (with_reducible refine Kd.C_drewN ?_ _) | (with_reducible refine Kd.C_drew ?_))); (case side2 => exact (Kd.R_reads' HO426.out).2.1); (case side3 => repeat (first | exact (Kd.R_reads' HO430.out).2.2 | (with_reducible refine Kd.C_alloc ?_ _) | (with_reducible refine Kd.C_drewN ?_ _) | (with_reducible refine Kd.C_drew ?_))); (case side4 => exact (Kd.R_reads' HO430.out).2.1); rintro e w' ⟨rfl, ⟨nd, rfl⟩⟩))
                 go_meet
                 case rel => exact ⟨_, (!t427), (by first | rfl | (simp; done) | (simp [*]; done)), H', ⟨by first | omega | exact Nat.le_refl _⟩, ⟨by (with_reducible repeat (first | apply Kd.R_alloc | apply Kd.R_drewN | apply Kd.R_drew)); exact Kd.R_mono HO408.out (fun _ hk => hk.1.2)⟩, ⟨by (with_reducible repeat (first | apply Kd.R_alloc | apply Kd.R_drewN | apply Kd.R_drew)); exact Kd.R_mono HO426.out (fun _ hk => hk.1.1.2)⟩, ⟨bk_⟩, ⟨bk_⟩, ⟨bw_⟩⟩
                ·
                 replace c76 := Bool.eq_false_iff.mpr c76
                 subst c76
                 rw [if_neg (show ¬ (false = true) by decide)] at H
                 have H' := Aside0.mk H
                 clear H
                 obtain ⟨Ao81, co81, eo81⟩ := Kd.R_slice HO408.out
                 subst eo81
                 obtain ⟨Ao82, co82, eo82⟩ := Kd.R_slice HO412.out
                 subst eo82
                 go_wp2_with (first | (go_at_call 32; (with_reducible refine (laws_qSame.calls k _ _ t406 _ _ t410 true _ ?side1 ?side2 ?side3 ?side4 A52.out).mono ?_); (case side1 => repeat (first | exact (Kd.R_reads' HO408.out).2.2 | (with_reducible refine Kd.C_alloc ?_ _) | (with_reducible refine Kd.C_drewN ?_ _) | (with_reducible refine Kd.C_drew ?_))); (case side2 => exact (Kd.R_reads' HO408.out).2.1); (case side3 => repeat (first | exact (Kd.R_reads' HO412.out).2.2 | (with_reducible refine Kd.C_alloc ?_ _) | (with_reducible refine Kd.C_drewN ?_ _) | (with_reducible refine Kd.C_drew ?_))); (case side4 => exact (Kd.R_reads' HO412.out).2.1); rintro e w' ⟨rfl, ⟨nd, rfl⟩⟩; obtain ⟨Ao83, co83, eo83⟩ := Kd.R_slice HO426.out; subst eo83; obtain ⟨Ao84, co84, eo84⟩ := Kd.R_slice HO430.out; subst eo84) | (go_at_call 32; (with_reducible refine (laws_qSame.calls k _ _ t424 _ _ t428 true _ ?side1 ?side2 ?side3 ?side4 A60.out).mono ?_); (case side1 => repeat (first | exact (Kd.R_reads' HO426.out).2.2 | (with_reducible refine Kd.C_alloc ?_ _) | (with_reducible refine Kd.C_drewN ?_ _) | (with_reducible refine Kd.C_drew ?_))); (case side2 => exact (Kd.R_reads' HO426.out).2.1); (case side3 => repeat (first | exact (Kd.R_reads' HO430.out).2.2 | (with_reducible refine Kd.C_alloc ?_ _) | (with_reducible refine Kd.C_drewN ?_ _) | (with_reducible refine Kd.C_drew ?_))); (case side4 => exact (Kd.R_reads' HO430.out).2.1); rintro e w' ⟨rfl, ⟨nd, rfl⟩⟩))
                 go_meet
                 case rel => exact ⟨_, (false), (by first | rfl | (simp; done) | (simp [*]; done)), H', ⟨by first | omega | exact Nat.le_refl _⟩, ⟨by (with_reducible repeat (first | apply Kd.R_alloc | apply Kd.R_drewN | apply Kd.R_drew)); exact Kd.R_mono HO408.out (fun _ hk => hk.1.2)⟩, ⟨by (with_reducible repeat (first | apply Kd.R_alloc | apply Kd.R_drewN | apply Kd.R_drew)); exact Kd.R_mono HO426.out (fun _ hk => hk.1.1.2)⟩, ⟨bk_⟩, ⟨bk_⟩, ⟨bw_⟩⟩
             ·
              rw [if_neg c63] at H
              have c63b0 : (t432 == t434) = false := beq_eq_false_iff_ne.mpr c63
              have c63b1 : (t432 != t434) = true := bne_iff_ne.mpr c63
              exact absurd (H.trans (congrArg some HRT.out)) (by cases k <;> simp [laws_FnRunnersMeet.j0])
           ·
            replace c61 := Bool.eq_false_iff.mpr c61
            subst c61
            rw [if_neg (show ¬ (false = true) by decide)] at H
            exact absurd (H.trans (congrArg some HRT.out)) (by cases k <;> simp [laws_FnRunnersMeet.j0])
         ·
          rw [if_neg c58] at H
          have c58b0 : (t419 == t422) = false := beq_eq_false_iff_ne.mpr c58
          have c58b1 : (t419 != t422) = true := bne_iff_ne.mpr c58
          exact absurd (H.trans (congrArg some HRT.out)) (by cases k <;> simp [laws_FnRunnersMeet.j0])
        ·
         rw [if_neg c57] at H
         have c57b0 : (t418 == t421) = false := beq_eq_false_iff_ne.mpr c57
         have c57b1 : (t418 != t421) = true := bne_iff_ne.mpr c57
         exact absurd (H.trans (congrArg some HRT.out)) (by cases k <;> simp [laws_FnRunnersMeet.j0])
      ·
       rw [if_neg c55] at H
       have c55b0 : (t414 == t416) = false := beq_eq_false_iff_ne.mpr c55
       have c55b1 : (t414 != t416) = true := bne_iff_ne.mpr c55
       exact absurd (H.trans (congrArg some HRT.out)) (by cases k <;> simp [laws_FnRunnersMeet.j0])
    ·
     replace c53 := Bool.eq_false_iff.mpr c53
     subst c53
     rw [if_neg (show ¬ (false = true) by decide)] at H
     exact absurd (H.trans (congrArg some HRT.out)) (by cases k <;> simp [laws_FnRunnersMeet.j0])
end Go.Proofs.Ytgobnhoblofglaa.PFnRunnersMeet
