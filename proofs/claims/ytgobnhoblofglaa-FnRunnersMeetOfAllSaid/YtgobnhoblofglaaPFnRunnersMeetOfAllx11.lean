-- Laid by a program of this session's (wip/gen/printp.sh): the functions that the law reaches, each with its walk.
import Derived.Test.YtgobnhoblofglaaPFnRunnersMeetOfAllx0
import Derived.Test.YtgobnhoblofglaaPFnRunnersMeetOfAllx1
import Derived.Test.YtgobnhoblofglaaPFnRunnersMeetOfAllx2
import Derived.Test.YtgobnhoblofglaaPFnRunnersMeetOfAllx3
import Derived.Test.YtgobnhoblofglaaPFnRunnersMeetOfAllx4
import Derived.Test.YtgobnhoblofglaaPFnRunnersMeetOfAllx5
import Derived.Test.YtgobnhoblofglaaPFnRunnersMeetOfAllx6
import Derived.Test.YtgobnhoblofglaaPFnRunnersMeetOfAllx7
import Derived.Test.YtgobnhoblofglaaPFnRunnersMeetOfAllx8
import Derived.Test.YtgobnhoblofglaaPFnRunnersMeetOfAllx9
import Derived.Test.YtgobnhoblofglaaPFnRunnersMeetOfAllx10
namespace Go.Proofs.Ytgobnhoblofglaa.PFnRunnersMeetOfAll
open Go.RowKit Go.Proofs.YtgobnhoblofglaaW.PrintWords Go.Proofs.YtgobnhoblofglaaW.PrintLast Go.Proofs.YtgobnhoblofglaaW.PrintMore
attribute [local go_sem] max2_int min2_int max_two min_two max_three min_three max_four min_four   -- for this text's walks alone
set_option linter.unusedVariables false
set_option linter.unusedSimpArgs false
set_option maxHeartbeats 80000000 in
set_option maxRecDepth 100000 in
theorem laws_FnRunnersMeetOfAll.case1 (k : Nat) (a0 : Int) (a1_0 : Int) (a1_1 : Int) (a2_0 : Int) (a2_1 : Int) (a3 : Int) (a4 : Int) (A5 : Option Addr) (c5 : Nat) (l5 : List (S45)) (r : Bool) (w : World) : (laws_FnRunnersMeetOfAll.part k a0 a1_0 a1_1 a2_0 a2_1 a3 a4 A5 c5 l5 r w).1 := by
   intro HRT hu45 HR5 HC5 c7b0 c7b1 t268 t271 A10 t272 t275 A11 t276 t277 A12 t278 t279 A13 t280 t281 t282 A14 t283 t284 t285 A15 t286 t289 A16 t290 t293 A17 t294 t295 A18 t296 t297 A19 HC20 z1_ gb266 w21 GW266 GE266 gb267 w22 GW267 GE267 NB266_267 NB267_266 hnb23 hnc23 hcz24_0 hcz24_1 hfz24_0 hfz24_1 hcz25_0 hcz25_1 hfz25_0 hfz25_1 w26 v269 hcz27_0 hcz27_1 hfz27_0 hfz27_1 hcz28_0 hcz28_1 hfz28_0 hfz28_1 w29 v273 hcz30_0 hcz30_1 hfz30_0 hfz30_1 hcz31_0 hcz31_1 hfz31_0 hfz31_1 w32 hcz33_0 hcz33_1 hfz33_0 hfz33_1 hcz34_0 hcz34_1 hfz34_0 hfz34_1 w35 hcz36_0 hcz36_1 hfz36_0 hfz36_1 hcz37_0 hcz37_1 hfz37_0 hfz37_1 w38 hcz39_0 hcz39_1 hfz39_0 hfz39_1 hcz40_0 hcz40_1 hfz40_0 hfz40_1 w41 hcz42_0 hcz42_1 hfz42_0 hfz42_1 hcz43_0 hcz43_1 hfz43_0 hfz43_1 w44 v287 hcz45_0 hcz45_1 hfz45_0 hfz45_1 hcz46_0 hcz46_1 hfz46_0 hfz46_1 w47 v291 hcz48_0 hcz48_1 hfz48_0 hfz48_1 hcz49_0 hcz49_1 hfz49_0 hfz49_1 w50 hcz51_0 hcz51_1 hfz51_0 hfz51_1 hcz52_0 hcz52_1 hfz52_0 hfz52_1 w53 HO270 HO274 HO288 HO292 BK266 BK267 HB z2_ z3_ z4_ z5_ z6_ z7_ z8_ z9_
   have H := HC20.out
   clear HC20
   by_cases c54 : (t271 != t275) = true
   ·
    rw [if_pos c54] at H
    have c54b0 : (t271 != t275) = true := c54
    (try (have c54b1 : decide (t271 = t275) = false := by simpa using c54))
    (try (have c54b2 : (t271 == t275) = false := by simpa using c54))
    (try (have c54b3 : ¬ (t271 = t275) := by simpa using c54))
    clear c54
    (first | rw [c54b0] | (simp only [i64_w, i32_w]; rw [c54b0]) | skip)
    exact absurd (H.trans (congrArg some HRT.out)) (by cases k <;> simp [laws_FnRunnersMeetOfAll.j0])
   ·
    rw [if_neg c54] at H
    have c54b0 : (t271 != t275) = false := by simpa using c54
    (try (have c54b1 : decide (t271 = t275) = true := by simpa using c54))
    (try (have c54b2 : (t271 == t275) = true := by simpa using c54))
    clear c54
    (first | rw [c54b0] | (simp only [i64_w, i32_w]; rw [c54b0]) | skip)
    replace H := Option.bind_eq_some_iff.mp H
    obtain ⟨t298, A550, H⟩ := H
    (try dsimp only at H)
    have A55 := Aside0.mk A550
    clear A550
    by_cases c56 : t298 = true
    ·
     subst c56
     rw [if_pos rfl] at H
     by_cases c57 : (t277 != t279) = true
     ·
      rw [if_pos c57] at H
      have c57b0 : (t277 != t279) = true := c57
      (try (have c57b1 : decide (t277 = t279) = false := by simpa using c57))
      (try (have c57b2 : (t277 == t279) = false := by simpa using c57))
      (try (have c57b3 : ¬ (t277 = t279) := by simpa using c57))
      clear c57
      exact absurd (H.trans (congrArg some HRT.out)) (by cases k <;> simp [laws_FnRunnersMeetOfAll.j0])
     ·
      rw [if_neg c57] at H
      have c57b0 : (t277 != t279) = false := by simpa using c57
      (try (have c57b1 : decide (t277 = t279) = true := by simpa using c57))
      (try (have c57b2 : (t277 == t279) = true := by simpa using c57))
      clear c57
      by_cases c58 : t276 = t278
      ·
       rw [if_pos c58] at H
       have c58b0 : (t276 == t278) = true := beq_iff_eq.mpr c58
       have c58b1 : (t276 != t278) = false := bne_eq_false_iff_eq.mpr c58
       clear c58
       by_cases c59 : (t282 != t285) = true
       ·
        rw [if_pos c59] at H
        have c59b0 : (t282 != t285) = true := c59
        (try (have c59b1 : decide (t282 = t285) = false := by simpa using c59))
        (try (have c59b2 : (t282 == t285) = false := by simpa using c59))
        (try (have c59b3 : ¬ (t282 = t285) := by simpa using c59))
        clear c59
        exact absurd (H.trans (congrArg some HRT.out)) (by cases k <;> simp [laws_FnRunnersMeetOfAll.j0])
       ·
        rw [if_neg c59] at H
        have c59b0 : (t282 != t285) = false := by simpa using c59
        (try (have c59b1 : decide (t282 = t285) = true := by simpa using c59))
        (try (have c59b2 : (t282 == t285) = true := by simpa using c59))
        clear c59
        by_cases c60 : t280 = t283
        ·
         rw [if_pos c60] at H
         have c60b0 : (t280 == t283) = true := beq_iff_eq.mpr c60
         have c60b1 : (t280 != t283) = false := bne_eq_false_iff_eq.mpr c60
         clear c60
         by_cases c61 : t281 = t284
         ·
          rw [if_pos c61] at H
          have c61b0 : (t281 == t284) = true := beq_iff_eq.mpr c61
          have c61b1 : (t281 != t284) = false := bne_eq_false_iff_eq.mpr c61
          clear c61
          by_cases c62 : (t289 != t293) = true
          ·
           rw [if_pos c62] at H
           have c62b0 : (t289 != t293) = true := c62
           (try (have c62b1 : decide (t289 = t293) = false := by simpa using c62))
           (try (have c62b2 : (t289 == t293) = false := by simpa using c62))
           (try (have c62b3 : ¬ (t289 = t293) := by simpa using c62))
           clear c62
           exact absurd (H.trans (congrArg some HRT.out)) (by cases k <;> simp [laws_FnRunnersMeetOfAll.j0])
          ·
           rw [if_neg c62] at H
           have c62b0 : (t289 != t293) = false := by simpa using c62
           (try (have c62b1 : decide (t289 = t293) = true := by simpa using c62))
           (try (have c62b2 : (t289 == t293) = true := by simpa using c62))
           clear c62
           replace H := Option.bind_eq_some_iff.mp H
           obtain ⟨t299, A630, H⟩ := H
           (try dsimp only at H)
           have A63 := Aside0.mk A630
           clear A630
           by_cases c64 : t299 = true
           ·
            subst c64
            rw [if_pos rfl] at H
            by_cases c65 : (t295 != t297) = true
            ·
             rw [if_pos c65] at H
             have c65b0 : (t295 != t297) = true := c65
             (try (have c65b1 : decide (t295 = t297) = false := by simpa using c65))
             (try (have c65b2 : (t295 == t297) = false := by simpa using c65))
             (try (have c65b3 : ¬ (t295 = t297) := by simpa using c65))
             clear c65
             exact absurd (H.trans (congrArg some HRT.out)) (by cases k <;> simp [laws_FnRunnersMeetOfAll.j0])
            ·
             rw [if_neg c65] at H
             have c65b0 : (t295 != t297) = false := by simpa using c65
             (try (have c65b1 : decide (t295 = t297) = true := by simpa using c65))
             (try (have c65b2 : (t295 == t297) = true := by simpa using c65))
             clear c65
             by_cases c66 : t294 = t296
             ·
              rw [if_pos c66] at H
              have c66b0 : (t294 == t296) = true := beq_iff_eq.mpr c66
              have c66b1 : (t294 != t296) = false := bne_eq_false_iff_eq.mpr c66
              clear c66
              by_cases c67 : (t277 != t295) = true
              ·
               rw [if_pos c67] at H
               have c67b0 : (t277 != t295) = true := c67
               (try (have c67b1 : decide (t277 = t295) = false := by simpa using c67))
               (try (have c67b2 : (t277 == t295) = false := by simpa using c67))
               (try (have c67b3 : ¬ (t277 = t295) := by simpa using c67))
               clear c67
               exact absurd (H.trans (congrArg some HRT.out)) (by cases k <;> simp [laws_FnRunnersMeetOfAll.j0])
              ·
               rw [if_neg c67] at H
               have c67b0 : (t277 != t295) = false := by simpa using c67
               (try (have c67b1 : decide (t277 = t295) = true := by simpa using c67))
               (try (have c67b2 : (t277 == t295) = true := by simpa using c67))
               clear c67
               by_cases c68 : t271 = true
               ·
                subst c68
                rw [if_pos rfl] at H
                by_cases c69 : t277 = true
                ·
                 subst c69
                 rw [if_pos rfl] at H
                 by_cases c70 : t282 = true
                 ·
                  subst c70
                  rw [if_pos rfl] at H
                  have H' := Aside0.mk H
                  clear H
                  obtain ⟨Ao71, co71, eo71⟩ := Kd.R_slice HO270.out
                  subst eo71
                  obtain ⟨Ao72, co72, eo72⟩ := Kd.R_slice HO274.out
                  subst eo72
                  go_wp2_with (first | (go_at_call 32; (with_reducible refine (laws_qSame.calls k _ _ t268 _ _ t272 true _ ?side1 ?side2 ?side3 ?side4 A55.out).mono ?_); (case side1 => repeat (first | exact (Kd.R_reads' HO270.out).2.2 | (with_reducible refine Kd.C_alloc ?_ _) | (with_reducible refine Kd.C_drewN ?_ _) | (with_reducible refine Kd.C_drew ?_))); (case side2 => exact (Kd.R_reads' HO270.out).2.1); (case side3 => repeat (first | exact (Kd.R_reads' HO274.out).2.2 | (with_reducible refine Kd.C_alloc ?_ _) | (with_reducible refine Kd.C_drewN ?_ _) | (with_reducible refine Kd.C_drew ?_))); (case side4 => exact (Kd.R_reads' HO274.out).2.1); rintro e w' ⟨rfl, ⟨nd, rfl⟩⟩; obtain ⟨Ao73, co73, eo73⟩ := Kd.R_slice HO288.out; subst eo73; obtain ⟨Ao74, co74, eo74⟩ := Kd.R_slice HO292.out; subst eo74) | (go_at_call 32; (with_reducible refine (laws_qSame.calls k _ _ t286 _ _ t290 true _ ?side1 ?side2 ?side3 ?side4 A63.out).mono ?_); (case side1 => repeat (first | exact (Kd.R_reads' HO288.out).2.2 | (with_reducible refine Kd.C_alloc ?_ _) | (with_reducible refine Kd.C_drewN ?_ _) | (with_reducible refine Kd.C_drew ?_))); (case side2 => exact (Kd.R_reads' HO288.out).2.1); (case side3 => repeat (first | exact (Kd.R_reads' HO292.out).2.2 | (with_reducible refine Kd.C_alloc ?_ _) | (with_reducible refine Kd.C_drewN ?_ _) | (with_reducible refine Kd.C_drew ?_))); (case side4 => exact (Kd.R_reads' HO292.out).2.1); rintro e w' ⟨rfl, ⟨nd, rfl⟩⟩))
                  go_meet
                  case rel => exact ⟨_, (!t289), (by first | rfl | (simp; done) | (simp [*]; done)), H', ⟨by first | omega | exact Nat.le_refl _⟩, ⟨by (with_reducible repeat (first | apply Kd.R_alloc | apply Kd.R_drewN | apply Kd.R_drew)); exact Kd.R_mono HO270.out (fun _ hk => hk.1.2)⟩, ⟨by (with_reducible repeat (first | apply Kd.R_alloc | apply Kd.R_drewN | apply Kd.R_drew)); exact Kd.R_mono HO288.out (fun _ hk => hk.1.1.2)⟩, ⟨by (with_reducible repeat (first | refine blk_drewN ?_ _ | refine blk_drew ?_ | refine blk_alloc ?_ _)); exact BK266.out⟩, ⟨by (with_reducible repeat (first | refine blk_drewN ?_ _ | refine blk_drew ?_ | refine blk_alloc ?_ _)); exact BK267.out⟩, ⟨bw_⟩⟩
                 ·
                  replace c70 := Bool.eq_false_iff.mpr c70
                  subst c70
                  rw [if_neg (show ¬ (false = true) by decide)] at H
                  have H' := Aside0.mk H
                  clear H
                  obtain ⟨Ao75, co75, eo75⟩ := Kd.R_slice HO270.out
                  subst eo75
                  obtain ⟨Ao76, co76, eo76⟩ := Kd.R_slice HO274.out
                  subst eo76
                  go_wp2_with (first | (go_at_call 32; (with_reducible refine (laws_qSame.calls k _ _ t268 _ _ t272 true _ ?side1 ?side2 ?side3 ?side4 A55.out).mono ?_); (case side1 => repeat (first | exact (Kd.R_reads' HO270.out).2.2 | (with_reducible refine Kd.C_alloc ?_ _) | (with_reducible refine Kd.C_drewN ?_ _) | (with_reducible refine Kd.C_drew ?_))); (case side2 => exact (Kd.R_reads' HO270.out).2.1); (case side3 => repeat (first | exact (Kd.R_reads' HO274.out).2.2 | (with_reducible refine Kd.C_alloc ?_ _) | (with_reducible refine Kd.C_drewN ?_ _) | (with_reducible refine Kd.C_drew ?_))); (case side4 => exact (Kd.R_reads' HO274.out).2.1); rintro e w' ⟨rfl, ⟨nd, rfl⟩⟩; obtain ⟨Ao77, co77, eo77⟩ := Kd.R_slice HO288.out; subst eo77; obtain ⟨Ao78, co78, eo78⟩ := Kd.R_slice HO292.out; subst eo78) | (go_at_call 32; (with_reducible refine (laws_qSame.calls k _ _ t286 _ _ t290 true _ ?side1 ?side2 ?side3 ?side4 A63.out).mono ?_); (case side1 => repeat (first | exact (Kd.R_reads' HO288.out).2.2 | (with_reducible refine Kd.C_alloc ?_ _) | (with_reducible refine Kd.C_drewN ?_ _) | (with_reducible refine Kd.C_drew ?_))); (case side2 => exact (Kd.R_reads' HO288.out).2.1); (case side3 => repeat (first | exact (Kd.R_reads' HO292.out).2.2 | (with_reducible refine Kd.C_alloc ?_ _) | (with_reducible refine Kd.C_drewN ?_ _) | (with_reducible refine Kd.C_drew ?_))); (case side4 => exact (Kd.R_reads' HO292.out).2.1); rintro e w' ⟨rfl, ⟨nd, rfl⟩⟩))
                  go_meet
                  case rel => exact ⟨_, (false), (by first | rfl | (simp; done) | (simp [*]; done)), H', ⟨by first | omega | exact Nat.le_refl _⟩, ⟨by (with_reducible repeat (first | apply Kd.R_alloc | apply Kd.R_drewN | apply Kd.R_drew)); exact Kd.R_mono HO270.out (fun _ hk => hk.1.2)⟩, ⟨by (with_reducible repeat (first | apply Kd.R_alloc | apply Kd.R_drewN | apply Kd.R_drew)); exact Kd.R_mono HO288.out (fun _ hk => hk.1.1.2)⟩, ⟨by (with_reducible repeat (first | refine blk_drewN ?_ _ | refine blk_drew ?_ | refine blk_alloc ?_ _)); exact BK266.out⟩, ⟨by (with_reducible repeat (first | refine blk_drewN ?_ _ | refine blk_drew ?_ | refine blk_alloc ?_ _)); exact BK267.out⟩, ⟨bw_⟩⟩
                ·
                 replace c69 := Bool.eq_false_iff.mpr c69
                 subst c69
                 rw [if_neg (show ¬ (false = true) by decide)] at H
                 exact absurd (H.trans (congrArg some HRT.out)) (by cases k <;> simp [laws_FnRunnersMeetOfAll.j0])
               ·
                replace c68 := Bool.eq_false_iff.mpr c68
                subst c68
                rw [if_neg (show ¬ (false = true) by decide)] at H
                by_cases c79 : t282 = true
                ·
                 subst c79
                 rw [if_pos rfl] at H
                 have H' := Aside0.mk H
                 clear H
                 obtain ⟨Ao80, co80, eo80⟩ := Kd.R_slice HO270.out
                 subst eo80
                 obtain ⟨Ao81, co81, eo81⟩ := Kd.R_slice HO274.out
                 subst eo81
                 go_wp2_with (first | (go_at_call 32; (with_reducible refine (laws_qSame.calls k _ _ t268 _ _ t272 true _ ?side1 ?side2 ?side3 ?side4 A55.out).mono ?_); (case side1 => repeat (first | exact (Kd.R_reads' HO270.out).2.2 | (with_reducible refine Kd.C_alloc ?_ _) | (with_reducible refine Kd.C_drewN ?_ _) | (with_reducible refine Kd.C_drew ?_))); (case side2 => exact (Kd.R_reads' HO270.out).2.1); (case side3 => repeat (first | exact (Kd.R_reads' HO274.out).2.2 | (with_reducible refine Kd.C_alloc ?_ _) | (with_reducible refine Kd.C_drewN ?_ _) | (with_reducible refine Kd.C_drew ?_))); (case side4 => exact (Kd.R_reads' HO274.out).2.1); rintro e w' ⟨rfl, ⟨nd, rfl⟩⟩; obtain ⟨Ao82, co82, eo82⟩ := Kd.R_slice HO288.out; subst eo82; obtain ⟨Ao83, co83, eo83⟩ := Kd.R_slice HO292.out; subst eo83) | (go_at_call 32; (with_reducible refine (laws_qSame.calls k _ _ t286 _ _ t290 true _ ?side1 ?side2 ?side3 ?side4 A63.out).mono ?_); (case side1 => repeat (first | exact (Kd.R_reads' HO288.out).2.2 | (with_reducible refine Kd.C_alloc ?_ _) | (with_reducible refine Kd.C_drewN ?_ _) | (with_reducible refine Kd.C_drew ?_))); (case side2 => exact (Kd.R_reads' HO288.out).2.1); (case side3 => repeat (first | exact (Kd.R_reads' HO292.out).2.2 | (with_reducible refine Kd.C_alloc ?_ _) | (with_reducible refine Kd.C_drewN ?_ _) | (with_reducible refine Kd.C_drew ?_))); (case side4 => exact (Kd.R_reads' HO292.out).2.1); rintro e w' ⟨rfl, ⟨nd, rfl⟩⟩))
                 go_meet
                 case rel => exact ⟨_, (!t289), (by first | rfl | (simp; done) | (simp [*]; done)), H', ⟨by first | omega | exact Nat.le_refl _⟩, ⟨by (with_reducible repeat (first | apply Kd.R_alloc | apply Kd.R_drewN | apply Kd.R_drew)); exact Kd.R_mono HO270.out (fun _ hk => hk.1.2)⟩, ⟨by (with_reducible repeat (first | apply Kd.R_alloc | apply Kd.R_drewN | apply Kd.R_drew)); exact Kd.R_mono HO288.out (fun _ hk => hk.1.1.2)⟩, ⟨by (with_reducible repeat (first | refine blk_drewN ?_ _ | refine blk_drew ?_ | refine blk_alloc ?_ _)); exact BK266.out⟩, ⟨by (with_reducible repeat (first | refine blk_drewN ?_ _ | refine blk_drew ?_ | refine blk_alloc ?_ _)); exact BK267.out⟩, ⟨bw_⟩⟩
                ·
                 replace c79 := Bool.eq_false_iff.mpr c79
                 subst c79
                 rw [if_neg (show ¬ (false = true) by decide)] at H
                 have H' := Aside0.mk H
                 clear H
                 obtain ⟨Ao84, co84, eo84⟩ := Kd.R_slice HO270.out
                 subst eo84
                 obtain ⟨Ao85, co85, eo85⟩ := Kd.R_slice HO274.out
                 subst eo85
                 go_wp2_with (first | (go_at_call 32; (with_reducible refine (laws_qSame.calls k _ _ t268 _ _ t272 true _ ?side1 ?side2 ?side3 ?side4 A55.out).mono ?_); (case side1 => repeat (first | exact (Kd.R_reads' HO270.out).2.2 | (with_reducible refine Kd.C_alloc ?_ _) | (with_reducible refine Kd.C_drewN ?_ _) | (with_reducible refine Kd.C_drew ?_))); (case side2 => exact (Kd.R_reads' HO270.out).2.1); (case side3 => repeat (first | exact (Kd.R_reads' HO274.out).2.2 | (with_reducible refine Kd.C_alloc ?_ _) | (with_reducible refine Kd.C_drewN ?_ _) | (with_reducible refine Kd.C_drew ?_))); (case side4 => exact (Kd.R_reads' HO274.out).2.1); rintro e w' ⟨rfl, ⟨nd, rfl⟩⟩; obtain ⟨Ao86, co86, eo86⟩ := Kd.R_slice HO288.out; subst eo86; obtain ⟨Ao87, co87, eo87⟩ := Kd.R_slice HO292.out; subst eo87) | (go_at_call 32; (with_reducible refine (laws_qSame.calls k _ _ t286 _ _ t290 true _ ?side1 ?side2 ?side3 ?side4 A63.out).mono ?_); (case side1 => repeat (first | exact (Kd.R_reads' HO288.out).2.2 | (with_reducible refine Kd.C_alloc ?_ _) | (with_reducible refine Kd.C_drewN ?_ _) | (with_reducible refine Kd.C_drew ?_))); (case side2 => exact (Kd.R_reads' HO288.out).2.1); (case side3 => repeat (first | exact (Kd.R_reads' HO292.out).2.2 | (with_reducible refine Kd.C_alloc ?_ _) | (with_reducible refine Kd.C_drewN ?_ _) | (with_reducible refine Kd.C_drew ?_))); (case side4 => exact (Kd.R_reads' HO292.out).2.1); rintro e w' ⟨rfl, ⟨nd, rfl⟩⟩))
                 go_meet
                 case rel => exact ⟨_, (false), (by first | rfl | (simp; done) | (simp [*]; done)), H', ⟨by first | omega | exact Nat.le_refl _⟩, ⟨by (with_reducible repeat (first | apply Kd.R_alloc | apply Kd.R_drewN | apply Kd.R_drew)); exact Kd.R_mono HO270.out (fun _ hk => hk.1.2)⟩, ⟨by (with_reducible repeat (first | apply Kd.R_alloc | apply Kd.R_drewN | apply Kd.R_drew)); exact Kd.R_mono HO288.out (fun _ hk => hk.1.1.2)⟩, ⟨by (with_reducible repeat (first | refine blk_drewN ?_ _ | refine blk_drew ?_ | refine blk_alloc ?_ _)); exact BK266.out⟩, ⟨by (with_reducible repeat (first | refine blk_drewN ?_ _ | refine blk_drew ?_ | refine blk_alloc ?_ _)); exact BK267.out⟩, ⟨bw_⟩⟩
             ·
              rw [if_neg c66] at H
              have c66b0 : (t294 == t296) = false := beq_eq_false_iff_ne.mpr c66
              have c66b1 : (t294 != t296) = true := bne_iff_ne.mpr c66
              exact absurd (H.trans (congrArg some HRT.out)) (by cases k <;> simp [laws_FnRunnersMeetOfAll.j0])
           ·
            replace c64 := Bool.eq_false_iff.mpr c64
            subst c64
            rw [if_neg (show ¬ (false = true) by decide)] at H
            exact absurd (H.trans (congrArg some HRT.out)) (by cases k <;> simp [laws_FnRunnersMeetOfAll.j0])
         ·
          rw [if_neg c61] at H
          have c61b0 : (t281 == t284) = false := beq_eq_false_iff_ne.mpr c61
          have c61b1 : (t281 != t284) = true := bne_iff_ne.mpr c61
          exact absurd (H.trans (congrArg some HRT.out)) (by cases k <;> simp [laws_FnRunnersMeetOfAll.j0])
        ·
         rw [if_neg c60] at H
         have c60b0 : (t280 == t283) = false := beq_eq_false_iff_ne.mpr c60
         have c60b1 : (t280 != t283) = true := bne_iff_ne.mpr c60
         exact absurd (H.trans (congrArg some HRT.out)) (by cases k <;> simp [laws_FnRunnersMeetOfAll.j0])
      ·
       rw [if_neg c58] at H
       have c58b0 : (t276 == t278) = false := beq_eq_false_iff_ne.mpr c58
       have c58b1 : (t276 != t278) = true := bne_iff_ne.mpr c58
       exact absurd (H.trans (congrArg some HRT.out)) (by cases k <;> simp [laws_FnRunnersMeetOfAll.j0])
    ·
     replace c56 := Bool.eq_false_iff.mpr c56
     subst c56
     rw [if_neg (show ¬ (false = true) by decide)] at H
     exact absurd (H.trans (congrArg some HRT.out)) (by cases k <;> simp [laws_FnRunnersMeetOfAll.j0])
end Go.Proofs.Ytgobnhoblofglaa.PFnRunnersMeetOfAll
